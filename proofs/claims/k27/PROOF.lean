import PyProof.Rows.All
import Wide.All
import OpenK.AllK
import Wide.FinOn
import HandS.ForMost
import HandS.Exc
import HandS.TryOnly
import HandS.ExcOwn
import HandS.ExcInit
import HandS.Evl
import HandS.Wide
import HandS.Gcd
import HandS.TupAny
import HandS.TupMul
import HandS.Flow
import HandS.IsInst
import HandS.TupLe
import HandS.WideBits
import HandS.Lambda
import HandS.Iter
import HandS.Zip
import KE.GoesEnum
import KE.GoesMore
import KE.GoesZip
import HandS.Comp
import HandS.List
import HandS.Style
import HandS.Small
import HandS.Conv
import HandS.SetFor
import HandS.Strs
import HandS.Words
import HandS.RaiseMore
import HandS.HeadWalk
import HandS.CallRecv
import HandS.Defaults
import HandS.HeadEnd
import HandS.HeadHook1
import HandS.HeadHook2
import HandS.HeadHook3
import HandS.HeadHook4
import HandS.Head3
import HandS.Head0
import HandS.Head1
import HandS.Head2
import PySem.Challenge.RW_loanpapers_k27_rings_by_hand
set_option Elab.async false
set_option linter.all false
set_option Elab.async false
set_option linter.all false
set_option maxRecDepth 100000
set_option maxHeartbeats 4000000
namespace Pd
open PySem L2 Evl

/-! ### data trees -/
inductive D where
  | non | bl (b : Bool) | int (i : Int) | str (x : Str)
  | tup (xs : List D) | lst (xs : List D)
  | dct (kvs : List (Nat × D))
  | ins (c : Nat) (fs : List D)
  | pen
  | fn (k : Nat)
  | clo (c : Option Nat) (fs : List D)
  deriving Inhabited

/-- the state of the law's source of numbers -/
structure PenSt where
  cells : List Int
  at_ : Nat
  digits : Int
  count : Nat
  fold : Int

/-- what is fixed: the written part, the pen's address, the classes and their fields -/
structure Glo where
  K : PySem.W.Frag
  P : Addr
  cA : Nat → Addr
  cF : Nat → List Str
  kS : Nat → Str
  fA : Nat → Addr

/-- what is known of the class number c -/
structure ClsT (G : Glo) (c : Nat) : Prop where
  cl : Cls G.K (G.cA c)
  ha : PySem.W.findIn G.K (.ref (G.cA c)) "__class__" = some (some (.builtin "object.__class__"))
  hn : PySem.W.specialIn G.K (.builtin "object.__class__") "__get__" = some (some (.builtin "getset_descriptor.__get__"))
  htk : PySem.W.takesIn G.K (.builtin "object.__class__") = some true
  hm : PySem.W.mroIn G.K (G.cA c) (.type "object") = some true
  nd : (G.cF c).Nodup
  na : ∀ f ∈ G.cF c, NoAttr G.K (G.cA c) f
mutual
inductive Rep (G : Glo) (H : Hp) : V → D → Prop
  | non : Rep G H .non .non
  | bl (b : Bool) : Rep G H (.bl b) (.bl b)
  | int (i : Int) : Rep G H (.int i) (.int i)
  | str (x : Str) : Rep G H (.str x) (.str x)
  | tup {a : Addr} {vs : List V} {ds : List D} : SqT G.K H a vs → Reps G H vs ds → Rep G H (.ref a) (.tup ds)
  | lst {a : Addr} {vs : List V} {ds : List D} : H a = some (.lst vs) → Reps G H vs ds → Rep G H (.ref a) (.lst ds)
  | dct {a : Addr} {kvs : List (Key × V)} {ks : List Nat} {vs : List V} {ds : List D} : H a = some (.dK kvs) → kvs.map (·.1) = ks.map (fun k => Sum.inr (G.kS k)) → kvs.map (·.2) = vs → Reps G H vs ds → ks.length = ds.length → Rep G H (.ref a) (.dct (ks.zip ds))
  | ins {a dx : Addr} {c : Nat} {fs : List (Str × V)} {vs : List V} {ds : List D} : ClsT G c → H a = some (.ins (G.cA c) dx fs) → fs.map (·.1) = G.cF c → fs.map (·.2) = vs → Reps G H vs ds → Rep G H (.ref a) (.ins c ds)
  | pen : Rep G H (.ref G.P) .pen
  | fn (k : Nat) : Rep G H (.ref (G.fA k)) (.fn k)
inductive Reps (G : Glo) (H : Hp) : List V → List D → Prop
  | nil : Reps G H [] []
  | cons {v : V} {vs : List V} {d : D} {ds : List D} : Rep G H v d → Reps G H vs ds → Reps G H (v :: vs) (d :: ds)
end

section
variable {G : Glo} {H H' : Hp}
mutual
theorem Rep.mono (e : Ex H H') : ∀ {v : V} {d : D}, Rep G H v d → Rep G H' v d
  | _, _, .non => .non
  | _, _, .bl b => .bl b
  | _, _, .int i => .int i
  | _, _, .str x => .str x
  | _, _, .tup s r => .tup (ex_t e s) (Reps.mono e r)
  | _, _, .lst s r => .lst (e _ _ s) (Reps.mono e r)
  | _, _, .dct h k v r l => .dct (e _ _ h) k v (Reps.mono e r) l
  | _, _, .ins t h k v r => .ins t (e _ _ h) k v (Reps.mono e r)
  | _, _, .pen => .pen
  | _, _, .fn k => .fn k
theorem Reps.mono (e : Ex H H') : ∀ {vs : List V} {ds : List D}, Reps G H vs ds → Reps G H' vs ds
  | _, _, .nil => .nil
  | _, _, .cons h t => .cons (Rep.mono e h) (Reps.mono e t)
end
theorem Reps.length : ∀ {vs : List V} {ds : List D}, Reps G H vs ds → vs.length = ds.length
  | _, _, .nil => rfl
  | _, _, .cons _ t => by rw [List.length_cons, List.length_cons, Reps.length t]
theorem Reps.append : ∀ {vs ws : List V} {ds es : List D}, Reps G H vs ds → Reps G H ws es → Reps G H (vs ++ ws) (ds ++ es)
  | _, _, _, _, .nil, s => s
  | _, _, _, _, .cons h t, s => .cons h (Reps.append t s)
theorem Reps.get : ∀ {vs : List V} {ds : List D} {i : Nat} {d : D}, Reps G H vs ds → ds[i]? = some d → ∃ v, vs[i]? = some v ∧ Rep G H v d
  | _, _, _, _, .nil, e => by simp at e
  | _, _, 0, _, .cons h _, e => by simp at e; subst e; exact ⟨_, rfl, h⟩
  | _, _, i + 1, _, .cons _ t, e => by
    obtain ⟨v, h1, h2⟩ := Reps.get (i := i) t (by simpa using e)
    exact ⟨v, by simpa using h1, h2⟩
theorem Reps.getV : ∀ {vs : List V} {ds : List D} {i : Nat} {v : V}, Reps G H vs ds → vs[i]? = some v → ∃ d, ds[i]? = some d ∧ Rep G H v d
  | _, _, _, _, .nil, e => by simp at e
  | _, _, 0, _, .cons h _, e => by simp at e; subst e; exact ⟨_, rfl, h⟩
  | _, _, i + 1, _, .cons _ t, e => by
    obtain ⟨v, h1, h2⟩ := Reps.getV (i := i) t (by simpa using e)
    exact ⟨v, by simpa using h1, h2⟩
theorem Reps.set {v : V} {d : D} (h : Rep G H v d) : ∀ {vs : List V} {ds : List D} (i : Nat), Reps G H vs ds → Reps G H (vs.set i v) (ds.set i d)
  | _, _, _, .nil => .nil
  | _, _, 0, .cons _ t => .cons h t
  | _, _, i + 1, .cons q t => .cons q (Reps.set h i t)
theorem Reps.take : ∀ {vs : List V} {ds : List D} (n : Nat), Reps G H vs ds → Reps G H (vs.take n) (ds.take n)
  | _, _, 0, _ => .nil
  | _, _, _ + 1, .nil => .nil
  | _, _, n + 1, .cons r t => .cons r (Reps.take n t)
theorem Reps.drop : ∀ {vs : List V} {ds : List D} (n : Nat), Reps G H vs ds → Reps G H (vs.drop n) (ds.drop n)
  | _, _, 0, r => r
  | _, _, _ + 1, .nil => .nil
  | _, _, n + 1, .cons _ t => Reps.drop n t
theorem Reps.eraseIdx : ∀ {vs : List V} {ds : List D} (i : Nat), Reps G H vs ds → Reps G H (vs.eraseIdx i) (ds.eraseIdx i)
  | _, _, _, .nil => .nil
  | _, _, 0, .cons _ t => t
  | _, _, i + 1, .cons q t => .cons q (Reps.eraseIdx i t)
theorem Reps.rep {vs : List V} {ds : List D} (h : Reps G H vs ds) : ∀ n : Nat, Reps G H (List.replicate n vs).flatten (List.replicate n ds).flatten
  | 0 => .nil
  | n + 1 => by
    rw [List.replicate_succ, List.replicate_succ, List.flatten_cons, List.flatten_cons]
    exact h.append (Reps.rep h n)
end

/-! ### slots -/
inductive SV where
  | im (d : D)
  | ow (xs : List D)
  | od (kvs : List (Nat × D))
  deriving Inhabited
def SV.isOwn : SV → Bool
  | .im _ => false
  | _ => true
/-- the value as data -/
def SV.d : SV → D
  | .im d => d
  | .ow xs => .lst xs
  | .od kvs => .dct kvs
abbrev Rho := List (Option SV)

/-- a slot's (or a new) value: as data below B, or an object of its own -/
def RSV (G : Glo) (B H : Hp) (v : V) : SV → Prop
  | .im d => Rep G B v d
  | .ow xs => ∃ p vs, v = .ref p ∧ B p = none ∧ p ≠ G.P ∧ H p = some (.lst vs) ∧ Reps G B vs xs
  | .od kvs => ∃ p ks vs, v = .ref p ∧ B p = none ∧ p ≠ G.P ∧ H p = some (.dK (ks.zip vs)) ∧ ks = (kvs.map (·.1)).map (fun k => Sum.inr (G.kS k)) ∧ Reps G B vs (kvs.map (·.2))

def PenAt (G : Glo) (B H : Hp) (S : PenSt) : Prop :=
  ∃ L, H G.P = some (.dK [(.inr "cells", .ref L), (.inr "at", .int S.at_), (.inr "digits", .int S.digits), (.inr "count", .int S.count), (.inr "fold", .int S.fold)]) ∧ Rep G B (.ref L) (.lst (S.cells.map .int)) ∧ 0 ≤ S.digits

/-- the addresses that slots own -/
def Own (σ : L2.St) (ρ : Rho) (a : Addr) : Prop := ∃ (i : Nat) (sv : SV), ρ[i]? = some (some sv) ∧ sv.isOwn = true ∧ σ[i]? = some (some (V.ref a))

structure Wld (G : Glo) (B H : Hp) (σ : L2.St) (ρ : Rho) (S : PenSt) : Prop where
  sub : Ex B H
  pB : B G.P = none
  pen : PenAt G B H S
  len : ρ.length = σ.length
  sl : ∀ (i : Nat) (sv : SV), ρ[i]? = some (some sv) → ∃ v : V, σ[i]? = some (some v) ∧ RSV G B H v sv
  ap : ∀ (i j : Nat) (x y : SV) (p : Addr), ρ[i]? = some (some x) → ρ[j]? = some (some y) → x.isOwn = true → y.isOwn = true → σ[i]? = some (some (V.ref p)) → σ[j]? = some (some (V.ref p)) → i = j

/-- from one state to a later one -/
structure Stp (G : Glo) (B H : Hp) (σ : L2.St) (ρ : Rho) (B' H' : Hp) (σ' : L2.St) (ρ' : Rho) : Prop where
  b : Ex B B'
  h : ∀ a o, H a = some o → a ≠ G.P → ¬ Own σ ρ a → H' a = some o
  n : ∀ a o, B' a = some o → B a = none → H a = none ∨ Own σ ρ a
  p : B' G.P = none
  t : ∀ a, H' a = none → H a = none
  o : ∀ a, Own σ' ρ' a → a ≠ G.P ∧ (Own σ ρ a ∨ H a = none)
/-- .. where the slots don't matter any more -/
structure StpX (G : Glo) (B H : Hp) (σ : L2.St) (ρ : Rho) (B' H' : Hp) : Prop where
  b : Ex B B'
  h : ∀ a o, H a = some o → a ≠ G.P → ¬ Own σ ρ a → H' a = some o
  n : ∀ a o, B' a = some o → B a = none → H a = none ∨ Own σ ρ a
  p : B' G.P = none
  t : ∀ a, H' a = none → H a = none

section
variable {G : Glo} {B H B1 H1 B2 H2 : Hp} {σ σ1 σ2 : L2.St} {ρ ρ1 ρ2 : Rho} {S S1 S2 : PenSt}
theorem Wld.own_ne (w : Wld G B H σ ρ S) {a : Addr} (o : Own σ ρ a) : a ≠ G.P ∧ B a = none := by
  obtain ⟨i, sv, h1, h2, h3⟩ := o
  obtain ⟨v, e, r⟩ := w.sl i sv h1
  rw [h3] at e
  cases e
  cases sv with
  | im d => cases h2
  | ow xs =>
    obtain ⟨p, vs, e, b, n, _⟩ := r
    cases e
    exact ⟨n, b⟩
  | od kvs =>
    obtain ⟨p, ks, vs, e, b, n, _⟩ := r
    cases e
    exact ⟨n, b⟩
theorem Stp.refl (w : Wld G B H σ ρ S) : Stp G B H σ ρ B H σ ρ := ⟨Ex.refl B, fun _ _ h _ _ => h, fun a o h n => (by rw [n] at h; cases h), w.pB, fun _ h => h, fun a o => ⟨(w.own_ne o).1, .inl o⟩⟩
theorem Stp.x (s : Stp G B H σ ρ B1 H1 σ1 ρ1) : StpX G B H σ ρ B1 H1 := ⟨s.b, s.h, s.n, s.p, s.t⟩
theorem Stp.transX (s : Stp G B H σ ρ B1 H1 σ1 ρ1) (t : StpX G B1 H1 σ1 ρ1 B2 H2) : StpX G B H σ ρ B2 H2 := by
  refine ⟨s.b.trans t.b, fun a o h hp ho => ?_, fun a o h n => ?_, t.p, fun a h => s.t a (t.t a h)⟩
  · refine t.h a o (s.h a o h hp ho) hp fun q => ?_
    rcases (s.o a q).2 with z | z
    · exact ho z
    · rw [h] at z; cases z
  · have hp : a ≠ G.P := fun z => by rw [z, t.p] at h; cases h
    cases e : B1 a with
    | some u => exact s.n a u e n
    | none =>
      rcases t.n a o h e with z | z
      · exact .inl (s.t a z)
      · exact (s.o a z).2.symm
theorem Stp.trans (s : Stp G B H σ ρ B1 H1 σ1 ρ1) (t : Stp G B1 H1 σ1 ρ1 B2 H2 σ2 ρ2) : Stp G B H σ ρ B2 H2 σ2 ρ2 := by
  have x := s.transX t.x
  refine ⟨x.b, x.h, x.n, x.p, x.t, fun a q => ?_⟩
  obtain ⟨hp, z⟩ := t.o a q
  refine ⟨hp, ?_⟩
  rcases z with z | z
  · exact (s.o a z).2
  · exact .inr (s.t a z)
/-- what a new value's own object asks: it is no slot's, it is new -/
def Fre (σ : L2.St) (ρ : Rho) (H0 : Hp) (v : V) (sv : SV) : Prop := sv.isOwn = true → ∃ p : Addr, v = V.ref p ∧ ¬ Own σ ρ p ∧ H0 p = none

theorem Wld.P_some (w : Wld G B H σ ρ S) : ∃ o, H G.P = some o := let ⟨_, h, _⟩ := w.pen; ⟨_, h⟩
theorem Wld.neP (w : Wld G B H σ ρ S) {p : Addr} (hp : H p = none) : p ≠ G.P := fun e => by
  obtain ⟨o, h⟩ := w.P_some
  rw [e, h] at hp
  cases hp
theorem Wld.Bn (w : Wld G B H σ ρ S) {p : Addr} (hp : H p = none) : B p = none := fresh_back w.sub hp
theorem Wld.ownSome (w : Wld G B H σ ρ S) {a : Addr} (o : Own σ ρ a) : ∃ u, H a = some u := by
  obtain ⟨i, sv, h1, h2, h3⟩ := o
  obtain ⟨v, e, r⟩ := w.sl i sv h1
  rw [h3] at e
  cases e
  cases sv with
  | im d => cases h2
  | ow xs =>
    obtain ⟨p, vs, e, b, n, h, _⟩ := r
    cases e
    exact ⟨_, h⟩
  | od kvs =>
    obtain ⟨p, ks, vs, e, b, n, h, _⟩ := r
    cases e
    exact ⟨_, h⟩
theorem Wld.notOwn (w : Wld G B H σ ρ S) {a : Addr} (h : H a = none) : ¬ Own σ ρ a := fun o => by
  obtain ⟨u, e⟩ := w.ownSome o
  rw [h] at e
  cases e
theorem Ex.upd2 {B H : Hp} (e : Ex B H) {p : Addr} {o : HO} : Ex (upd B p o) (upd H p o) := fun a u h => by
  by_cases q : a = p
  · subst q
    rw [upd_same] at h ⊢
    exact h
  · rw [upd_ne q] at h ⊢
    exact e a u h
theorem PenAt.mono (p : PenAt G B H S) (e : Ex B B1) (h : ∀ o, H G.P = some o → H1 G.P = some o) : PenAt G B1 H1 S := by
  obtain ⟨L, h1, h2, h3⟩ := p
  exact ⟨L, h _ h1, h2.mono e, h3⟩
/-- a slot's value stays -/
theorem RSV.stay {v : V} {sv : SV} (r : RSV G B H v sv) (e : Ex B B1) (hn : ∀ p : Addr, v = V.ref p → sv.isOwn = true → B1 p = none ∧ ∀ o, H p = some o → H1 p = some o) : RSV G B1 H1 v sv := by
  cases sv with
  | im d => exact Rep.mono e r
  | ow xs =>
    obtain ⟨p, vs, e1, b, n, h, q⟩ := r
    obtain ⟨z1, z2⟩ := hn p e1 rfl
    exact ⟨p, vs, e1, z1, n, z2 _ h, q.mono e⟩
  | od kvs =>
    obtain ⟨p, ks, vs, e1, b, n, h, k, q⟩ := r
    obtain ⟨z1, z2⟩ := hn p e1 rfl
    exact ⟨p, ks, vs, e1, z1, n, z2 _ h, k, q.mono e⟩
theorem RSV.at {v : V} {sv : SV} (r : RSV G B H v sv) (h : sv.isOwn = true) : ∃ (p : Addr) (o : HO), v = V.ref p ∧ B p = none ∧ p ≠ G.P ∧ H p = some o := by
  cases sv with
  | im d => cases h
  | ow xs => exact let ⟨p, vs, e1, b, n, h, q⟩ := r; ⟨p, _, e1, b, n, h⟩
  | od kvs => exact let ⟨p, ks, vs, e1, b, n, h, k, q⟩ := r; ⟨p, _, e1, b, n, h⟩
/-- the heap has grown -/
structure Grw (G : Glo) (B H B' H' : Hp) : Prop where
  b : Ex B B'
  h : Ex H H'
  n : ∀ a o, B' a = some o → B a = none → H a = none
  sub : Ex B' H'
  p : B' G.P = none
theorem Wld.grw (w : Wld G B H σ ρ S) (g : Grw G B H B1 H1) : Wld G B1 H1 σ ρ S ∧ Stp G B H σ ρ B1 H1 σ ρ := by
  refine ⟨⟨g.sub, g.p, w.pen.mono g.b (fun u h => g.h _ _ h), w.len, fun i sv h => ?_, w.ap⟩, ⟨g.b, fun a u h _ _ => g.h _ _ h, fun a u h n => .inl (g.n a u h n), g.p, fun a h => fresh_back g.h h, fun a q => ⟨(w.own_ne q).1, .inl q⟩⟩⟩
  obtain ⟨v, e, r⟩ := w.sl i sv h
  refine ⟨v, e, r.stay g.b fun q hq hs => ⟨?_, fun u hu => g.h _ _ hu⟩⟩
  obtain ⟨q', u, e', b, _, hh⟩ := r.at hs
  rw [hq] at e'
  cases e'
  cases z : B1 q with
  | none => rfl
  | some o =>
    have := g.n q o z b
    rw [hh] at this
    cases this
/-- a new object, as data -/
theorem Wld.newB (w : Wld G B H σ ρ S) {p : Addr} (hp : H p = none) (o : HO) : Wld G (upd B p o) (upd H p o) σ ρ S ∧ Stp G B H σ ρ (upd B p o) (upd H p o) σ ρ := by
  have nP := w.neP hp
  have bp := w.Bn hp
  have ex : Ex B (upd B p o) := Ex.new bp
  have hx : Ex H (upd H p o) := Ex.new hp
  refine ⟨⟨Ex.upd2 w.sub, (by rw [upd_ne nP.symm]; exact w.pB), w.pen.mono ex (fun u h => hx _ _ h), w.len, fun i sv h => ?_, w.ap⟩, ⟨ex, fun a u h _ _ => hx _ _ h, fun a u h n => ?_, (by rw [upd_ne nP.symm]; exact w.pB), fun a h => fresh_back hx h, fun a q => ⟨(w.own_ne q).1, .inl q⟩⟩⟩
  · obtain ⟨v, e, r⟩ := w.sl i sv h
    refine ⟨v, e, r.stay ex fun q hq hs => ⟨?_, fun u hu => hx _ _ hu⟩⟩
    obtain ⟨q', u, e', b, _, hh⟩ := r.at hs
    rw [hq] at e'
    cases e'
    rw [upd_ne (ne_of_none hh hp)]
    exact b
  · by_cases q : a = p
    · rw [q]; exact .inl hp
    · rw [upd_ne q, n] at h
      cases h
/-- a new object of its own -/
theorem Wld.newO (w : Wld G B H σ ρ S) {p : Addr} (hp : H p = none) (o : HO) : Wld G B (upd H p o) σ ρ S ∧ Stp G B H σ ρ B (upd H p o) σ ρ := by
  have hx : Ex H (upd H p o) := Ex.new hp
  refine ⟨⟨w.sub.trans hx, w.pB, w.pen.mono (Ex.refl B) (fun u h => hx _ _ h), w.len, fun i sv h => ?_, w.ap⟩, ⟨Ex.refl B, fun a u h _ _ => hx _ _ h, fun a u h n => (by rw [n] at h; cases h), w.pB, fun a h => fresh_back hx h, fun a q => ⟨(w.own_ne q).1, .inl q⟩⟩⟩
  obtain ⟨v, e, r⟩ := w.sl i sv h
  refine ⟨v, e, r.stay (Ex.refl B) fun q hq hs => ⟨?_, fun u hu => hx _ _ hu⟩⟩
  obtain ⟨q', u, e', b, _, hh⟩ := r.at hs
  rw [hq] at e'
  cases e'
  exact b
end
end Pd
set_option Elab.async false
set_option linter.all false
set_option maxRecDepth 100000
set_option maxHeartbeats 4000000
namespace Pd
open PySem L2

/-! ### results -/
inductive R (α : Type) where
  | ok (a : α) (ρ : Rho) (S : PenSt)
  | exc (c : Nat) (fs : List D) (S : PenSt)
  | bad
abbrev M (α : Type) := Rho → PenSt → R α
def M.ret {α : Type} (a : α) : M α := fun ρ S => .ok a ρ S
def M.bad {α : Type} : M α := fun _ _ => .bad
def M.bnd {α β : Type} (x : M α) (f : α → M β) : M β := fun ρ S => match x ρ S with
  | .ok a ρ' S' => f a ρ' S'
  | .exc c fs S' => .exc c fs S'
  | .bad => .bad
def M.opt {α : Type} : Option α → M α
  | some a => M.ret a
  | none => M.bad
inductive FR where
  | ok (sv : SV) (S : PenSt)
  | exc (c : Nat) (fs : List D) (S : PenSt)
  | bad
abbrev DFun := List D → PenSt → FR
inductive Flow' where
  | nx | brk | cnt | ret (sv : SV)

/-! ### the small language -/
inductive BOp where
  | add | sub | mul | fdiv | mod | pow
inductive COp where
  | eq | ne | lt | le | gt | ge | isN | notN | in_ | notIn
inductive IT where
  | nm (i : Nat)
  | tp (ts : List IT)
inductive Ty where
  | tuple | list | int | bool | str | cls (c : Nat)
mutual
inductive IE where
  | var (i : Nat) | cst (d : D)
  | tup (es : List IE) | lst (es : List IE) | dct (ks : List Nat) (es : List IE)
  | bin (o : BOp) (a b : IE) | neg (a : IE) | not (a : IC)
  | cmp (o : COp) (a b : IE) | chn (o o' : COp) (a b c : IE)
  | and (a b : IE) | or (a b : IE) | ife (t : IC) (a b : IE)
  | ix (a i : IE) | key (a : IE) (k : Nat) | slc (a : IE) (lo hi : Option IE)
  | atr (a : IE) (ps : List (Nat × Nat))
  | call (F : DFun) (es : List IE)
  | isi (e : IE) (ts : List Ty)
  | cmpr (own : List Nat) (tg : IT) (it : II) (ifs : List IC) (elt : IE)
  | pop (i : Nat) (e : IE) | lenv (i : Nat) | ixv (i : Nat) (e : IE) | keyv (i k : Nat)
  | rngL (tup : Bool) (a : IE)
  | unf (i : Nat) (e : IE)
  | pget (i k : Nat)
  | bitlen (e : IE)
inductive IC where
  | and (a b : IC) | or (a b : IC) | not (a : IC) | tst (e : IE)
inductive II where
  | seq (e : IE) | rng1 (a : IE) | rng2 (a b : IE) | enm (e : IE) | zip2 (a b : IE) | zip3 (a b c : IE)
end
inductive IS where
  | asg (t : IT) (e : IE) | par (is : List Nat) (es : List IE) | aug (i : Nat) (e : IE)
  | app (i : Nat) (e : IE) | sto (i : Nat) (k e : IE) | stk (i : Nat) (k : Nat) (e : IE)
  | drop (e : IE) | ret (e : IE) | retv (i : Nat) | retN
  | ite (t : IC) (a b : List IS)
  | for_ (tg : IT) (it : II) (body : List IS)
  | whl (fuel : Nat) (body : List IS)
  | brk | cnt | pass
  | rs (c n : Nat) (es : List IE)
  | stks (i : Nat) (ks : List Nat) (es : List IE)
  | pset (i k : Nat) (e : IE)

/-! ### values -/
mutual
def D.py : D → Option PyData
  | .non => some .none
  | .bl b => some (.bool b)
  | .int i => some (.int i)
  | .str x => some (.str x)
  | .tup xs => (D.pys xs).map .tuple
  | .lst xs => (D.pys xs).map .list
  | .dct _ => none
  | .ins _ _ => none
  | .pen => none
  | .fn _ => none
  | .clo _ _ => none
def D.pys : List D → Option (List PyData)
  | [] => some []
  | d :: ds => match D.py d, D.pys ds with
    | some a, some b => some (a :: b)
    | _, _ => none
end
/-- == of two data trees -/
def eqD (a b : D) : Option Bool := match a.py, b.py with
  | some x, some y => if SeqAt.shaped x && SeqAt.shaped y then some (PyData.eqv x y) else none
  | _, _ => none
def flatD : D → Option V
  | .non => some .non
  | .bl b => some (.bl b)
  | .int i => some (.int i)
  | .str x => some (.str x)
  | _ => none
def D.items : D → Option (List D)
  | .tup xs => some xs
  | .lst xs => some xs
  | _ => none
def inD (a b : D) : Option Bool := match flatD a, b.items with
  | some x, some ys => match ys.mapM flatD with
    | some vs => some (inV x vs)
    | none => none
  | _, _ => none
def mulOk (i j : Int) : Bool := decide (i.natAbs.log2 + j.natAbs.log2 < 1000000)
def divOk (j : Int) : Bool := decide (j ≠ 0) && decide (j.natAbs.log2 < 9000)
def powOk (i j : Int) : Bool := decide (0 ≤ j) && decide (j ≤ 1000) && decide (i.natAbs < 2 ^ 64)
def binD : BOp → D → D → Option SV
  | .add, .int i, .int j => some (.im (.int (i + j)))
  | .add, .tup xs, .tup ys => if xs.length + ys.length ≤ 100000 then some (.im (.tup (xs ++ ys))) else none
  | .add, .lst xs, .lst ys => if xs.length + ys.length ≤ 100000 then some (.ow (xs ++ ys)) else none
  | .add, .str x, .str y => if x.length + y.length ≤ 100000 then some (.im (.str (x ++ y))) else none
  | .sub, .int i, .int j => some (.im (.int (i - j)))
  | .mul, .int i, .int j => if mulOk i j then some (.im (.int (i * j))) else none
  | .mul, .tup xs, .int k => if decide (1 ≤ k) && decide (k ≤ 1000) && decide (xs.length ≤ 1000) && decide (1 ≤ xs.length) then some (.im (.tup (List.replicate k.toNat xs).flatten)) else none
  | .mul, .lst xs, .int k => if decide (0 ≤ k) && decide (k ≤ 1000) && decide (xs.length ≤ 1000) then some (.ow (List.replicate k.toNat xs).flatten) else none
  | .fdiv, .int i, .int j => if divOk j then some (.im (.int (i.fdiv j))) else none
  | .mod, .int i, .int j => if decide (j ≠ 0) then some (.im (.int (i.fmod j))) else none
  | .pow, .int i, .int j => if powOk i j then some (.im (.int (i ^ j.toNat))) else none
  | _, _, _ => none
def cmpD : COp → D → D → Option Bool
  | .eq, a, b => eqD a b
  | .ne, a, b => (eqD a b).map (!·)
  | .lt, .int i, .int j => some (decide (i < j))
  | .le, .int i, .int j => some (decide (i ≤ j))
  | .gt, .int i, .int j => some (decide (j < i))
  | .ge, .int i, .int j => some (decide (j ≤ i))
  | .isN, a, .non => some (match a with | .non => true | _ => false)
  | .notN, a, .non => some (match a with | .non => false | _ => true)
  | .isN, .bl a, .bl b => some (decide (a = b))
  | .notN, .bl a, .bl b => some (!decide (a = b))
  | .in_, a, b => inD a b
  | .notIn, a, b => (inD a b).map (!·)
  | _, _, _ => none
def truD : D → Option Bool
  | .non => some false
  | .bl b => some b
  | .int i => some (i != 0)
  | .tup xs => some (!xs.isEmpty)
  | .lst xs => some (!xs.isEmpty)
  | _ => none
def ixD : D → D → Option D
  | .tup xs, .int i => atI xs i
  | .lst xs, .int i => atI xs i
  | _, _ => none
def keyD : D → Nat → Option D
  | .dct kvs, k => kvs.lookup k
  | _, _ => none
def cutD {α : Type} (xs : List α) (lo hi : Option Int) : List α := (xs.drop (HT.sIx xs.length 0 lo)).take (HT.sIx xs.length xs.length hi - HT.sIx xs.length 0 lo)
def slcD : D → Option Int → Option Int → Option SV
  | .tup xs, lo, hi => some (.im (.tup (cutD xs lo hi)))
  | .lst xs, lo, hi => some (.ow (cutD xs lo hi))
  | _, _, _ => none
def atrD : D → List (Nat × Nat) → Option D
  | .ins c fs, ps => match ps.lookup c with
    | some k => fs[k]?
    | none => none
  | _, _ => none
def isTy : D → Ty → Option Bool
  | .non, .cls _ => some false | .non, _ => some false
  | .bl _, .bool => some true | .bl _, .int => some true | .bl _, _ => some false
  | .int _, .int => some true | .int _, _ => some false
  | .str _, .str => some true | .str _, _ => some false
  | .tup _, .tuple => some true | .tup _, _ => some false
  | .lst _, .list => some true | .lst _, _ => some false
  | .dct _, _ => some false
  | .ins c _, .cls k => some (c == k) | .ins _ _, _ => some false
  | _, _ => none
def isTys (d : D) : List Ty → Option Bool
  | [] => some false
  | t :: ts => match isTy d t with
    | some true => some true
    | some false => isTys d ts
    | none => none
def intD : D → Option Int
  | .int i => some i
  | _ => none
def rngL (lo : Int) (n : Nat) : List D := (List.range n).map fun k => D.int (lo + (k : Nat))
def enmL (k : Nat) : List D → List D
  | [] => []
  | d :: ds => .tup [.int k, d] :: enmL (k + 1) ds
def zip2L : List D → List D → List D
  | a :: as, b :: bs => .tup [a, b] :: zip2L as bs
  | _, _ => []
def zip3L : List D → List D → List D → List D
  | a :: as, b :: bs, c :: cs => .tup [a, b, c] :: zip3L as bs cs
  | _, _, _ => []

/-! ### slots -/
def wipeE (ρ : Rho) : List Nat → Rho
  | [] => ρ
  | v :: vs => (wipeE ρ vs).set v none
mutual
def asgT : IT → D → Rho → Option Rho
  | .nm i, d, ρ => if i < ρ.length then some (ρ.set i (some (.im d))) else none
  | .tp ts, .tup ds, ρ => asgTs ts ds ρ
  | .tp _, _, _ => none
def asgTs : List IT → List D → Rho → Option Rho
  | [], [], ρ => some ρ
  | t :: ts, d :: ds, ρ => match asgT t d ρ with
    | some ρ' => asgTs ts ds ρ'
    | none => none
  | _, _, _ => none
end
def setSV (i : Nat) (sv : SV) : M Unit := fun ρ S => if i < ρ.length then .ok () (ρ.set i (some sv)) S else .bad
def getV (i : Nat) : M SV := fun ρ S => match ρ[i]? with
  | some (some (.im d)) => .ok (.im d) ρ S
  | some (some sv) => .ok (.im sv.d) (ρ.set i (some (.im sv.d))) S
  | _ => .bad
/-- f(d ..) -/
def callM (F : DFun) (ds : List D) : M SV := fun ρ S => match F ds S with
  | .ok sv S' => .ok sv ρ S'
  | .exc c fs S' => .exc c fs S'
  | .bad => .bad
def compLoop (own : List Nat) (tg : IT) (cond : M Bool) (elt : M SV) : List D → List D → M (List D)
  | [], acc => M.ret acc
  | d :: ds, acc => fun ρ S => match asgT tg d (wipeE ρ own) with
    | none => .bad
    | some ρ1 => match cond ρ1 S with
      | .ok true ρ2 S2 => match elt ρ2 S2 with
        | .ok sv ρ3 S3 => compLoop own tg cond elt ds (acc ++ [sv.d]) (wipeE ρ3 own) S3
        | _ => .bad
      | .ok false ρ2 S2 => compLoop own tg cond elt ds acc (wipeE ρ2 own) S2
      | _ => .bad
def truM (x : M SV) : M Bool := M.bnd x fun sv => M.opt (truD sv.d)
def cmpM (o : COp) (x y : M SV) : M SV := M.bnd x fun a => M.bnd y fun b => M.bnd (M.opt (cmpD o a.d b.d)) fun k => M.ret (.im (.bl k))
def chnM (o o' : COp) (x y z : M SV) : M SV := M.bnd x fun a => M.bnd y fun b => M.bnd (M.opt (cmpD o a.d b.d)) fun k => if k then M.bnd z fun c => M.bnd (M.opt (cmpD o' b.d c.d)) fun k' => M.ret (.im (.bl k')) else M.ret (.im (.bl false))
def andM (x y : M Bool) : M Bool := M.bnd x fun b => if b then y else M.ret false
def orM (x y : M Bool) : M Bool := M.bnd x fun b => if b then M.ret true else y
def boolM (x : M SV) : M Bool := M.bnd x fun sv => match sv with
  | .im (.bl b) => M.ret b
  | _ => M.bad
/-! the source's parts: cells, at, digits, count, fold -/
def penGet (S : PenSt) : Nat → Option D
  | 0 => some (.lst (S.cells.map .int))
  | 1 => some (.int S.at_)
  | 2 => some (.int S.digits)
  | 3 => some (.int S.count)
  | 4 => some (.int S.fold)
  | _ => none
def penSet (S : PenSt) : Nat → Int → Option PenSt
  | 1, i => if 0 ≤ i then some { S with at_ := i.toNat } else none
  | 2, i => if 0 ≤ i then some { S with digits := i } else none
  | 3, i => if 0 ≤ i then some { S with count := i.toNat } else none
  | 4, i => some { S with fold := i }
  | _, _ => none
def pgetM (i k : Nat) : M SV := fun ρ S => match ρ[i]? with
  | some (some (.im .pen)) => (match penGet S k with
    | some d => .ok (.im d) ρ S
    | none => .bad)
  | _ => .bad
/-! no dict within -/
mutual
def D.plain : D → Bool
  | .non => true
  | .bl _ => true
  | .int _ => true
  | .str _ => true
  | .tup xs => D.plains xs
  | .lst xs => D.plains xs
  | .dct _ => false
  | .ins _ xs => D.plains xs
  | .pen => true
  | .fn _ => true
  | .clo _ _ => false
def D.plains : List D → Bool
  | [] => true
  | d :: ds => D.plain d && D.plains ds
end
def SV.plain : Option SV → Bool
  | none => true
  | some (.im d) => d.plain
  | some (.ow xs) => D.plains xs
  | some (.od kvs) => D.plains (kvs.map (·.2))
/-- all slots but the i-th hold no dict -/
def plainBut : Nat → Rho → Bool
  | _, [] => true
  | 0, _ :: ρ => ρ.all SV.plain
  | i + 1, o :: ρ => SV.plain o && plainBut i ρ
/-- a dict of the slot's own is lent for a while -/
def unfM (i : Nat) (f : M SV) : M SV := fun ρ S => match ρ[i]? with
  | some (some (.od _)) => (match f ρ S with
    | .ok sv ρ' S' => (match ρ'[i]? with
      | some (some (.im (.dct kvs))) => if sv.d.plain && plainBut i ρ' && D.plains (kvs.map (·.2)) then .ok (.im sv.d) (ρ'.set i (some (.od kvs))) S' else .bad
      | _ => .bad)
    | _ => .bad)
  | _ => .bad
/-- the slot i is a list of its own -/
def ownThen {α : Type} (i : Nat) (f : M α) : M α := fun ρ S => match ρ[i]? with
  | some (some (.ow _)) => f ρ S
  | _ => .bad
set_option maxHeartbeats 10000000 in
mutual
def evE : IE → M SV
  | .var i => getV i
  | .cst d => M.ret (.im d)
  | .tup es => M.bnd (evEs es) fun svs => M.ret (.im (.tup (svs.map SV.d)))
  | .lst es => M.bnd (evEs es) fun svs => M.ret (.ow (svs.map SV.d))
  | .dct ks es => M.bnd (evEs es) fun svs => if ks.length = svs.length ∧ svs.length ≤ 15 ∧ ks.Nodup then M.ret (.od (ks.zip (svs.map SV.d))) else M.bad
  | .bin o a b => M.bnd (evE a) fun x => M.bnd (evE b) fun y => M.opt (binD o x.d y.d)
  | .neg a => M.bnd (evE a) fun x => match x.d with
    | .int i => M.ret (.im (.int (-i)))
    | _ => M.bad
  | .not a => M.bnd (evT a) fun b => M.ret (.im (.bl (!b)))
  | .cmp o a b => cmpM o (evE a) (evE b)
  | .chn o o' a b c => chnM o o' (evE a) (evE b) (evE c)
  | .and a b => M.bnd (boolM (evE a)) fun k => if k then evE b else M.ret (.im (.bl false))
  | .or a b => M.bnd (boolM (evE a)) fun k => if k then M.ret (.im (.bl true)) else evE b
  | .ife t a b => M.bnd (evT t) fun k => if k then evE a else evE b
  | .ix a i => M.bnd (evE a) fun x => M.bnd (evE i) fun y => M.bnd (M.opt (ixD x.d y.d)) fun d => M.ret (.im d)
  | .key a k => M.bnd (evE a) fun x => M.bnd (M.opt (keyD x.d k)) fun d => M.ret (.im d)
  | .slc a lo hi => M.bnd (evE a) fun x => M.bnd (evO lo) fun l => M.bnd (evO hi) fun h => M.opt (slcD x.d l h)
  | .atr a ps => M.bnd (evE a) fun x => M.bnd (M.opt (atrD x.d ps)) fun d => M.ret (.im d)
  | .call F es => M.bnd (evEs es) fun svs => callM F (svs.map SV.d)
  | .isi e ts => M.bnd (evE e) fun x => M.bnd (M.opt (isTys x.d ts)) fun k => M.ret (.im (.bl k))
  | .cmpr own tg it ifs elt => M.bnd (evI it) fun items => M.bnd (compLoop own tg (evTs ifs) (evE elt) items []) fun xs => M.ret (.ow xs)
  | .pop i e => ownThen i (M.bnd (evE e) fun y => fun ρ S => match ρ[i]?, y.d with
    | some (some (.ow xs)), .int k => if 0 ≤ k ∧ k < xs.length ∧ xs.length ≤ 100000 then (match xs[k.toNat]? with
      | some d => .ok (.im d) (ρ.set i (some (.ow (xs.eraseIdx k.toNat)))) S
      | none => .bad) else .bad
    | _, _ => .bad)
  | .lenv i => fun ρ S => match ρ[i]? with
    | some (some (.ow xs)) => .ok (.im (.int xs.length)) ρ S
    | some (some (.im (.lst xs))) => .ok (.im (.int xs.length)) ρ S
    | some (some (.im (.tup xs))) => .ok (.im (.int xs.length)) ρ S
    | _ => .bad
  | .ixv i e => fun ρ S => match ρ[i]? with
    | some (some (.ow _)) => ownThen i (M.bnd (evE e) fun y => fun ρ S => match ρ[i]?, y.d with
      | some (some (.ow xs)), .int k => (match atI xs k with
        | some d => .ok (.im d) ρ S
        | none => .bad)
      | _, _ => .bad) ρ S
    | _ => M.bnd (getV i) (fun x => M.bnd (evE e) fun y => M.bnd (M.opt (ixD x.d y.d)) fun d => M.ret (.im d)) ρ S
  | .keyv i k => fun ρ S => match ρ[i]? with
    | some (some (.od kvs)) => (match kvs.lookup k with
      | some d => .ok (.im d) ρ S
      | none => .bad)
    | _ => .bad
  | .unf i e => unfM i (evE e)
  | .pget i k => pgetM i k
  | .rngL t a => M.bnd (evE a) fun x => match x.d with
    | .int j => if j ≤ 100000 ∧ -100000 ≤ j then M.ret (if t then .im (.tup (rngL 0 j.toNat)) else .ow (rngL 0 j.toNat)) else M.bad
    | _ => M.bad
  | .bitlen e => M.bnd (evE e) fun x => match x.d with
    | .int i => M.ret (.im (.int (if i = 0 then 0 else i.natAbs.log2 + 1)))
    | _ => M.bad
def evEs : List IE → M (List SV)
  | [] => M.ret []
  | e :: es => M.bnd (evE e) fun x => M.bnd (evEs es) fun xs => M.ret (x :: xs)
def evO : Option IE → M (Option Int)
  | none => M.ret none
  | some e => M.bnd (evE e) fun x => match x.d with
    | .int i => M.ret (some i)
    | _ => M.bad
/-- a test -/
def evT : IC → M Bool
  | .and a b => andM (evT a) (evT b)
  | .or a b => orM (evT a) (evT b)
  | .not a => M.bnd (evT a) fun b => M.ret (!b)
  | .tst e => truM (evE e)
def evTs : List IC → M Bool
  | [] => M.ret true
  | e :: es => andM (evT e) (evTs es)
def evI : II → M (List D)
  | .seq e => M.bnd (evE e) fun x => M.opt x.d.items
  | .rng1 a => M.bnd (evE a) fun x => match x.d with
    | .int j => if j ≤ 100000 ∧ -100000 ≤ j then M.ret (rngL 0 j.toNat) else M.bad
    | _ => M.bad
  | .rng2 a b => M.bnd (evE a) fun x => M.bnd (evE b) fun y => match x.d, y.d with
    | .int i, .int j => if j ≤ 100000 ∧ -100000 ≤ j ∧ i ≤ 100000 ∧ -100000 ≤ i then M.ret (rngL i (j - i).toNat) else M.bad
    | _, _ => M.bad
  | .enm e => M.bnd (evE e) fun x => M.bnd (M.opt x.d.items) fun ds => M.ret (enmL 0 ds)
  | .zip2 a b => M.bnd (evE a) fun x => M.bnd (evE b) fun y => M.bnd (M.opt x.d.items) fun ds => M.bnd (M.opt y.d.items) fun es => M.ret (zip2L ds es)
  | .zip3 a b c => M.bnd (evE a) fun x => M.bnd (evE b) fun y => M.bnd (evE c) fun z => M.bnd (M.opt x.d.items) fun ds => M.bnd (M.opt y.d.items) fun es => M.bnd (M.opt z.d.items) fun fs => M.ret (zip3L ds es fs)
end
end Pd


namespace Pd
open PySem L2
def forLoop (tg : IT) (body : M Flow') : List D → M Flow'
  | [] => M.ret .nx
  | d :: ds => fun ρ S => match asgT tg d ρ with
    | none => .bad
    | some ρ1 => match body ρ1 S with
      | .ok .nx ρ2 S2 => forLoop tg body ds ρ2 S2
      | .ok .cnt ρ2 S2 => forLoop tg body ds ρ2 S2
      | .ok .brk ρ2 S2 => .ok .nx ρ2 S2
      | .ok (.ret sv) ρ2 S2 => .ok (.ret sv) ρ2 S2
      | .exc c fs S2 => .exc c fs S2
      | .bad => .bad
def whlLoop (body : M Flow') : Nat → M Flow'
  | 0 => M.bad
  | n + 1 => M.bnd body fun f => match f with
    | .nx => whlLoop body n
    | .cnt => whlLoop body n
    | .brk => M.ret .nx
    | .ret sv => M.ret (.ret sv)
def asgs : List Nat → List SV → M Unit
  | [], [] => M.ret ()
  | i :: is, sv :: svs => M.bnd (setSV i sv) fun _ => asgs is svs
  | _, _ => M.bad
/-- d["k"] = v, d of the slot's own and k in it -/
def stkM (i k : Nat) (v : D) : M Flow' := fun ρ S => match ρ[i]? with
  | some (some (.od kvs)) => if kvs.any (fun p => decide (p.1 = k)) = true ∧ kvs.length < 1000 then .ok .nx (ρ.set i (some (.od (kvs.map fun p => if p.1 = k then (p.1, v) else p)))) S else .bad
  | _ => .bad
def psetM (i k : Nat) (v : D) : M Flow' := fun ρ S => match ρ[i]?, v with
  | some (some (.im .pen)), .int j => (match penSet S k j with
    | some S' => .ok .nx ρ S'
    | none => .bad)
  | _, _ => .bad
def stksM (i : Nat) : List Nat → List D → M Flow'
  | [], [] => M.ret .nx
  | k :: ks, v :: vs => M.bnd (stkM i k v) fun _ => stksM i ks vs
  | _, _ => M.bad
mutual
def evS : IS → M Flow'
  | .asg (.nm i) e => M.bnd (evE e) fun sv => M.bnd (setSV i sv) fun _ => M.ret .nx
  | .asg (.tp ts) e => M.bnd (evE e) fun sv => fun ρ S => match asgT (.tp ts) sv.d ρ with
    | some ρ' => .ok .nx ρ' S
    | none => .bad
  | .par is es => M.bnd (evEs es) fun svs => M.bnd (asgs is svs) fun _ => M.ret .nx
  | .aug i e => fun ρ S => match ρ[i]? with
    | some (some (.im (.int a))) => M.bnd (evE e) (fun y => match y.d with
      | .int b => M.bnd (setSV i (.im (.int (a + b)))) fun _ => M.ret .nx
      | _ => M.bad) ρ S
    | _ => .bad
  | .app i e => ownThen i (M.bnd (evE e) fun y => fun ρ S => match ρ[i]? with
    | some (some (.ow xs)) => if xs.length < 100000 then .ok .nx (ρ.set i (some (.ow (xs ++ [y.d])))) S else .bad
    | _ => .bad)
  | .sto i k e => M.bnd (evE e) fun y => ownThen i (M.bnd (evE k) fun kk => fun ρ S => match ρ[i]?, kk.d with
    | some (some (.ow xs)), .int k => (match ixN xs.length k with
      | some j => .ok .nx (ρ.set i (some (.ow (xs.set j y.d)))) S
      | none => .bad)
    | _, _ => .bad)
  | .stk i k e => M.bnd (evE e) fun y => fun ρ S => stkM i k y.d ρ S
  | .drop e => M.bnd (evE e) fun _ => M.ret .nx
  | .ret e => M.bnd (evE e) fun sv => M.ret (.ret sv)
  | .retv i => fun ρ S => match ρ[i]? with
    | some (some sv) => .ok (.ret sv) ρ S
    | _ => .bad
  | .retN => M.ret (.ret (.im .non))
  | .ite t a b => M.bnd (evT t) fun k => if k then evSs a else evSs b
  | .for_ tg it body => M.bnd (evI it) fun items => forLoop tg (evSs body) items
  | .whl n body => whlLoop (evSs body) n
  | .brk => M.ret .brk
  | .cnt => M.ret .cnt
  | .pass => M.ret .nx
  | .pset i k e => M.bnd (evE e) fun y => psetM i k y.d
  | .stks i ks es => M.bnd (evEs es) fun svs => stksM i ks (svs.map SV.d)
  | .rs c n es => M.bnd (evEs es) fun svs => fun ρ S => if svs.length = n ∧ svs.length ≤ 10 then .exc c (svs.map SV.d).reverse S else .bad
def evSs : List IS → M Flow'
  | [] => M.ret .nx
  | s :: ss => M.bnd (evS s) fun f => match f with
    | .nx => evSs ss
    | f => M.ret f
end
/-- a def's body at its arguments: n names -/
def evF (n : Nat) (body : List IS) : DFun := fun ds S => match evSs body (ds.map (fun d => some (.im d)) ++ List.replicate (n - ds.length) none) S with
  | .ok .nx _ S' => .ok (.im .non) S'
  | .ok (.ret sv) _ S' => .ok sv S'
  | .exc c fs S' => .exc c fs S'
  | _ => .bad
end Pd
set_option Elab.async false
set_option linter.all false
set_option maxRecDepth 100000
set_option maxHeartbeats 4000000
namespace Pd
open PySem L2 Evl

section
variable {G : Glo} {B H B1 H1 B2 H2 : Hp} {σ σ1 σ2 : L2.St} {ρ ρ1 ρ2 : Rho} {S S1 S2 : PenSt}
theorem getSome_set {α : Type} {l : List α} {i : Nat} {a b : α} (h : l[i]? = some a) : (l.set i b)[i]? = some b := by
  have q : i < l.length := (List.getElem?_eq_some_iff.mp h).1
  rw [List.getElem?_set_self q]
theorem Reps.fst {ks : List Nat} {ds : List D} (h : ks.length = ds.length) : (ks.zip ds).map (·.1) = ks := by
  rw [← List.unzip_fst, List.unzip_zip_left (by omega)]
/-- the object that a slot owns becomes data -/
theorem RSV.frozen {p : Addr} {sv : SV} (r : RSV G B H (V.ref p) sv) (h : sv.isOwn = true) : ∃ o, H p = some o ∧ B p = none ∧ p ≠ G.P ∧ Rep G (upd B p o) (V.ref p) sv.d := by
  cases sv with
  | im d => cases h
  | ow xs =>
    obtain ⟨q, vs, e, b, n, hh, rr⟩ := r
    cases e
    exact ⟨_, hh, b, n, .lst upd_same (rr.mono (Ex.new b))⟩
  | od kvs =>
    obtain ⟨q, ks, vs, e, b, n, hh, k, rr⟩ := r
    cases e
    refine ⟨_, hh, b, n, ?_⟩
    have l := rr.length
    rw [List.length_map] at l
    have lk : ks.length = vs.length := by rw [k, List.length_map, List.length_map, l]
    have z : Rep G (upd B p (.dK (ks.zip vs))) (V.ref p) (.dct ((kvs.map (·.1)).zip (kvs.map (·.2)))) := by
      refine .dct upd_same (vs := vs) ?_ ?_ (rr.mono (Ex.new b)) (by rw [List.length_map, List.length_map])
      · rw [← List.unzip_fst, List.unzip_zip_left (by omega), k]
      · rw [← List.unzip_snd, List.unzip_zip_right (by omega)]
    have e : (kvs.map (·.1)).zip (kvs.map (·.2)) = kvs := by
      rw [← List.unzip_fst, ← List.unzip_snd, List.zip_unzip]
    rw [e] at z
    exact z
theorem Wld.freeze (w : Wld G B H σ ρ S) {i : Nat} {sv : SV} {p : Addr} (h1 : ρ[i]? = some (some sv)) (h2 : sv.isOwn = true) (h3 : σ[i]? = some (some (V.ref p))) :
    ∃ o, Wld G (upd B p o) H σ (ρ.set i (some (.im sv.d))) S ∧ Stp G B H σ ρ (upd B p o) H σ (ρ.set i (some (.im sv.d))) ∧ Rep G (upd B p o) (V.ref p) sv.d := by
  obtain ⟨v, e, r⟩ := w.sl i sv h1
  rw [h3] at e
  cases e
  obtain ⟨o, hp, bp, nP, rep⟩ := r.frozen h2
  have ex : Ex B (upd B p o) := Ex.new bp
  have hi : i < ρ.length := (List.getElem?_eq_some_iff.mp h1).1
  have own : Own σ ρ p := ⟨i, sv, h1, h2, h3⟩
  have ownB : ∀ a, Own σ (ρ.set i (some (.im sv.d))) a → Own σ ρ a ∧ a ≠ p := fun a ⟨j, y, y1, y2, y3⟩ => by
    by_cases q : i = j
    · subst q
      rw [List.getElem?_set_self hi] at y1
      cases y1
      cases y2
    · rw [List.getElem?_set_ne q] at y1
      refine ⟨⟨j, y, y1, y2, y3⟩, fun z => ?_⟩
      subst z
      exact q (w.ap i j sv y a h1 y1 h2 y2 h3 y3)
  have pP : upd B p o G.P = none := by rw [upd_ne nP.symm]; exact w.pB
  refine ⟨o, ⟨fun a u h => ?_, pP, w.pen.mono ex (fun u h => h), (by rw [List.length_set]; exact w.len), fun j y y1 => ?_, fun j k x y q j1 k1 jx ky js ks => ?_⟩, ⟨ex, fun a u h _ _ => h, fun a u h n => ?_, pP, fun _ h => h, fun a q => ⟨(w.own_ne (ownB a q).1).1, .inl (ownB a q).1⟩⟩, rep⟩
  · by_cases q : a = p
    · subst q
      rw [upd_same] at h
      cases h
      exact hp
    · rw [upd_ne q] at h
      exact w.sub _ _ h
  · by_cases q : i = j
    · subst q
      rw [List.getElem?_set_self hi] at y1
      cases y1
      exact ⟨_, h3, rep⟩
    · rw [List.getElem?_set_ne q] at y1
      obtain ⟨v, e, r⟩ := w.sl j y y1
      refine ⟨v, e, r.stay ex fun a ha hs => ⟨?_, fun _ h => h⟩⟩
      obtain ⟨a', u, e', b, _, hh⟩ := r.at hs
      rw [ha] at e'
      cases e'
      have nap : a ≠ p := fun z => by
        subst z
        rw [ha] at e
        exact q (w.ap i j sv y a h1 y1 h2 hs h3 e)
      rw [upd_ne nap]
      exact b
  · by_cases qj : i = j
    · subst qj
      rw [List.getElem?_set_self hi] at j1
      cases j1
      cases jx
    · by_cases qk : i = k
      · subst qk
        rw [List.getElem?_set_self hi] at k1
        cases k1
        cases ky
      · rw [List.getElem?_set_ne qj] at j1
        rw [List.getElem?_set_ne qk] at k1
        exact w.ap j k x y q j1 k1 jx ky js ks
  · by_cases q : a = p
    · rw [q]; exact .inr own
    · rw [upd_ne q, n] at h
      cases h
/-- an own temporary becomes data -/
theorem Wld.freezeT (w : Wld G B H σ ρ S) {sv : SV} {v : V} {H0 : Hp} (r : RSV G B H v sv) (f : Fre σ ρ H0 v sv) :
    ∃ B', Wld G B' H σ ρ S ∧ (∀ {B0 ρ0}, Stp G B0 H0 σ ρ0 B H σ ρ → Stp G B0 H0 σ ρ0 B' H σ ρ) ∧ Rep G B' v sv.d := by
  by_cases hs : sv.isOwn = true
  · obtain ⟨p, e, no, h0⟩ := f hs
    subst e
    obtain ⟨o, hp, bp, nP, rep⟩ := r.frozen hs
    have ex : Ex B (upd B p o) := Ex.new bp
    have pP : upd B p o G.P = none := by rw [upd_ne nP.symm]; exact w.pB
    refine ⟨upd B p o, ⟨fun a u h => ?_, pP, w.pen.mono ex (fun u h => h), w.len, fun j y y1 => ?_, w.ap⟩, fun {B0 ρ0} st => ⟨st.b.trans ex, st.h, fun a u h n => ?_, pP, st.t, st.o⟩, rep⟩
    · by_cases q : a = p
      · subst q
        rw [upd_same] at h
        cases h
        exact hp
      · rw [upd_ne q] at h
        exact w.sub _ _ h
    · obtain ⟨v, e, r'⟩ := w.sl j y y1
      refine ⟨v, e, r'.stay ex fun a ha hy => ⟨?_, fun _ h => h⟩⟩
      obtain ⟨a', u, e', b, _, hh⟩ := r'.at hy
      rw [ha] at e'
      cases e'
      have nap : a ≠ p := fun z => by
        subst z
        rw [ha] at e
        exact no ⟨j, y, y1, hy, e⟩
      rw [upd_ne nap]
      exact b
    · by_cases q : a = p
      · rw [q]; exact .inl h0
      · rw [upd_ne q] at h
        exact st.n a u h n
  · cases sv with
    | im d => exact ⟨B, w, fun st => st, r⟩
    | ow xs => exact absurd rfl hs
    | od kvs => exact absurd rfl hs
end

/-! ### the lifted readings -/
/-- what an exception leaves -/
def PostX (G : Glo) (E : XK) (σ : L2.St) (B H : Hp) (ρ : Rho) (c : Nat) (fs : List D) (S : PenSt) : Prop :=
  ∀ (B' H' : Hp) (dd : Addr) (vs : List V), StpX G B H σ ρ B' H' → PenAt G B' H' S → Ex B' H' → H' dd = some (.xd ((G.cF c).zip vs)) → Reps G B' vs fs → E (.ref (G.cA c)) (some dd) H'
abbrev Rel (α β : Type) := Hp → Hp → L2.St → Rho → Hp → β → α → Prop
/-- what is wanted of a result -/
def Post {α β : Type} (rel : Rel α β) (G : Glo) (E : XK) (σ : L2.St) (B H : Hp) (ρ : Rho) (r : R α) (Q : β → Hp → Prop) : Prop := match r with
  | .ok a ρ' S' => ∀ (v : β) (B' H' : Hp), Stp G B H σ ρ B' H' σ ρ' → Wld G B' H' σ ρ' S' → rel B' H' σ ρ' H v a → Q v H'
  | .exc c fs S' => PostX G E σ B H ρ c fs S'
  | .bad => False
def Lf {α β : Type} (rel : Rel α β) (G : Glo) (E : XK) (f : M α) : L2.St → Hp → (β → Hp → Prop) → Prop := fun σ H Q =>
  ∃ (B : Hp) (ρ : Rho) (S : PenSt), Wld G B H σ ρ S ∧ Post rel G E σ B H ρ (f ρ S) Q
/-- a value in its slot form -/
def rSV (G : Glo) : Rel SV V := fun B H σ ρ H0 v sv => RSV G B H v sv ∧ Fre σ ρ H0 v sv
/-- a value as data -/
def rD (G : Glo) : Rel SV V := fun B _ _ _ _ v sv => Rep G B v sv.d
def rEq {α : Type} : Rel α α := fun _ _ _ _ _ b a => b = a
def rDs (G : Glo) : Rel (List SV) (List V) := fun B _ _ _ _ vs svs => Reps G B vs (svs.map SV.d)
abbrev LE (G : Glo) (E : XK) (f : M SV) : TE := Lf (rSV G) G E f
abbrev LD (G : Glo) (E : XK) (f : M SV) : TE := Lf (rD G) G E f
abbrev LT (G : Glo) (E : XK) (f : M Bool) : TT := Lf rEq G E f
abbrev LDs (G : Glo) (E : XK) (f : M (List SV)) : TA := Lf (rDs G) G E f

section
variable {G : Glo} {E : XK} {B H B1 H1 B2 H2 : Hp} {σ σ1 σ2 : L2.St} {ρ ρ1 ρ2 : Rho} {S S1 S2 : PenSt} {α β γ δ : Type} {rel : Rel α β} {rel2 : Rel γ δ}
theorem PostX.rebase {c : Nat} {fs : List D} (s : Stp G B H σ ρ B1 H1 σ1 ρ1) (p : PostX G E σ B H ρ c fs S) : PostX G E σ1 B1 H1 ρ1 c fs S := fun B' H' dd vs st pe ex hd r => p B' H' dd vs (s.transX st) pe ex hd r
/-- relations that don't ask more of a later start -/
class Later (rel : Rel α β) : Prop where
  back : ∀ {B H σ ρ H0 H1 v a}, (∀ x : Addr, H1 x = none → H0 x = none) → rel B H σ ρ H1 v a → rel B H σ ρ H0 v a
instance : Later (rSV G) := ⟨fun h ⟨r, f⟩ => ⟨r, fun hs => let ⟨p, e, n, z⟩ := f hs; ⟨p, e, n, h p z⟩⟩⟩
instance : Later (rD G) := ⟨fun _ r => r⟩
instance {α : Type} : Later (rEq (α := α)) := ⟨fun _ r => r⟩
instance : Later (rDs G) := ⟨fun _ r => r⟩
theorem Post.rebase [Later rel] {r : R α} {Q : β → Hp → Prop} (s : Stp G B H σ ρ B1 H1 σ ρ1) (p : Post rel G E σ B H ρ r Q) : Post rel G E σ B1 H1 ρ1 r Q := by
  cases r with
  | ok a ρ' S' => exact fun v B' H' st w q => p v B' H' (s.trans st) w (Later.back s.t q)
  | exc c fs S' => exact PostX.rebase s p
  | bad => exact p
/-- the first step of two -/
theorem Lf.bnd [Later rel2] {f : M α} {g : α → M γ} {Q : δ → Hp → Prop} {K : β → Hp → Prop} (h : Lf rel2 G E (M.bnd f g) σ H Q)
    (k : ∀ (v : β) (a : α) (B0 B1 H1 : Hp) (ρ0 ρ1 : Rho) (S1 : PenSt), Stp G B0 H σ ρ0 B1 H1 σ ρ1 → Wld G B1 H1 σ ρ1 S1 → rel B1 H1 σ ρ1 H v a → Post rel2 G E σ B1 H1 ρ1 (g a ρ1 S1) Q → K v H1) : Lf rel G E f σ H K := by
  obtain ⟨B, ρ, S, w, p⟩ := h
  refine ⟨B, ρ, S, w, ?_⟩
  unfold M.bnd at p
  cases e : f ρ S with
  | ok a ρ' S' =>
    rw [e] at p
    exact fun v B' H' st w' q => k v a B B' H' ρ ρ' S' st w' q (p.rebase st)
  | exc c fs S' =>
    rw [e] at p
    exact p
  | bad =>
    rw [e] at p
    exact p
theorem Lf.of {f : M α} {Q : β → Hp → Prop} (w : Wld G B H σ ρ S) (p : Post rel G E σ B H ρ (f ρ S) Q) : Lf rel G E f σ H Q := ⟨B, ρ, S, w, p⟩
/-- a value is used as data -/
theorem Post.frz {r : R SV} {Q : VK} (p : Post (rD G) G E σ B H ρ r Q) : Post (rSV G) G E σ B H ρ r Q := by
  cases r with
  | ok a ρ' S' =>
    intro v B' H' st w ⟨r, f⟩
    obtain ⟨B2, w2, st2, r2⟩ := w.freezeT r f
    exact p v B2 H' (st2 st) w2 r2
  | exc c fs S' => exact p
  | bad => exact p
theorem Lf.frz {f : M SV} {Q : VK} (h : LD G E f σ H Q) : LE G E f σ H Q := by
  obtain ⟨B, ρ, S, w, p⟩ := h
  exact ⟨B, ρ, S, w, p.frz⟩
end

section
variable {X : Cx} {e : Expr} {t t' : TE}
theorem weakE (h : PE X e t) (w : ∀ σ H Q, t' σ H Q → t σ H Q) : PE X e t' := ⟨fun pins s σ H Q I q => h.run pins s σ H Q I (w σ H Q q)⟩
theorem weakT {t t' : TT} (h : PT X e t) (w : ∀ σ H Q, t' σ H Q → t σ H Q) : PT X e t' := ⟨fun pins s σ H Q I q => h.run pins s σ H Q I (w σ H Q q)⟩
theorem weakW {t t' : TT} (h : PW X e t) (w : ∀ σ H Q, t' σ H Q → t σ H Q) : PW X e t' := ⟨fun wh pins s σ H Q I q => h.run wh pins s σ H Q I (w σ H Q q)⟩
theorem weakA {es : List Expr} {t t' : TA} (h : PA X es t) (w : ∀ σ H Q, t' σ H Q → t σ H Q) : PA X es t' := ⟨fun pos pins s σ H Q I q => h.run pos pins s σ H Q I (w σ H Q q)⟩
theorem weakS {st : Stmt} {t t' : TS} (h : PS X st t) (w : ∀ D σ H, t' D σ H → t D σ H) : PS X st t' := ⟨fun pins s σ H D I q => h.run pins s σ H D I (w D σ H q)⟩
theorem weakSs {st : List Stmt} {t t' : TS} (h : PSs X st t) (w : ∀ D σ H, t' D σ H → t D σ H) : PSs X st t' := ⟨fun pins s σ H D I q => h.run pins s σ H D I (w D σ H q)⟩
variable {G : Glo} {E : XK} {f : M SV}
theorem frzE (h : PE X e (LE G E f)) : PE X e (LD G E f) := weakE h fun _ _ _ q => Lf.frz q
end

/-! ### small ends of a result -/
section
variable {G : Glo} {E : XK} {B H : Hp} {σ : L2.St} {ρ : Rho} {S : PenSt} {Q : VK}
/-- data that stands already -/
theorem Post.im (p : Post (rSV G) G E σ B H ρ (.ok (.im d) ρ S) Q) (w : Wld G B H σ ρ S) {v : V} (r : Rep G B v d) : Q v H := p v B H (Stp.refl w) w ⟨r, fun h => by cases h⟩
theorem Post.tupN {vs : List V} {ds : List D} (p : Post (rSV G) G E σ B H ρ (.ok (.im (.tup ds)) ρ S) Q) (w : Wld G B H σ ρ S) (r : Reps G B vs ds) {a : Addr} (ha : H a = none) : Q (.ref a) (upd H a (.tup vs)) := by
  obtain ⟨w', st⟩ := w.newB ha (.tup vs)
  exact p _ _ _ st w' ⟨.tup (SqT.of upd_same) (r.mono st.b), fun h => by cases h⟩
theorem Post.lstN {vs : List V} {ds : List D} (p : Post (rSV G) G E σ B H ρ (.ok (.ow ds) ρ S) Q) (w : Wld G B H σ ρ S) (r : Reps G B vs ds) {a : Addr} (ha : H a = none) : Q (.ref a) (upd H a (.lst vs)) := by
  obtain ⟨w', st⟩ := w.newO ha (.lst vs)
  exact p _ _ _ st w' ⟨⟨a, vs, rfl, w.Bn ha, w.neP ha, upd_same, r⟩, fun _ => ⟨a, rfl, w.notOwn ha, ha⟩⟩
end
end Pd
set_option Elab.async false
set_option linter.all false
set_option maxRecDepth 100000
set_option maxHeartbeats 4000000
namespace Pd
open PySem L2 Evl PyProof.Rows PySem.Spec

/-- what stands ahead of an operation on data -/
structure Bas (G : Glo) (B H : Hp) : Prop where
  sub : Ex B H
  pB : B G.P = none
  pH : ∃ o, H G.P = some o
theorem Wld.bas {G : Glo} {B H : Hp} {σ : L2.St} {ρ : Rho} {S : PenSt} (w : Wld G B H σ ρ S) : Bas G B H := ⟨w.sub, w.pB, w.P_some⟩
/-- what is wanted of an operation's result -/
def New (G : Glo) (B H : Hp) (sv : SV) (Q : VK) : Prop := ∀ v B' H', Grw G B H B' H' → RSV G B' H' v sv → (sv.isOwn = true → ∃ p : Addr, v = V.ref p ∧ H p = none) → Q v H'
section
variable {G : Glo} {B H : Hp} {sv : SV} {Q : VK} {E : XK} {σ : L2.St} {ρ : Rho} {S : PenSt}
theorem Bas.ne (b : Bas G B H) {p : Addr} (hp : H p = none) : p ≠ G.P := fun e => by
  obtain ⟨o, h⟩ := b.pH
  rw [e, h] at hp
  cases hp
theorem Bas.refl (b : Bas G B H) : Grw G B H B H := ⟨Ex.refl B, Ex.refl H, fun a o h n => (by rw [n] at h; cases h), b.sub, b.pB⟩
theorem Bas.newB (b : Bas G B H) {p : Addr} (hp : H p = none) (o : HO) : Grw G B H (upd B p o) (upd H p o) := by
  have bp := fresh_back b.sub hp
  refine ⟨Ex.new bp, Ex.new hp, fun a u h n => ?_, Ex.upd2 b.sub, by rw [upd_ne (b.ne hp).symm]; exact b.pB⟩
  by_cases q : a = p
  · rw [q]; exact hp
  · rw [upd_ne q, n] at h
    cases h
theorem Bas.newO (b : Bas G B H) {p : Addr} (hp : H p = none) (o : HO) : Grw G B H B (upd H p o) := ⟨Ex.refl B, Ex.new hp, fun a u h n => (by rw [n] at h; cases h), b.sub.trans (Ex.new hp), b.pB⟩
theorem New.im (n : New G B H (.im d) Q) (b : Bas G B H) {v : V} (r : Rep G B v d) : Q v H := n v B H b.refl r fun h => by cases h
theorem New.tup {vs : List V} {ds : List D} (n : New G B H (.im (.tup ds)) Q) (b : Bas G B H) (r : Reps G B vs ds) {p : Addr} (hp : H p = none) : Q (.ref p) (upd H p (.tup vs)) :=
  n _ _ _ (b.newB hp _) (Rep.tup (SqT.of upd_same) (r.mono (Ex.new (fresh_back b.sub hp)))) fun h => by cases h
theorem New.lst {vs : List V} {ds : List D} (n : New G B H (.ow ds) Q) (b : Bas G B H) (r : Reps G B vs ds) {p : Addr} (hp : H p = none) : Q (.ref p) (upd H p (.lst vs)) :=
  n _ _ _ (b.newO hp _) ⟨p, vs, rfl, fresh_back b.sub hp, b.ne hp, upd_same, r⟩ fun _ => ⟨p, rfl, hp⟩
/-- from a wanted result to an operation's -/
theorem Post.new (p : Post (rSV G) G E σ B H ρ (.ok sv ρ S) Q) (w : Wld G B H σ ρ S) : New G B H sv Q := fun v B' H' g r f => by
  obtain ⟨w', st⟩ := w.grw g
  exact p v B' H' st w' ⟨r, fun h => let ⟨p, e, hp⟩ := f h; ⟨p, e, w.notOwn hp, hp⟩⟩
end

/-! ### two-place operations -/
def rBinD (G : Glo) (o : BOp) : R2 := fun x y H Q => ∃ (B : Hp) (a b : D) (sv : SV), Bas G B H ∧ Rep G B x a ∧ Rep G B y b ∧ binD o a b = some sv ∧ New G B H sv Q
def opOf : BOp → Operator
  | .add => .Add | .sub => .Sub | .mul => .Mult | .fdiv => .FloorDiv | .mod => .Mod | .pow => .Pow
section
variable {X : Cx} {G : Glo}
theorem op_fdivL : OpR X (binaryOp .FloorDiv) (rI (fun _ j => j ≠ 0 ∧ j.natAbs.log2 < 9000) fun i j => .int (i.fdiv j)) := opI fun i j _ _ _ _ _ hc q => PyProof.Rows.floordiv_int hc.1 q (.inl (PyProof.noPylong_of_log2 hc.2))
theorem Reps.sq {B H : Hp} {a : Addr} {vs : List V} (e : Ex B H) (h : SqT G.K B a vs) : SqT G.K H a vs := ex_t e h
theorem sizeL {n : Nat} (h : n ≤ 1000000) : n ≤ sizeLine := Nat.le_trans h (by rw [sizeLine_eq]; decide)
theorem zero_one_rep {xs : List V} : ∀ k : Nat, k ≤ 1 → (List.replicate k xs).flatten = if k = 0 then [] else xs
  | 0, _ => rfl
  | 1, _ => by simp
  | k + 2, h => absurd h (by omega)

theorem tuple_mul1 (l : Addr) (items : Array Value) (n : Nat) (dd : Option Addr) (sl : Array (Option Value)) (u : Tok) :
    Meets (Builtin.«tuple.__mul__» ⟨[.ref l, .int 1 u], []⟩) (fun _ R s => s.heap.get? l = some { cls := .type "tuple", dict := dd, data := .seq items n, slots := sl } ∧
      R (.ok (.ret (Value.ref l))) s) :=
  .of_wp fun prog w A R s h => by
    obtain ⟨hp, g, d, tk, os⟩ := s
    obtain ⟨hl, h⟩ := h
    have f1 := AutoSeq1.idx_int
    have c0 : (decide ((1 : Int) < -(2 ^ 63)) || decide ((1 : Int) ≥ 2 ^ 63)) = false := by decide
    have c1 : (items.isEmpty || (1 : Int) == 1) = true := by rw [beq_self_eq_true, Bool.or_true]
    wp_walk using wpAny_loadPart' hl
    exact ⟨_, rfl, h⟩
theorem op_repT1 : OpR X (binaryOp .Mult) (fun x y H Q => ∃ (l : Addr) (xs : List V), x = .ref l ∧ y = .int 1 ∧ SqT X.K H l xs ∧ Q (.ref l) H) := by
  intro pins s σ H x y v u Q I rx ry h
  obtain ⟨l, xs, rfl, rfl, hT, q⟩ := h
  cases rx
  obtain ⟨t, rfl⟩ := ry
  obtain ⟨its, r, ⟨⟨cls, dd, data, sl⟩, ho, hc, n, hd⟩, hs⟩ := I.tuple hT
  simp only at hc hd
  subst hc hd
  exact wpAny_binaryOp_repeat_ref (T := "tuple") (U := "int") (by decide) ⟨_, ho, rfl⟩ (fun s' => typeIs_int s' 1 t) noFill_tuple_mul F.fills_int_mul F.slot_int_rmul repeat_tuple F.slot_int_index.lookup
    (call_meets F.slot_int_rmul (typeIs_int s 1 t) F.entry_int_rmul (F.args_int_rmul_2 _ _) (int_rmul_tuple 1 t l its.toArray n dd sl)
      ⟨ho, rfl, ⟨_, ho, rfl⟩, call_meets F.slot_tuple_mul ⟨_, ho, rfl⟩ F.entry_tuple_mul (F.args_tuple_mul_2 _ _) (tuple_mul1 l its.toArray n dd sl t) ⟨ho, ⟨.ref l, H, I, rfl, q⟩⟩⟩)
theorem natLog (n : Nat) : n ≤ 1000 → n ≤ 1000000 := fun h => Nat.le_trans h (by decide)
/-- all two-place operations on data -/
theorem op_binD (hK : X.K = G.K) (o : BOp) : OpR X (binaryOp (opOf o)) (rBinD G o) := by
  intro pins s σ H x y v u Q I rx ry h
  obtain ⟨B, a, b, sv, bas, ra, rb, e, n⟩ := h
  cases o with
  | add =>
    cases ra with
    | int i =>
      cases rb with
      | int j => cases e; exact op_add pins s σ H _ _ v u Q I rx ry ⟨i, j, rfl, rfl, n.im bas (.int _)⟩
      | _ => cases e
    | str i =>
      cases rb with
      | str j =>
        simp only [binD, Option.ite_none_right_eq_some, Option.some.injEq] at e
        obtain ⟨hl, e⟩ := e
        subst e
        exact op_add_str pins s σ H _ _ v u Q I rx ry ⟨i, j, rfl, rfl, sizeL (by omega), n.im bas (.str _)⟩
      | _ => cases e
    | tup ha rra =>
      cases rb with
      | tup hb rrb =>
        simp only [binD, Option.ite_none_right_eq_some, Option.some.injEq] at e
        obtain ⟨hl, e⟩ := e
        subst e
        have l1 := rra.length
        have l2 := rrb.length
        refine op_catA pins s σ H _ _ v u Q I rx ry ⟨_, _, _, _, rfl, rfl, hK ▸ ex_t bas.sub ha, hK ▸ ex_t bas.sub hb, sizeL (by omega), fun z => ?_, fun _ z => ?_, fun _ _ p hp => ?_⟩
        · subst z
          cases rra
          exact n.im bas (.tup hb rrb)
        · subst z
          cases rrb
          rw [List.append_nil] at n
          exact n.im bas (.tup ha rra)
        · exact n.tup bas (rra.append rrb) hp
      | _ => cases e
    | lst ha rra =>
      cases rb with
      | lst hb rrb =>
        simp only [binD, Option.ite_none_right_eq_some, Option.some.injEq] at e
        obtain ⟨hl, e⟩ := e
        subst e
        have l1 := rra.length
        have l2 := rrb.length
        exact op_cat pins s σ H _ _ v u Q I rx ry ⟨_, _, _, _, rfl, rfl, bas.sub _ _ ha, bas.sub _ _ hb, sizeL (by omega), fun p hp => n.lst bas (rra.append rrb) hp⟩
      | _ => cases e
    | _ => cases e
  | sub =>
    cases ra with
    | int i =>
      cases rb with
      | int j => cases e; exact op_sub pins s σ H _ _ v u Q I rx ry ⟨i, j, rfl, rfl, n.im bas (.int _)⟩
      | _ => cases e
    | _ => cases rb <;> cases e
  | mul =>
    cases ra with
    | int i =>
      cases rb with
      | int j =>
        simp only [binD, mulOk, decide_eq_true_eq, Option.ite_none_right_eq_some, Option.some.injEq] at e
        obtain ⟨hl, e⟩ := e
        subst e
        exact op_mulW pins s σ H _ _ v u Q I rx ry ⟨i, j, rfl, rfl, hl, n.im bas (.int _)⟩
      | _ => cases e
    | tup ha rra =>
      cases rb with
      | int k =>
        simp only [binD, Bool.and_eq_true, decide_eq_true_eq, Option.ite_none_right_eq_some, Option.some.injEq] at e
        obtain ⟨⟨⟨⟨h0, h1⟩, hl⟩, hl1⟩, e⟩ := e
        subst e
        have l1 := rra.length
        by_cases k1 : k = 1
        · subst k1
          have e1 : ∀ ds : List D, (List.replicate (1 : Int).toNat ds).flatten = ds := fun ds => List.append_nil ds
          rw [e1] at n
          exact op_repT1 pins s σ H _ _ v u Q I rx ry ⟨_, _, rfl, rfl, hK ▸ ex_t bas.sub ha, n.im bas (.tup ha rra)⟩
        · refine op_repT pins s σ H _ _ v u Q I rx ry ⟨_, _, _, rfl, rfl, hK ▸ ex_t bas.sub ha, fun z => ?_, by omega, by omega, by omega, fun p hp => n.tup bas (rra.rep _) hp⟩
          subst z
          rw [← l1] at hl1
          exact absurd hl1 (by decide)
      | _ => cases e
    | lst ha rra =>
      cases rb with
      | int k =>
        simp only [binD, Bool.and_eq_true, decide_eq_true_eq, Option.ite_none_right_eq_some, Option.some.injEq] at e
        obtain ⟨⟨⟨h0, h1⟩, hl⟩, e⟩ := e
        subst e
        have l1 := rra.length
        refine op_rep pins s σ H _ _ v u Q I rx ry ⟨_, _, _, rfl, rfl, bas.sub _ _ ha, by omega, by omega, ?_, fun p hp => n.lst bas (rra.rep _) hp⟩
        refine sizeL (Nat.le_trans (Nat.mul_le_mul (Nat.le_trans (Nat.le_of_eq l1) hl) (show k.toNat ≤ 1000 by omega)) (by decide))
      | _ => cases e
    | _ => cases rb <;> cases e
  | fdiv =>
    cases ra with
    | int i =>
      cases rb with
      | int j =>
        simp only [binD, divOk, Bool.and_eq_true, decide_eq_true_eq, Option.ite_none_right_eq_some, Option.some.injEq] at e
        obtain ⟨hl, e⟩ := e
        subst e
        exact op_fdivL pins s σ H _ _ v u Q I rx ry ⟨i, j, rfl, rfl, hl, n.im bas (.int _)⟩
      | _ => cases e
    | _ => cases rb <;> cases e
  | mod =>
    cases ra with
    | int i =>
      cases rb with
      | int j =>
        simp only [binD, decide_eq_true_eq, Option.ite_none_right_eq_some, Option.some.injEq] at e
        obtain ⟨hl, e⟩ := e
        subst e
        exact op_modN pins s σ H _ _ v u Q I rx ry ⟨i, j, rfl, rfl, hl, n.im bas (.int _)⟩
      | _ => cases e
    | _ => cases rb <;> cases e
  | pow =>
    cases ra with
    | int i =>
      cases rb with
      | int j =>
        simp only [binD, powOk, Bool.and_eq_true, decide_eq_true_eq, Option.ite_none_right_eq_some, Option.some.injEq] at e
        obtain ⟨⟨⟨h0, h1⟩, hl⟩, e⟩ := e
        subst e
        exact op_pow pins s σ H _ _ v u Q I rx ry ⟨i, j, rfl, rfl, ⟨h0, by omega, hl⟩, n.im bas (.int _)⟩
      | _ => cases e
    | _ => cases rb <;> cases e
end
end Pd
set_option Elab.async false
set_option linter.all false
set_option maxRecDepth 100000
set_option maxHeartbeats 4000000
namespace Pd
open PySem L2 Evl PyProof.Rows PySem.Spec

section
variable {G : Glo} {B H : Hp}
mutual
theorem Rep.dp (e : Ex B H) : ∀ {v : V} {d : D} {p : PyData}, Rep G B v d → d.py = some p → Dp G.K H v p
  | _, _, p, .non, h => by simp only [D.py, Option.some.injEq] at h; subst h; exact .non
  | _, _, p, .bl b, h => by simp only [D.py, Option.some.injEq] at h; subst h; exact .bl b
  | _, _, p, .int i, h => by simp only [D.py, Option.some.injEq] at h; subst h; exact .int i
  | _, _, p, .str x, h => by simp only [D.py, Option.some.injEq] at h; subst h; exact .str x
  | _, _, p, .tup s r, h => by
    simp only [D.py, Option.map_eq_some_iff] at h
    obtain ⟨ps, h1, h2⟩ := h
    subst h2
    exact .tup (ex_t e s) (Reps.dp e r h1)
  | _, _, p, .lst s r, h => by
    simp only [D.py, Option.map_eq_some_iff] at h
    obtain ⟨ps, h1, h2⟩ := h
    subst h2
    exact .lst (SqL.of (e _ _ s)) (Reps.dp e r h1)
  | _, _, p, .dct _ _ _ _ _, h => by simp [D.py] at h
  | _, _, p, .ins _ _ _ _ _, h => by simp [D.py] at h
  | _, _, p, .pen, h => by simp [D.py] at h
  | _, _, p, .fn _, h => by simp [D.py] at h
theorem Reps.dp (e : Ex B H) : ∀ {vs : List V} {ds : List D} {ps : List PyData}, Reps G B vs ds → D.pys ds = some ps → DpAll G.K H vs ps
  | _, _, _, .nil, h => by simp only [D.pys, Option.some.injEq] at h; subst h; exact .nil
  | _, _, _, .cons (d := d) (ds := ds) q r, h => by
    simp only [D.pys] at h
    split at h
    · rename_i a b h1 h2
      cases h
      exact .cons (Rep.dp e q h1) (Reps.dp e r h2)
    · cases h
end
theorem Rep.flat {v : V} {d : D} {x : V} (r : Rep G B v d) (h : flatD d = some x) : v = x ∧ flatV v = true := by
  cases r <;> simp [flatD] at h <;> subst h <;> exact ⟨rfl, rfl⟩
theorem Reps.flats : ∀ {vs : List V} {ds : List D} {xs : List V}, Reps G B vs ds → ds.mapM flatD = some xs → vs = xs ∧ vs.all flatV = true
  | _, _, _, .nil, h => by simp at h; subst h; exact ⟨rfl, rfl⟩
  | _, _, _, .cons q r, h => by
    simp only [List.mapM_cons, Option.bind_eq_bind, Option.bind_eq_some_iff, Option.pure_def, Option.some.injEq] at h
    obtain ⟨a, h1, b, h2, h3⟩ := h
    subst h3
    obtain ⟨e1, e2⟩ := Rep.flat q h1
    obtain ⟨e3, e4⟩ := Reps.flats r h2
    rw [List.all_cons, e2, e4, e1, e3]
    exact ⟨rfl, rfl⟩
theorem Rep.seq (e : Ex B H) {v : V} {d : D} {ds : List D} (r : Rep G B v d) (h : d.items = some ds) : ∃ a vs, v = V.ref a ∧ (SqL G.K H a vs ∨ SqT G.K H a vs) ∧ Reps G B vs ds := by
  cases r with
  | tup s r => cases h; exact ⟨_, _, rfl, .inr (ex_t e s), r⟩
  | lst s r => cases h; exact ⟨_, _, rfl, .inl (SqL.of (e _ _ s)), r⟩
  | _ => cases h
theorem Rep.nonIff {v : V} {d : D} (r : Rep G B v d) : decide (v = .non) = (match d with | .non => true | _ => false) := by
  cases r <;> first | rfl | simp
end

/-! ### comparisons -/
def copOf : COp → CmpOp
  | .eq => .Eq | .ne => .NotEq | .lt => .Lt | .le => .LtE | .gt => .Gt | .ge => .GtE | .isN => .Is | .notN => .IsNot | .in_ => .In | .notIn => .NotIn
def rCmpD (G : Glo) (o : COp) : R2 := fun x y H Q => ∃ (B : Hp) (a b : D) (k : Bool), Bas G B H ∧ Rep G B x a ∧ Rep G B y b ∧ cmpD o a b = some k ∧ Q (.bl k) H
section
variable {X : Cx} {G : Glo}
theorem eqD_some {a b : D} {k : Bool} (h : eqD a b = some k) : ∃ x y, a.py = some x ∧ b.py = some y ∧ SeqAt.shaped x = true ∧ SeqAt.shaped y = true ∧ k = PyData.eqv x y := by
  unfold eqD at h
  split at h
  · rename_i x y h1 h2
    simp only [Bool.and_eq_true, Option.ite_none_right_eq_some, Option.some.injEq] at h
    exact ⟨x, y, h1, h2, h.1.1, h.1.2, h.2.symm⟩
  · cases h
theorem op_cmpD (hK : X.K = G.K) (hu : X.A.units + 64 < cLine) (o : COp) : OpR X (compareOp (copOf o)) (rCmpD G o) := by
  intro pins s σ H x y v u Q I rx ry h
  obtain ⟨B, a, b, k, bas, ra, rb, e, q⟩ := h
  have inn : ∀ neg, (∃ k', inD a b = some k' ∧ k = if neg then !k' else k') → rIn X.K neg x y H Q := fun neg ⟨k', h, hk⟩ => by
    unfold inD at h
    split at h
    · rename_i xx ys h1 h2
      split at h
      · rename_i vs h3
        cases h
        obtain ⟨e1, f1⟩ := ra.flat h1
        obtain ⟨p, ws, e2, sq, rr⟩ := rb.seq bas.sub h2
        obtain ⟨e3, f3⟩ := rr.flats h3
        subst e1 e2 e3 hk
        refine ⟨p, ws, rfl, hK ▸ sq, f1, f3, ?_⟩
        exact q
      · cases h
    · cases h
  cases o with
  | eq =>
    obtain ⟨d1, d2, h1, h2, s1, s2, hk⟩ := eqD_some (show eqD a b = some k from e)
    subst hk
    exact op_eqD hu pins s σ H x y v u Q I rx ry ⟨d1, d2, hK ▸ ra.dp bas.sub h1, hK ▸ rb.dp bas.sub h2, s1, s2, q⟩
  | ne =>
    simp only [cmpD, Option.map_eq_some_iff] at e
    obtain ⟨k', e, hk⟩ := e
    obtain ⟨d1, d2, h1, h2, s1, s2, hk2⟩ := eqD_some e
    subst hk hk2
    exact op_neD hu pins s σ H x y v u Q I rx ry ⟨d1, d2, hK ▸ ra.dp bas.sub h1, hK ▸ rb.dp bas.sub h2, s1, s2, q⟩
  | lt =>
    cases ra <;> cases rb <;> first | (cases e; exact op_lt pins s σ H _ _ v u Q I rx ry ⟨_, _, rfl, rfl, q⟩) | cases e
  | le =>
    cases ra <;> cases rb <;> first | (cases e; exact op_le pins s σ H _ _ v u Q I rx ry ⟨_, _, rfl, rfl, q⟩) | cases e
  | gt =>
    cases ra <;> cases rb <;> first | (cases e; exact op_gt pins s σ H _ _ v u Q I rx ry ⟨_, _, rfl, rfl, q⟩) | cases e
  | ge =>
    cases ra <;> cases rb <;> first | (cases e; exact op_ge pins s σ H _ _ v u Q I rx ry ⟨_, _, rfl, rfl, q⟩) | cases e
  | isN =>
    have z := ra.nonIff
    cases rb with
    | non =>
      refine op_isN pins s σ H _ _ v u Q I rx ry ⟨rfl, ?_⟩
      rw [z]
      cases a <;> (cases e; exact q)
    | bl b => cases ra <;> first | (cases e; exact op_is_bl pins s σ H _ _ v u Q I rx ry ⟨_, _, rfl, rfl, q⟩) | cases e
    | _ => cases a <;> cases e
  | notN =>
    have z := ra.nonIff
    cases rb with
    | non =>
      refine op_notN pins s σ H _ _ v u Q I rx ry ⟨rfl, ?_⟩
      rw [z]
      cases a <;> (cases e; exact q)
    | bl b => cases ra <;> first | (cases e; exact op_isnot_bl pins s σ H _ _ v u Q I rx ry ⟨_, _, rfl, rfl, q⟩) | cases e
    | _ => cases a <;> cases e
  | in_ => exact op_in_seq pins s σ H x y v u Q I rx ry (inn false ⟨k, e, rfl⟩)
  | notIn =>
    simp only [cmpD, Option.map_eq_some_iff] at e
    obtain ⟨k', e, hk⟩ := e
    exact op_notIn_seq pins s σ H x y v u Q I rx ry (inn true ⟨k', e, hk.symm⟩)

/-! ### truth, places -/
theorem truD_ok {B H : Hp} (e : Ex B H) {v : V} {d : D} {k : Bool} (r : Rep G B v d) (h : truD d = some k) : TruV G.K v H k := by
  cases r with
  | non => cases h; rfl
  | bl b => cases h; rfl
  | int i => cases h; rfl
  | tup s r =>
    cases h
    refine .inr (.inl ⟨_, ex_t e s, ?_⟩)
    cases r <;> rfl
  | lst s r =>
    cases h
    refine .inl ⟨_, SqL.of (e _ _ s), ?_⟩
    cases r <;> rfl
  | _ => cases h
theorem atI_reps {B : Hp} {vs : List V} {ds : List D} {i : Int} {d : D} (r : Reps G B vs ds) (h : atI ds i = some d) : ∃ v, atI vs i = some v ∧ Rep G B v d := by
  unfold atI at h ⊢
  rw [r.length]
  cases e : ixN ds.length i with
  | none => rw [e] at h; cases h
  | some j =>
    rw [e] at h
    exact r.get h
def rIxD (G : Glo) : R2 := fun x y H Q => ∃ (B : Hp) (a b d : D), Bas G B H ∧ Rep G B x a ∧ Rep G B y b ∧ ixD a b = some d ∧ ∀ v, Rep G B v d → Q v H
theorem ix_D (hK : X.K = G.K) : IxR X (rIxD G) := by
  intro ev es pins s σ H x y v u Q I rx ry h hp
  obtain ⟨B, a, b, d, bas, ra, rb, e, q⟩ := h
  cases ra with
  | tup sq rr =>
    cases rb with
    | int i =>
      obtain ⟨w, e1, e2⟩ := atI_reps rr e
      exact ix_tup ev es pins s σ H _ _ v u Q I rx ry ⟨_, _, _, _, rfl, rfl, hK ▸ ex_t bas.sub sq, e1, q w e2⟩ hp
    | _ => cases e
  | lst sq rr =>
    cases rb with
    | int i =>
      obtain ⟨w, e1, e2⟩ := atI_reps rr e
      exact ix_list ev es pins s σ H _ _ v u Q I rx ry ⟨_, _, _, _, rfl, rfl, SqL.of (bas.sub _ _ sq), e1, q w e2⟩ hp
    | _ => cases e
  | _ => cases rb <;> cases e
end
end Pd
set_option Elab.async false
set_option linter.all false
set_option maxRecDepth 100000
set_option maxHeartbeats 4000000
namespace Pd
open PySem L2 Evl PyProof.Rows PySem.Spec

section
variable {X : Cx} {G : Glo} {E : XK} {B H : Hp} {σ : L2.St} {ρ : Rho} {S : PenSt} {α β γ δ : Type} {rel : Rel α β} {rel2 : Rel γ δ}
/-- the first step of two, from a state in hand -/
theorem Post.bnd [Later rel2] {f : M α} {g : α → M γ} {Q : δ → Hp → Prop} {K : β → Hp → Prop} (w : Wld G B H σ ρ S) (p : Post rel2 G E σ B H ρ (M.bnd f g ρ S) Q)
    (k : ∀ (v : β) (a : α) (B1 H1 : Hp) (ρ1 : Rho) (S1 : PenSt), Stp G B H σ ρ B1 H1 σ ρ1 → Wld G B1 H1 σ ρ1 S1 → rel B1 H1 σ ρ1 H v a → Post rel2 G E σ B1 H1 ρ1 (g a ρ1 S1) Q → K v H1) : Lf rel G E f σ H K := by
  refine ⟨B, ρ, S, w, ?_⟩
  unfold M.bnd at p
  cases e : f ρ S with
  | ok a ρ' S' =>
    rw [e] at p
    exact fun v B' H' st w' q => k v a B' H' ρ' S' st w' q (p.rebase st)
  | exc c fs S' =>
    rw [e] at p
    exact p
  | bad =>
    rw [e] at p
    exact p
theorem Post.bndE [Later rel2] {f : M α} {g : α → M γ} {Q : δ → Hp → Prop} {K : β → Hp → Prop} (w : Wld G B H σ ρ S) (p : Post rel2 G E σ B H ρ (M.bnd f g ρ S) Q)
    (k : ∀ (v : β) (a : α) (B1 H1 : Hp) (ρ1 : Rho) (S1 : PenSt), f ρ S = .ok a ρ1 S1 → Stp G B H σ ρ B1 H1 σ ρ1 → Wld G B1 H1 σ ρ1 S1 → rel B1 H1 σ ρ1 H v a → Post rel2 G E σ B1 H1 ρ1 (g a ρ1 S1) Q → K v H1) : Lf rel G E f σ H K := by
  refine ⟨B, ρ, S, w, ?_⟩
  unfold M.bnd at p
  cases e : f ρ S with
  | ok a ρ' S' =>
    rw [e] at p
    exact fun v B' H' st w' q => k v a B' H' ρ' S' e st w' q (p.rebase st)
  | exc c fs S' =>
    rw [e] at p
    exact p
  | bad =>
    rw [e] at p
    exact p
/-- an option that must be there -/
theorem Post.opt {rel : Rel α β} {o : Option α} {Q : β → Hp → Prop} (p : Post rel G E σ B H ρ (M.opt o ρ S) Q) : ∃ a, o = some a ∧ Post rel G E σ B H ρ (.ok a ρ S) Q := by
  cases o with
  | none => exact p.elim
  | some a => exact ⟨a, rfl, p⟩
theorem Post.optB {rel : Rel α β} [Later rel] {o : Option γ} {g : γ → M α} {Q : β → Hp → Prop} (p : Post rel G E σ B H ρ (M.bnd (M.opt o) g ρ S) Q) : ∃ a, o = some a ∧ Post rel G E σ B H ρ (g a ρ S) Q := by
  cases o with
  | none => exact p.elim
  | some a => exact ⟨a, rfl, p⟩
theorem Post.it {f : α} {rel : Rel α β} {Q : β → Hp → Prop} (p : Post rel G E σ B H ρ (M.ret f ρ S) Q) : Post rel G E σ B H ρ (.ok f ρ S) Q := p
theorem Post.val {d : D} {Q : VK} {v : V} (p : Post (rSV G) G E σ B H ρ (M.ret (.im d) ρ S) Q) (w : Wld G B H σ ρ S) (r : Rep G B v d) : Q v H := Post.im (d := d) p w r
end

section
variable {X : Cx} {G : Glo} {E : XK} {a b c e : Expr} {es : List Expr} {pos : Pos} {fa fb fc f : M SV} {fs : M (List SV)}
/-! ### names and constants -/
theorem d_var {i : Nat} {x : Str} (hN : X.N[i]? = some x) (hv : Vis X.env.scope x) (hd : (x == ("__debug__" : Str)) = false) (hcd : (x == ("__classdict__" : Str)) = false) : PE X (.Name x pos) (LE G E (getV i)) := by
  refine weakE (pe_var hN hv hd hcd) fun σ H Q ⟨B, ρ, S, w, p⟩ => ?_
  unfold getV at p
  cases h : ρ[i]? with
  | none => rw [h] at p; exact p.elim
  | some o =>
    rw [h] at p
    cases o with
    | none => exact p.elim
    | some sv =>
      obtain ⟨v, hs, r⟩ := w.sl i sv h
      have own : sv.isOwn = true → Post (rSV G) G E σ B H ρ (.ok (.im sv.d) (ρ.set i (some (.im sv.d))) S) Q → tVar i σ H Q := fun ho p => by
        obtain ⟨a, o, e, _, _, ha⟩ := r.at ho
        subst e
        obtain ⟨o', w', st, r'⟩ := w.freeze h ho hs
        exact ⟨_, hs, p _ _ _ st w' ⟨r', fun z => by cases z⟩⟩
      cases sv with
      | im d => exact ⟨v, hs, Post.im (d := d) p w r⟩
      | ow xs => exact own rfl p
      | od kvs => exact own rfl p
theorem d_int {i : Int} {j : Nat} : PE X (.Constant (.int i) j pos) (LE G E (M.ret (.im (.int i)))) := weakE pe_int fun σ H Q ⟨B, ρ, S, w, p⟩ => p.val w (.int i)
theorem d_bl {i : Bool} {j : Nat} : PE X (.Constant (.bool i) j pos) (LE G E (M.ret (.im (.bl i)))) := weakE pe_bl fun σ H Q ⟨B, ρ, S, w, p⟩ => p.val w (.bl i)
theorem d_str {i : Str} {j : Nat} : PE X (.Constant (.str i) j pos) (LE G E (M.ret (.im (.str i)))) := weakE pe_str fun σ H Q ⟨B, ρ, S, w, p⟩ => p.val w (.str i)
theorem d_non {j : Nat} : PE X (.Constant .none j pos) (LE G E (M.ret (.im .non))) := weakE pe_non fun σ H Q ⟨B, ρ, S, w, p⟩ => p.val w .non
theorem d_glob {x : Str} {v : V} {u : Value} {d : D} (hg : Gl X x) (hm : X.mg x = some u) (r : RelV v u) (hr : ∀ B, Rep G B v d) (hd : (x == ("__debug__" : Str)) = false) : PE X (.Name x pos) (LE G E (M.ret (.im d))) :=
  weakE (pe_glob hg hm r hd) fun σ H Q ⟨B, ρ, S, w, p⟩ => p.val w (hr B)
/-! ### argument lists and displays -/
theorem d_nil : PA X [] (LDs G E (M.ret [])) := weakA pa_nil fun σ H Q ⟨B, ρ, S, w, p⟩ => p [] B H (Stp.refl w) w .nil
theorem d_cons (ha : PE X e (LE G E f)) (hr : PA X es (LDs G E fs)) (hs : starEach (e :: es) X.env = (false, eval e X.env) :: starEach es X.env) :
    PA X (e :: es) (LDs G E (M.bnd f fun x => M.bnd fs fun xs => M.ret (x :: xs))) := by
  refine weakA (pa_cons (frzE ha) hr hs) fun σ H Q ⟨B, ρ, S, w, p⟩ => ?_
  refine Post.bnd (rel := rD G) w p fun v a B1 H1 ρ1 S1 st w1 r p1 => ?_
  refine Post.bnd (rel := rDs G) w1 p1 fun vs as B2 H2 ρ2 S2 st2 w2 rs p2 => ?_
  exact p2 (v :: vs) B2 H2 (Stp.refl w2) w2 (.cons (Rep.mono st2.b r) rs)
theorem evEs_len : ∀ (ies : List IE) {ρ ρ' : Rho} {S S' : PenSt} {xs : List SV}, evEs ies ρ S = .ok xs ρ' S' → xs.length = ies.length
  | [], _, _, _, _, _, h => by cases h; rfl
  | e :: es, _, _, _, _, _, h => by
    simp only [evEs, M.bnd] at h
    split at h
    · split at h
      · rename_i q
        cases h
        rw [List.length_cons, List.length_cons, evEs_len es q]
      · cases h
      · cases h
    · cases h
    · cases h
theorem d_tup {k : Nat} {ies : List IE} (h : PA X es (LDs G E (evEs ies))) (hl : ies.length ≤ 100000) : PE X (.Tuple es k pos) (LE G E (M.bnd (evEs ies) fun svs => M.ret (.im (.tup (svs.map SV.d))))) := by
  refine weakE (pe_tup h) fun σ H Q ⟨B, ρ, S, w, p⟩ => ?_
  refine Post.bndE (rel := rDs G) w p fun vs as B1 H1 ρ1 S1 e st w1 rs p1 => ⟨?_, fun a ha => Post.tupN p1 w1 rs ha⟩
  have l := rs.length
  rw [List.length_map, evEs_len ies e] at l
  exact sizeL (by omega)
theorem d_lst {ies : List IE} (h : PA X es (LDs G E (evEs ies))) (hl : ies.length ≤ 100000) : PE X (.List es pos) (LE G E (M.bnd (evEs ies) fun svs => M.ret (.ow (svs.map SV.d)))) := by
  refine weakE (pe_lst h) fun σ H Q ⟨B, ρ, S, w, p⟩ => ?_
  refine Post.bndE (rel := rDs G) w p fun vs as B1 H1 ρ1 S1 e st w1 rs p1 => ⟨?_, fun a ha => Post.lstN p1 w1 rs ha⟩
  have l := rs.length
  rw [List.length_map, evEs_len ies e] at l
  exact sizeL (by omega)
/-! ### operators -/
theorem d_bin (hK : X.K = G.K) {o : BOp} (ha : PE X a (LE G E fa)) (hb : PE X b (LE G E fb)) : PE X (.BinOp a (opOf o) b pos) (LE G E (M.bnd fa fun x => M.bnd fb fun y => M.opt (binD o x.d y.d))) := by
  refine weakE (pe_op (op_binD hK o) (frzE ha) (frzE hb)) fun σ H Q ⟨B, ρ, S, w, p⟩ => ?_
  refine Post.bnd (rel := rD G) w p fun v x B1 H1 ρ1 S1 st w1 r p1 => ?_
  refine Post.bnd (rel := rD G) w1 p1 fun u y B2 H2 ρ2 S2 st2 w2 r2 p2 => ?_
  obtain ⟨sv, e, p3⟩ := p2.opt
  exact ⟨B2, x.d, y.d, sv, w2.bas, Rep.mono st2.b r, r2, e, p3.new w2⟩
theorem d_neg (ha : PE X a (LE G E fa)) : PE X (.UnaryOp .USub a pos) (LE G E (M.bnd fa fun x => match x.d with
    | .int i => M.ret (.im (.int (-i)))
    | _ => M.bad)) := by
  refine weakE (pe_un un_neg (frzE ha)) fun σ H Q ⟨B, ρ, S, w, p⟩ => ?_
  refine Post.bnd (rel := rD G) w p fun v x B1 H1 ρ1 S1 st w1 r p1 => ?_
  unfold rD at r
  cases e : x.d <;> rw [e] at r p1 <;> try exact p1.elim
  cases r
  exact ⟨_, rfl, p1.val w1 (.int _)⟩
theorem d_cmp (hK : X.K = G.K) (hu : X.A.units + 64 < cLine) {o : COp} (ha : PE X a (LE G E fa)) (hb : PE X b (LE G E fb)) (hm : behindInMarks (copOf o) b = false) :
    PE X (.Compare a [copOf o] [b] pos) (LE G E (cmpM o fa fb)) := by
  refine weakE (pe_cmpR (op_cmpD hK hu o) (frzE ha) (frzE hb) hm) fun σ H Q ⟨B, ρ, S, w, p⟩ => ?_
  refine Post.bnd (rel := rD G) w p fun v x B1 H1 ρ1 S1 st w1 r p1 => ?_
  refine Post.bnd (rel := rD G) w1 p1 fun u y B2 H2 ρ2 S2 st2 w2 r2 p2 => ?_
  obtain ⟨k, e, p3⟩ := p2.optB
  exact ⟨B2, x.d, y.d, k, w2.bas, Rep.mono st2.b r, r2, e, p3.val w2 (.bl k)⟩
/-- a test by a comparison -/
theorem t_cmp (hK : X.K = G.K) (hu : X.A.units + 64 < cLine) {o : COp} (ha : PE X a (LE G E fa)) (hb : PE X b (LE G E fb)) (hm : behindInMarks (copOf o) b = false) :
    PT X (.Compare a [copOf o] [b] pos) (LT G E (truM (cmpM o fa fb))) := by
  refine weakT (pt_cmpR (op_cmpD hK hu o) (frzE ha) (frzE hb) hm) fun σ H Q ⟨B, ρ, S, w, p⟩ => ?_
  unfold truM cmpM at p
  have p' : Post rEq G E σ B H ρ (M.bnd fa (fun x => M.bnd fb fun y => M.bnd (M.opt (cmpD o x.d y.d)) fun k => M.ret k) ρ S) Q := by
    refine Eq.mp (congrArg (fun r => Post rEq G E σ B H ρ r Q) ?_) p
    unfold M.bnd M.opt M.ret
    cases fa ρ S with
    | ok x ρ1 S1 =>
      dsimp only
      cases fb ρ1 S1 with
      | ok y ρ2 S2 =>
        dsimp only
        cases cmpD o x.d y.d <;> rfl
      | exc c fs S => rfl
      | bad => rfl
    | exc c fs S => rfl
    | bad => rfl
  refine Post.bnd (rel := rD G) w p' fun v x B1 H1 ρ1 S1 st w1 r p1 => ?_
  refine Post.bnd (rel := rD G) w1 p1 fun u y B2 H2 ρ2 S2 st2 w2 r2 p2 => ?_
  obtain ⟨k, e, p3⟩ := p2.optB
  exact ⟨B2, x.d, y.d, k, w2.bas, Rep.mono st2.b r, r2, e, k, rfl, p3 k B2 H2 (Stp.refl w2) w2 rfl⟩
/-- a chain of two -/
theorem d_chn (hK : X.K = G.K) (hu : X.A.units + 64 < cLine) {o o' : COp} (ha : PE X a (LE G E fa)) (hb : PE X b (LE G E fb)) (hc : PE X c (LE G E fc)) (hm : lastMarks [copOf o, copOf o'] [b, c] = false) :
    PE X (.Compare a [copOf o, copOf o'] [b, c] pos) (LE G E (chnM o o' fa fb fc)) := by
  refine weakE (pe_chain (op_cmpD hK hu o) (op_cmpD hK hu o') (frzE ha) (frzE hb) (frzE hc) hm) fun σ H Q ⟨B, ρ, S, w, p⟩ => ?_
  refine Post.bnd (rel := rD G) w p fun v x B1 H1 ρ1 S1 st w1 r p1 => ?_
  refine Post.bnd (rel := rD G) w1 p1 fun u y B2 H2 ρ2 S2 st2 w2 r2 p2 => ?_
  obtain ⟨k, e, p3⟩ := p2.optB
  refine ⟨B2, x.d, y.d, k, w2.bas, Rep.mono st2.b r, r2, e, k, rfl, ?_⟩
  cases k with
  | false => exact p3.val w2 (.bl false)
  | true =>
    rw [if_pos rfl] at p3 ⊢
    refine Post.bnd (rel := rD G) w2 p3 fun t z B3 H3 ρ3 S3 st3 w3 r3 p4 => ?_
    obtain ⟨k', e', p5⟩ := p4.optB
    exact ⟨B3, y.d, z.d, k', w3.bas, Rep.mono st3.b r2, r3, e', p5.val w3 (.bl k')⟩
theorem truM_chn (o o' : COp) (fa fb fc : M SV) : truM (chnM o o' fa fb fc) = M.bnd fa fun a => M.bnd fb fun b => M.bnd (M.opt (cmpD o a.d b.d)) fun k => if k then M.bnd fc fun c => M.bnd (M.opt (cmpD o' b.d c.d)) fun k' => M.ret k' else M.ret false := by
  funext ρ S
  unfold truM chnM M.bnd M.opt M.ret
  cases fa ρ S with
  | ok x ρ1 S1 =>
    dsimp only
    cases fb ρ1 S1 with
    | ok y ρ2 S2 =>
      dsimp only
      cases cmpD o x.d y.d with
      | none => rfl
      | some k =>
        cases k with
        | false => rfl
        | true =>
          simp only [if_true]
          cases fc ρ2 S2 with
          | ok z ρ3 S3 =>
            dsimp only
            cases cmpD o' y.d z.d <;> rfl
          | exc c fs S => rfl
          | bad => rfl
    | exc c fs S => rfl
    | bad => rfl
  | exc c fs S => rfl
  | bad => rfl
theorem t_chn (hK : X.K = G.K) (hu : X.A.units + 64 < cLine) {o o' : COp} (ha : PE X a (LE G E fa)) (hb : PE X b (LE G E fb)) (hc : PE X c (LE G E fc)) (hm : lastMarks [copOf o, copOf o'] [b, c] = false) :
    PT X (.Compare a [copOf o, copOf o'] [b, c] pos) (LT G E (truM (chnM o o' fa fb fc))) := by
  refine weakT (pt_chain (op_cmpD hK hu o) (op_cmpD hK hu o') (frzE ha) (frzE hb) (frzE hc) hm) fun σ H Q ⟨B, ρ, S, w, p⟩ => ?_
  rw [truM_chn] at p
  refine Post.bnd (rel := rD G) w p fun v x B1 H1 ρ1 S1 st w1 r p1 => ?_
  refine Post.bnd (rel := rD G) w1 p1 fun u y B2 H2 ρ2 S2 st2 w2 r2 p2 => ?_
  obtain ⟨k, e, p3⟩ := p2.optB
  refine ⟨B2, x.d, y.d, k, w2.bas, Rep.mono st2.b r, r2, e, k, rfl, ?_⟩
  cases k with
  | false => exact ⟨false, rfl, p3 false B2 H2 (Stp.refl w2) w2 rfl⟩
  | true =>
    rw [if_pos rfl] at p3 ⊢
    refine Post.bnd (rel := rD G) w2 p3 fun t z B3 H3 ρ3 S3 st3 w3 r3 p4 => ?_
    obtain ⟨k', e', p5⟩ := p4.optB
    exact ⟨B3, y.d, z.d, k', w3.bas, Rep.mono st3.b r2, r3, e', k', rfl, p5 k' B3 H3 (Stp.refl w3) w3 rfl⟩
/-- any value as a test -/
theorem t_val (hK : X.K = G.K) (ha : PE X a (LE G E fa)) (he : ∀ whole, isTrue a X.env whole = (do let v ← whole; standAt a.pos; holding [v] (truthy v))) : PT X a (LT G E (truM fa)) := by
  refine weakT (pt_truth (frzE ha) he) fun σ H Q ⟨B, ρ, S, w, p⟩ => ?_
  refine Post.bnd (rel := rD G) w p fun v x B1 H1 ρ1 S1 st w1 r p1 => ?_
  obtain ⟨k, e, p2⟩ := p1.opt
  exact ⟨k, hK ▸ truD_ok w1.sub r e, p2 k B1 H1 (Stp.refl w1) w1 rfl⟩
variable {ta tb : M Bool} {rest : List Expr}
theorem w_one {o : BoolOp} (ha : PT X a (LT G E ta)) : PW X (.BoolOp o [a] pos) (LT G E ta) := by
  cases o with
  | And => exact pw_and1 ha
  | Or => exact pw_or1 ha
theorem w_and (ha : PT X a (LT G E ta)) (hb : PW X (.BoolOp .And (b :: rest) pos) (LT G E tb)) : PW X (.BoolOp .And (a :: b :: rest) pos) (LT G E (andM ta tb)) := by
  refine weakW (pw_and ha hb) fun σ H Q ⟨B, ρ, S, w, p⟩ => ?_
  refine Post.bnd (rel := rEq) w p fun k k' B1 H1 ρ1 S1 st w1 r p1 => ?_
  cases r
  cases k with
  | true => exact Lf.of w1 p1
  | false => exact p1 false B1 H1 (Stp.refl w1) w1 rfl
theorem w_or (ha : PT X a (LT G E ta)) (hb : PW X (.BoolOp .Or (b :: rest) pos) (LT G E tb)) : PW X (.BoolOp .Or (a :: b :: rest) pos) (LT G E (orM ta tb)) := by
  refine weakW (pw_or ha hb) fun σ H Q ⟨B, ρ, S, w, p⟩ => ?_
  refine Post.bnd (rel := rEq) w p fun k k' B1 H1 ρ1 S1 st w1 r p1 => ?_
  cases r
  cases k with
  | true => exact p1 true B1 H1 (Stp.refl w1) w1 rfl
  | false => exact Lf.of w1 p1
theorem t_not (ha : PT X a (LT G E ta)) : PT X (.UnaryOp .Not a pos) (LT G E (M.bnd ta fun b => M.ret (!b))) := by
  refine weakT (pt_not ha) fun σ H Q ⟨B, ρ, S, w, p⟩ => ?_
  refine Post.bnd (rel := rEq) w p fun k k' B1 H1 ρ1 S1 st w1 r p1 => ?_
  cases r
  exact p1 _ B1 H1 (Stp.refl w1) w1 rfl
theorem d_ife (hc : PT X c (LT G E ta)) (ha : PE X a (LE G E fa)) (hb : PE X b (LE G E fb)) : PE X (.IfExp c a b pos) (LE G E (M.bnd ta fun k => if k then fa else fb)) := by
  refine weakE (pe_ifExp hc ha hb) fun σ H Q ⟨B, ρ, S, w, p⟩ => ?_
  refine Post.bnd (rel := rEq) w p fun k k' B1 H1 ρ1 S1 st w1 r p1 => ?_
  cases r
  cases k with
  | true => exact Lf.of w1 p1
  | false => exact Lf.of w1 p1
/-! ### and, or, not as values -/
theorem Post.bool {γ δ : Type} {rel2 : Rel γ δ} [Later rel2] {B H : Hp} {σ : L2.St} {ρ : Rho} {S : PenSt} {g : Bool → M γ} {Q : δ → Hp → Prop} {K : VK} (w : Wld G B H σ ρ S) (p : Post rel2 G E σ B H ρ (M.bnd (boolM fa) g ρ S) Q)
    (k : ∀ (b : Bool) (B1 H1 : Hp) (ρ1 : Rho) (S1 : PenSt), Stp G B H σ ρ B1 H1 σ ρ1 → Wld G B1 H1 σ ρ1 S1 → Post rel2 G E σ B1 H1 ρ1 (g b ρ1 S1) Q → K (.bl b) H1) : LE G E fa σ H K := by
  have p' : Post rel2 G E σ B H ρ (M.bnd fa (fun sv => match sv with
    | .im (.bl b) => g b
    | _ => M.bad) ρ S) Q := by
    refine Eq.mp (congrArg (fun r => Post rel2 G E σ B H ρ r Q) ?_) p
    unfold boolM M.bnd
    cases fa ρ S with
    | ok x ρ1 S1 =>
      dsimp only
      cases x with
      | im d => cases d <;> rfl
      | ow xs => rfl
      | od kvs => rfl
    | exc c fs S => rfl
    | bad => rfl
  refine Post.bnd (rel := rSV G) w p' fun v x B1 H1 ρ1 S1 st w1 r p1 => ?_
  cases x with
  | im d =>
    cases d <;> try exact p1.elim
    have r1 := r.1
    unfold RSV at r1
    cases r1
    exact k _ B1 H1 ρ1 S1 st w1 p1
  | ow xs => exact p1.elim
  | od kvs => exact p1.elim
theorem d_one {o : BoolOp} (ha : PE X a (LE G E fa)) : PE X (.BoolOp o [a] pos) (LE G E fa) := pe_one ha
theorem d_and (ha : PE X a (LE G E fa)) (hb : PE X (.BoolOp .And (b :: rest) pos) (LE G E fb)) : PE X (.BoolOp .And (a :: b :: rest) pos) (LE G E (M.bnd (boolM fa) fun k => if k then fb else M.ret (.im (.bl false)))) := by
  refine weakE (pe_and ha hb) fun σ H Q ⟨B, ρ, S, w, p⟩ => ?_
  refine Post.bool w p fun k B1 H1 ρ1 S1 st w1 p1 => ⟨k, rfl, ?_⟩
  cases k with
  | true => exact Lf.of w1 p1
  | false => exact p1.val w1 (.bl false)
theorem d_or (ha : PE X a (LE G E fa)) (hb : PE X (.BoolOp .Or (b :: rest) pos) (LE G E fb)) : PE X (.BoolOp .Or (a :: b :: rest) pos) (LE G E (M.bnd (boolM fa) fun k => if k then M.ret (.im (.bl true)) else fb)) := by
  refine weakE (pe_or ha hb) fun σ H Q ⟨B, ρ, S, w, p⟩ => ?_
  refine Post.bool w p fun k B1 H1 ρ1 S1 st w1 p1 => ⟨k, rfl, ?_⟩
  cases k with
  | true => exact p1.val w1 (.bl true)
  | false => exact Lf.of w1 p1
theorem d_not (hK : X.K = G.K) (ha : PE X a (LE G E fa)) : PE X (.UnaryOp .Not a pos) (LE G E (M.bnd (truM fa) fun b => M.ret (.im (.bl (!b))))) := by
  refine weakE (pe_notT (frzE ha)) fun σ H Q ⟨B, ρ, S, w, p⟩ => ?_
  have p' : Post (rSV G) G E σ B H ρ (M.bnd fa (fun x => M.bnd (M.opt (truD x.d)) fun b => M.ret (.im (.bl (!b)))) ρ S) Q := by
    refine Eq.mp (congrArg (fun r => Post (rSV G) G E σ B H ρ r Q) ?_) p
    unfold truM M.bnd
    cases fa ρ S <;> rfl
  refine Post.bnd (rel := rD G) w p' fun v x B1 H1 ρ1 S1 st w1 r p1 => ?_
  obtain ⟨k, e, p2⟩ := p1.optB
  exact ⟨k, hK ▸ truD_ok w1.sub r e, p2.val w1 (.bl _)⟩
/-! ### places -/
theorem d_ix (hK : X.K = G.K) (ha : PE X a (LE G E fa)) (hb : PE X b (LE G E fb)) (hs : PlainIx b) : PE X (.Subscript a b pos) (LE G E (M.bnd fa fun x => M.bnd fb fun y => M.bnd (M.opt (ixD x.d y.d)) fun d => M.ret (.im d))) := by
  refine weakE (pe_ix (ix_D hK) (frzE ha) (frzE hb) hs) fun σ H Q ⟨B, ρ, S, w, p⟩ => ?_
  refine Post.bnd (rel := rD G) w p fun v x B1 H1 ρ1 S1 st w1 r p1 => ?_
  refine Post.bnd (rel := rD G) w1 p1 fun u y B2 H2 ρ2 S2 st2 w2 r2 p2 => ?_
  obtain ⟨d, e, p3⟩ := p2.optB
  exact ⟨B2, x.d, y.d, d, w2.bas, Rep.mono st2.b r, r2, e, fun z rz => p3.val w2 rz⟩
end
end Pd
set_option Elab.async false
set_option linter.all false
set_option maxRecDepth 100000
set_option maxHeartbeats 4000000
namespace Pd
open PySem L2 Evl PyProof.Rows PySem.Spec

section
variable {X : Cx} {G : Glo} {E : XK} {a b c e : Expr} {es : List Expr} {pos : Pos} {fa fb fc f : M SV} {fs : M (List SV)}
/-! ### d["key"] -/
theorem lookup_zip {ks : List Nat} {ds : List D} {k : Nat} {d : D} (h : (ks.zip ds).lookup k = some d) : ∃ i : Nat, ks[i]? = some k ∧ ds[i]? = some d ∧ ∀ j, j < i → ks[j]? ≠ some k := by
  induction ks generalizing ds with
  | nil => simp at h
  | cons x xs ih =>
    cases ds with
    | nil => simp at h
    | cons y ys =>
      rw [List.zip_cons_cons, List.lookup_cons] at h
      by_cases q : k = x
      · subst q
        simp at h
        subst h
        exact ⟨0, rfl, rfl, fun j hj => absurd hj (Nat.not_lt_zero _)⟩
      · have q' : (k == x) = false := beq_eq_false_iff_ne.mpr q
        rw [q'] at h
        obtain ⟨i, h1, h2, h3⟩ := ih h
        refine ⟨i + 1, by simpa using h1, by simpa using h2, fun j hj => ?_⟩
        cases j with
        | zero => simp; exact fun z => q z.symm
        | succ j => simpa using h3 j (by omega)
theorem valV_at {kvs : List (Key × V)} {i : Nat} {k : Key} {v : V} (h1 : (kvs.map (·.1))[i]? = some k) (h2 : (kvs.map (·.2))[i]? = some v) (h3 : ∀ j, j < i → (kvs.map (·.1))[j]? ≠ some k) : valV kvs k = some v := by
  induction kvs generalizing i with
  | nil => simp at h1
  | cons p r ih =>
    cases i with
    | zero =>
      simp at h1 h2
      rw [valV_pos h1, h2]
    | succ i =>
      have n0 : ¬ p.1 = k := fun z => h3 0 (by omega) (by simp [z])
      rw [valV_neg n0]
      exact ih (by simpa using h1) (by simpa using h2) fun j hj => by have := h3 (j + 1) (by omega); simpa using this
/-- the keys' numbers tell them apart -/
def KeysOk (G : Glo) : Prop := ∀ i j, G.kS i = G.kS j → i = j
theorem d_key (hk : KeysOk G) (hu : X.A.units + 1 < cLine) {k : Nat} {j : Nat} {p2 : Pos} (ha : PE X a (LE G E fa)) :
    PE X (.Subscript a (.Constant (.str (G.kS k)) j p2) pos) (LE G E (M.bnd fa fun x => M.bnd (M.opt (keyD x.d k)) fun d => M.ret (.im d))) := by
  refine weakE (pe_dget hu (frzE ha) pe_str (fun _ _ => rfl)) fun σ H Q ⟨B, ρ, S, w, p⟩ => ?_
  refine Post.bnd (rel := rD G) w p fun v x B1 H1 ρ1 S1 st w1 r p1 => ?_
  obtain ⟨d, e, p2⟩ := p1.optB
  unfold rD at r
  cases ed : x.d <;> rw [ed] at r e <;> try cases e
  cases r with
  | dct ha hks hvs rr hl =>
    obtain ⟨i, i1, i2, i3⟩ := lookup_zip e
    obtain ⟨w', e1, e2⟩ := rr.get i2
    refine ⟨_, w', rfl, DGet.k (k := Sum.inr (G.kS k)) (w1.sub _ _ ha) |> fun z => ?_, p2.val w1 e2⟩
    have vv : valV _ (Sum.inr (G.kS k)) = some w' := valV_at (i := i) (by rw [hks, List.getElem?_map, i1]; rfl) (by rw [hvs]; exact e1) fun j hj z => by
      rw [hks, List.getElem?_map, Option.map_eq_some_iff] at z
      obtain ⟨m, m1, m2⟩ := z
      have : m = k := hk m k (Sum.inr.inj m2)
      subst this
      exact i3 j hj m1
    rw [vv] at z
    exact z
/-! ### o.field -/
/-- the field f in each class of ps -/
def AtrOk (G : Glo) (f : Str) (ps : List (Nat × Nat)) : Prop := ∀ c k, ps.lookup c = some k → (G.cF c)[k]? = some f
theorem lookup_at {fs : List (Str × V)} {k : Nat} {f : Str} {v : V} (h1 : (fs.map (·.1))[k]? = some f) (h2 : (fs.map (·.2))[k]? = some v) (nd : (fs.map (·.1)).Nodup) : fs.lookup f = some v := by
  induction fs generalizing k with
  | nil => simp at h1
  | cons p r ih =>
    rw [List.map_cons, List.nodup_cons] at nd
    cases k with
    | zero =>
      simp at h1 h2
      rw [List.lookup_cons, h1, h2]
      simp
    | succ k =>
      have n0 : f ≠ p.1 := fun z => nd.1 (by rw [← z]; exact List.mem_of_getElem? (i := k) (by simpa using h1))
      rw [List.lookup_cons, beq_eq_false_iff_ne.mpr n0]
      exact ih (by simpa using h1) (by simpa using h2) nd.2
theorem d_atr (hK : X.K = G.K) {fl : Str} {ps : List (Nat × Nat)} (ok : AtrOk G fl ps) (ha : PE X a (LE G E fa)) (hb : attributeBase a fl X.env (eval a X.env) = eval a X.env) :
    PE X (.Attribute a fl pos) (LE G E (M.bnd fa fun x => M.bnd (M.opt (atrD x.d ps)) fun d => M.ret (.im d))) := by
  refine weakE (pe_fld (frzE ha) hb) fun σ H Q ⟨B, ρ, S, w, p⟩ => ?_
  refine Post.bnd (rel := rD G) w p fun v x B1 H1 ρ1 S1 st w1 r p1 => ?_
  obtain ⟨d, e, p2⟩ := p1.optB
  unfold rD at r
  cases ed : x.d <;> rw [ed] at r e <;> try cases e
  cases r with
  | ins ct ha hk hv rr =>
    simp only [atrD] at e
    split at e
    · rename_i k hk2
      have o3 := ok _ _ hk2
      obtain ⟨u, e1, e2⟩ := rr.get e
      exact ⟨_, _, _, _, u, rfl, w1.sub _ _ ha, hK ▸ ct.cl, hK ▸ ct.na _ (List.mem_of_getElem? o3), lookup_at (k := k) (by rw [hk]; exact o3) (by rw [hv]; exact e1) (by rw [hk]; exact ct.nd), p2.val w1 e2⟩
    · cases e
/-! ### slices -/
theorem Reps.cut {B : Hp} {vs : List V} {ds : List D} (r : Reps G B vs ds) (lo hi : Option Int) : Reps G B (cutV vs lo hi) (cutD ds lo hi) := by
  unfold cutV cutD
  rw [r.length]
  exact (r.drop _).take _
theorem cutD_whole {α : Type} {xs : List α} {lo hi : Option Int} (h : HT.sIx xs.length 0 lo = 0 ∧ HT.sIx xs.length xs.length hi = xs.length) : cutD xs lo hi = xs := by
  unfold cutD
  rw [h.1, h.2]
  simp
def rSlD (G : Glo) : V → Option Int → Option Int → Hp → VK → Prop := fun x lo hi H Q => ∃ (B : Hp) (a : D) (sv : SV), Bas G B H ∧ Rep G B x a ∧ slcD a lo hi = some sv ∧ New G B H sv Q
theorem sl_D (hK : X.K = G.K) : SlR X (rSlD G) := by
  intro pins s σ H x v vl vu lo hi sl Q I rx hs pl pu h
  obtain ⟨B, a, sv, bas, ra, e, n⟩ := h
  cases ra with
  | tup sq rr =>
    cases e
    have l := rr.length
    refine sl_tupA pins s σ H _ v vl vu lo hi sl Q I rx hs pl pu ⟨_, _, rfl, hK ▸ ex_t bas.sub sq, fun z => ?_, fun _ p hp => n.tup bas (rr.cut lo hi) hp⟩
    rw [l] at z
    rw [cutD_whole z] at n
    exact n.im bas (.tup sq rr)
  | lst sq rr =>
    cases e
    exact sl_list pins s σ H _ v vl vu lo hi sl Q I rx hs pl pu ⟨_, _, rfl, SqL.of (bas.sub _ _ sq), fun p hp => n.lst bas (rr.cut lo hi) hp⟩
  | _ => cases e
def rO : Rel (Option Int) (Option Int) := rEq
instance : Later rO := ⟨fun _ r => r⟩
theorem o_none : PO X none (Lf rEq G E (M.ret (none : Option Int))) := ⟨fun pins s σ H Q I ⟨B, ρ, S, w, p⟩ => po_none.run pins s σ H Q I (p none B H (Stp.refl w) w rfl)⟩
theorem o_some (h : PE X e (LE G E f)) : PO X (some e) (Lf rEq G E (M.bnd f fun x => match x.d with
    | .int i => M.ret (some i)
    | _ => M.bad)) := ⟨fun pins s σ H Q I ⟨B, ρ, S, w, p⟩ => by
  refine (po_some (frzE h)).run pins s σ H Q I ?_
  refine Post.bnd (rel := rD G) w p fun v x B1 H1 ρ1 S1 st w1 r p1 => ?_
  unfold rD at r
  cases ed : x.d <;> rw [ed] at r p1 <;> try exact p1.elim
  cases r
  exact ⟨_, rfl, p1 _ B1 H1 (Stp.refl w1) w1 rfl⟩⟩
theorem d_slc (hK : X.K = G.K) {lo hi : Option Expr} {fl fh : M (Option Int)} {p2 : Pos} (ha : PE X a (LE G E fa)) (hl : PO X lo (Lf rEq G E fl)) (hh : PO X hi (Lf rEq G E fh)) :
    PE X (.Subscript a (.Slice lo hi none p2) pos) (LE G E (M.bnd fa fun x => M.bnd fl fun l => M.bnd fh fun h => M.opt (slcD x.d l h))) := by
  refine weakE (pe_slice (sl_D hK) (frzE ha) hl hh) fun σ H Q ⟨B, ρ, S, w, p⟩ => ?_
  refine Post.bnd (rel := rD G) w p fun v x B1 H1 ρ1 S1 st w1 r p1 => ?_
  refine Post.bnd (rel := rEq) w1 p1 fun l l' B2 H2 ρ2 S2 st2 w2 r2 p2 => ?_
  refine Post.bnd (rel := rEq) w2 p2 fun h h' B3 H3 ρ3 S3 st3 w3 r3 p3 => ?_
  cases r2
  cases r3
  obtain ⟨sv, e, p4⟩ := p3.opt
  exact ⟨B3, x.d, sv, w3.bas, Rep.mono st3.b (Rep.mono st2.b r), e, p4.new w3⟩
theorem d_bitlen {apos : Pos} (ha : PE X a (LE G E fa)) (hbase : attributeBase a "bit_length" X.env (eval a X.env) = eval a X.env) (hline : (apos.endLine == pos.line) = true) :
    PE X (.Call (.Attribute a "bit_length" apos) [] [] pos) (LE G E (M.bnd fa fun x => match x.d with
    | .int i => M.ret (.im (.int (if i = 0 then 0 else i.natAbs.log2 + 1)))
    | _ => M.bad)) := by
  refine weakE (pe_bits (frzE ha) hbase hline) fun σ H Q ⟨B, ρ, S, w, p⟩ => ?_
  refine Post.bnd (rel := rD G) w p fun v x B1 H1 ρ1 S1 st w1 r p1 => ?_
  unfold rD at r
  cases e : x.d <;> rw [e] at r p1 <;> try exact p1.elim
  cases r
  refine ⟨_, rfl, p1.val w1 ?_⟩
  rename_i i
  have z : ((Builtin.Int.intBits i : Nat) : Int) = if i = 0 then 0 else ((i.natAbs.log2 + 1 : Nat) : Int) := by
    unfold Builtin.Int.intBits
    by_cases q : i = 0
    · rw [if_pos q, q] <;> rfl
    · rw [if_neg q]
      simp [q]
  rw [z]
  exact .int _
end

/-! ### calls -/
/-- behind a call -/
structure Ret (G : Glo) (B H B' H' : Hp) : Prop where
  b : Ex B B'
  h : ∀ a o, H a = some o → a ≠ G.P → H' a = some o
  n : ∀ a o, B' a = some o → B a = none → H a = none
  sub : Ex B' H'
  p : B' G.P = none
  t : ∀ a, H' a = none → H a = none
theorem Wld.ret {G : Glo} {B H B1 H1 : Hp} {σ : L2.St} {ρ : Rho} {S S1 : PenSt} (w : Wld G B H σ ρ S) (g : Ret G B H B1 H1) (pe : PenAt G B1 H1 S1) : Wld G B1 H1 σ ρ S1 ∧ Stp G B H σ ρ B1 H1 σ ρ := by
  refine ⟨⟨g.sub, g.p, pe, w.len, fun i sv h => ?_, w.ap⟩, ⟨g.b, fun a u h hp _ => g.h _ _ h hp, fun a u h n => .inl (g.n a u h n), g.p, g.t, fun a q => ⟨(w.own_ne q).1, .inl q⟩⟩⟩
  obtain ⟨v, e, r⟩ := w.sl i sv h
  refine ⟨v, e, r.stay g.b fun q hq hs => ?_⟩
  obtain ⟨q', u, e', b, nP, hh⟩ := r.at hs
  rw [hq] at e'
  cases e'
  refine ⟨?_, fun o ho => g.h _ _ ho nP⟩
  cases z : B1 q with
  | none => rfl
  | some o =>
    have := g.n q o z b
    rw [hh] at this
    cases this
/-- a def's promise, by its function on data -/
def spD (G : Glo) (n : Nat) (F : DFun) : Sp := fun vs H Q E => vs.length = n ∧ ∃ (B : Hp) (ds : List D) (S : PenSt), Bas G B H ∧ PenAt G B H S ∧ Reps G B vs ds ∧
  match F ds S with
  | .ok sv S' => ∀ v B' H', Ret G B H B' H' → PenAt G B' H' S' → RSV G B' H' v sv → (sv.isOwn = true → ∃ p : Addr, v = V.ref p ∧ H p = none) → Q v H'
  | .exc c fs S' => ∀ B' H' dd ws, Ret G B H B' H' → PenAt G B' H' S' → H' dd = some (.xd ((G.cF c).zip ws)) → Reps G B' ws fs → E (.ref (G.cA c)) (some dd) H'
  | .bad => False
/-- a def keeps its promise (where nothing is being shown by repr) -/
structure FnP (P : Program) (w : World) (K : PySem.W.Frag) (mg : Str → Option Value) (base : Heap) (g : Bool) (k : Nat) (f : Addr) (fd : FuncData) (ps : List Str) (sp : Sp) : Prop where
  len : ∀ vs H Q E, sp vs H Q E → vs.length = ps.length
  run : ∀ (A : Around) (outer : List Env) (s : Shared) (H : Hp) (args : Args) (us : List Value) (vs : List V) (Q : VK) (E : XK), Room k A → (g = true → A.guards = some []) → Env0 P w K mg base A outer s H → BindsTo s fd args (ps.zip us) → Vals vs us →
    sp vs H Q E → codeAny (model P w) A (.call (.ref f) args) (CR (L2.CX P w) outer P w H s Q E) s
def TakesE (X : Cx) (E : XK) : Prop := Takes X (fun c d _ H => E c d H)
/-- what a call of the name x does to data -/
def CallOk (X : Cx) (G : Glo) (E : XK) (x : Str) (F : DFun) : Prop := ∀ (p pos : Pos) (e : Expr) (es : List Expr) (f : M (List SV)), PA X (e :: es) (LDs G E f) → starEach (e :: es) X.env = (false, eval e X.env) :: starEach es X.env → (backTo pos (starEach es X.env)).any (·.1) = false →
  PE X (.Call (.Name x p) (e :: es) [] pos) (LE G E (M.bnd f fun svs => callM F (svs.map SV.d)))
def CallOk0 (X : Cx) (G : Glo) (E : XK) (x : Str) (F : DFun) : Prop := ∀ (p pos : Pos), PE X (.Call (.Name x p) [] [] pos) (LE G E (callM F []))
section
variable {X : Cx} {G : Glo} {E : XK} {g : Bool} {k : Nat} {f : Addr} {fd : FuncData} {ps : List Str} {F : DFun} {x : Str}
/-- without the word about repr -/
theorem FnP.ok {P : Program} {w : World} {K : PySem.W.Frag} {mg : Str → Option Value} {base : Heap} {sp : Sp} (h : FnP P w K mg base false k f fd ps sp) : FnOk P w K mg base (L2.CX P w) k f fd ps sp :=
  ⟨h.len, fun A outer s H args us vs Q E hr e0 hb r p => h.run A outer s H args us vs Q E hr (fun z => by cases z) e0 hb r p⟩
theorem callP_run {pins : List (Addr × Obj)} {σ : L2.St} {H : Hp} {s : Shared} {Q : VK} {us : List Value} {vs : List V} {sp : Sp} (hf : FnP X.prog X.w X.K X.mg X.base g k f fd ps sp) (room : Room k X.A) (gd : g = true → X.A.guards = some []) (bi : L2.Binds X.K fd ps []) (tk : TakesE X E)
    (inv : Inv X pins σ H s) (rel : Vals vs us) (pre : sp vs H Q E) : wpAny (model X.prog X.w) X.A (call (.ref f) us) (EP X pins σ Q) X.xe s := by
  have many : (us ++ []).length = ps.length := by
    rw [List.append_nil, ← rel.length]
    exact hf.len _ _ _ _ pre
  have to : BindsTo s fd ⟨us, []⟩ (ps.zip us) := by
    have := bi s us inv.kIn many
    rwa [List.append_nil] at this
  refine wpAny_call (codeAny_mono (hf.run X.A X.stack s H ⟨us, []⟩ us vs Q E room gd inv.env0 to rel pre) fun r s' got => ?_)
  match r, got with
  | .error e, got => exact passes_call tk (fun _ _ _ _ h => h) pins σ H s e s' inv got
  | .ok (.ret u), got => exact inv.after got
theorem spD_of {n : Nat} {B H : Hp} {σ : L2.St} {ρ : Rho} {S : PenSt} {vs : List V} {ds : List D} {Q : VK} (w : Wld G B H σ ρ S) (rs : Reps G B vs ds) (hl : vs.length = n) (p : Post (rSV G) G E σ B H ρ (callM F ds ρ S) Q) : spD G n F vs H Q E := by
  refine ⟨hl, B, ds, S, w.bas, w.pen, rs, ?_⟩
  unfold callM at p
  split
  · rename_i sv S' e
    rw [e] at p
    intro v B' H' g pe r fr
    obtain ⟨w', st⟩ := w.ret g pe
    exact p v B' H' st w' ⟨r, fun h => let ⟨q, e, hq⟩ := fr h; ⟨q, e, w.notOwn hq, hq⟩⟩
  · rename_i c fs S' e
    rw [e] at p
    intro B' H' dd ws g pe hd r
    obtain ⟨w', st⟩ := w.ret g pe
    exact p B' H' dd ws st.x pe g.sub hd r
  · rename_i e
    rw [e] at p
    exact p
theorem callOk_of {n : Nat} (hf : FnP X.prog X.w X.K X.mg X.base g k f fd ps (spD G n F)) (room : Room k X.A) (gd : g = true → X.A.guards = some []) (hg : Gl X x) (hm : X.mg x = some (.ref f)) (hk : PySem.W.keepIn X.K (.ref f) = true) (bi : L2.Binds X.K fd ps []) (tk : TakesE X E)
    (hdb : (x == ("__debug__" : Str)) = false) (hn : ∀ ds S, F ds S ≠ .bad → ds.length = n) : CallOk X G E x F := by
  intro p pos e es fs ha he hpl
  have main : PE X (.Call (.Name x p) (e :: es) [] pos) (fun σ H Q => LDs G E fs σ H fun vs H1 => spD G n F vs H1 Q E) := by
    refine ⟨fun pins s σ H Q I h => wpAny_Call_Name_kw (ld_glob I hg hm ?_ hdb)⟩
    refine PySem.W.callWith_K (h₀ := X.base) I.ok.mod.kin hk (thn (ha.run pos pins s σ H _ I h) fun us s1 ⟨vs, H1, I1, rel, pre⟩ => ⟨I1.kIn, ?_⟩) he hpl
    exact callP_run hf room gd bi tk I1 rel pre
  refine weakE main fun σ H Q ⟨B, ρ, S, w, p⟩ => ?_
  refine Post.bnd (rel := rDs G) w p fun vs svs B1 H1 ρ1 S1 st w1 rs p1 => ?_
  refine spD_of w1 rs ?_ p1
  rw [rs.length]
  refine hn _ S1 fun z => ?_
  unfold callM at p1
  rw [z] at p1
  exact p1
theorem callOk0_of {n : Nat} (hf : FnP X.prog X.w X.K X.mg X.base g k f fd ps (spD G n F)) (room : Room k X.A) (gd : g = true → X.A.guards = some []) (hg : Gl X x) (hm : X.mg x = some (.ref f)) (hk : PySem.W.keepIn X.K (.ref f) = true) (bi : L2.Binds X.K fd ps []) (tk : TakesE X E)
    (hdb : (x == ("__debug__" : Str)) = false) (hn : ∀ ds S, F ds S ≠ .bad → ds.length = n) : CallOk0 X G E x F := by
  intro p pos
  refine ⟨fun pins s σ H Q I ⟨B, ρ, S, w, p⟩ => wpAny_Call_Name_kw (ld_glob I hg hm ?_ hdb)⟩
  refine PySem.W.callWith_K0 I.kIn hk (callP_run (us := []) (vs := []) hf room gd bi tk I .nil (spD_of w .nil ?_ p))
  refine hn [] S fun z => ?_
  unfold callM at p
  rw [z] at p
  exact p
end
/-! ### == and != by an own method of the class -/
def richD (ops : List ((Bool × Nat) × DFun)) (n : Bool) : DFun := fun ds S => match ds with
  | [.ins c fs, .ins c' gs] => if c = c' then (match ops.lookup (n, c) with
    | some F => (match F [.ins c fs, .ins c' gs] S with
      | .ok (.im (.bl b)) S' => .ok (.im (.bl b)) S'
      | _ => .bad)
    | none => .bad) else .bad
  | _ => .bad
def neB (n : Bool) : COp := if n then .ne else .eq
def rRich (G : Glo) (E : XK) (c : Nat) (F : DFun) : R2 := fun x y H Q => (∃ (B : Hp) (fs gs : List D), Bas G B H ∧ Rep G B x (.ins c fs) ∧ Rep G B y (.ins c gs)) ∧ spD G 2 F [x, y] H (fun v H' => (∃ b, v = .bl b) ∧ Q v H') E
def RichOk (X : Cx) (G : Glo) (E : XK) (n : Bool) (c : Nat) (F : DFun) : Prop := OpR X (compareOp (copOf (neB n))) (rRich G E c F)
section
variable {X : Cx} {G : Glo} {E : XK} {g : Bool} {k : Nat} {f : Addr} {fd : FuncData} {ps : List Str} {F : DFun} {a b : Expr} {pos : Pos} {fa fb : M SV} {ops : List ((Bool × Nat) × DFun)} {n : Bool}
theorem rich_of {n : Bool} {c : Nat} (hK : X.K = G.K) (hf : FnP X.prog X.w X.K X.mg X.base g k f fd ps (spD G 2 F)) (room : Room k X.A) (gd : g = true → X.A.guards = some []) (bi : L2.Binds X.K fd ps []) (tk : TakesE X E)
    (hs : PySem.W.findIn X.K (.ref (G.cA c)) (if n then "__ne__" else "__eq__") = some (some (.ref f))) (hfn : PySem.W.isFn X.K (.ref f) = true) : RichOk X G E n c F := by
  intro pins s σ H x y v u Q I rx ry h
  obtain ⟨⟨B, fs, gs, bas, ra, rb⟩, sp⟩ := h
  have key : ∀ {v : V} {fs : List D}, Rep G B v (.ins c fs) → ∃ a d q, v = V.ref a ∧ B a = some (.ins (G.cA c) d q) := fun r => by
    cases r with
    | ins ct ha hk hv rr => exact ⟨_, _, _, rfl, ha⟩
  obtain ⟨a, da, qa, rfl, ha⟩ := key ra
  obtain ⟨b, db, qb, rfl, hb⟩ := key rb
  cases rx
  cases ry
  obtain ⟨mA, J, _⟩ := ins_get I.hok (bas.sub _ _ ha)
  obtain ⟨mB, J', _⟩ := ins_get I.hok (bas.sub _ _ hb)
  obtain ⟨od, J, _⟩ := J.look
  obtain ⟨od', J', _⟩ := J'.look
  obtain ⟨m, hF⟩ := I.fr
  have vr : Vals [V.ref a, V.ref b] [Value.ref a, Value.ref b] := .cons rfl (.cons rfl .nil)
  have main := callP_run hf room gd bi tk I vr sp
  have back : wpAny (model X.prog X.w) X.A (call (.ref f) [.ref a, .ref b]) (PySem.W.CmpBack (EP X pins σ Q)) X.xe s := wpAny_mono main (fun w s' z => by
    obtain ⟨z, H', I', rz, ⟨b, e⟩, q⟩ := z
    subst e
    cases rz
    exact ⟨.bl b, H', I', rfl, q⟩) fun _ _ e => e
  cases n with
  | true => exact PySem.W.cmp_K (op := .NotEq) (tb := .ref (G.cA c)) room.units0 hF I.ok.mod.kin J J'.type (by simp [PySem.W.notFirst]) hs hfn back
  | false => exact PySem.W.cmp_K (op := .Eq) (tb := .ref (G.cA c)) room.units0 hF I.ok.mod.kin J J'.type (by simp [PySem.W.notFirst]) hs hfn back
theorem op_richA (hall : ∀ c F, ops.lookup (n, c) = some F → RichOk X G E n c F) : OpR X (compareOp (copOf (neB n))) (fun x y H Q => ∃ c F, ops.lookup (n, c) = some F ∧ rRich G E c F x y H Q) :=
  fun pins s σ H x y v u Q I rx ry ⟨c, F, h, r⟩ => hall c F h pins s σ H x y v u Q I rx ry r
theorem rich_read {x y : D} {S S2 : PenSt} {sv : FR} (e : richD ops n [x, y] S = sv) (hb : sv ≠ .bad) : ∃ c fs gs F b S', x = .ins c fs ∧ y = .ins c gs ∧ ops.lookup (n, c) = some F ∧ F [x, y] S = .ok (.im (.bl b)) S' ∧ sv = .ok (.im (.bl b)) S' := by
  subst e
  unfold richD at *
  split at hb
  · rename_i c fs c' gs q
    split at hb
    · rename_i ec
      subst ec
      split at hb
      · rename_i F eF
        split at hb
        · rename_i b S' e2
          cases q
          refine ⟨c, fs, gs, F, b, S', rfl, rfl, eF, e2, ?_⟩
          simp only [if_pos, eF, e2]
        · exact absurd rfl hb
      · exact absurd rfl hb
    · exact absurd rfl hb
  · exact absurd rfl hb
theorem d_rich (hall : ∀ c F, ops.lookup (n, c) = some F → RichOk X G E n c F) (ha : PE X a (LE G E fa)) (hb : PE X b (LE G E fb)) (hm : behindInMarks (copOf (neB n)) b = false) :
    PE X (.Compare a [copOf (neB n)] [b] pos) (LE G E (M.bnd fa fun x => M.bnd fb fun y => callM (richD ops n) [x.d, y.d])) := by
  refine weakE (pe_cmpR (op_richA hall) (frzE ha) (frzE hb) hm) fun σ H Q ⟨B, ρ, S, w, p⟩ => ?_
  refine Post.bnd (rel := rD G) w p fun v x B1 H1 ρ1 S1 st w1 r p1 => ?_
  refine Post.bnd (rel := rD G) w1 p1 fun u y B2 H2 ρ2 S2 st2 w2 r2 p2 => ?_
  unfold callM at p2
  cases e : richD ops n [x.d, y.d] S2 with
  | bad => rw [e] at p2; exact p2.elim
  | exc c fs S' => obtain ⟨_, _, _, _, _, _, _, _, _, _, z⟩ := rich_read (S2 := S2) e (by simp); cases z
  | ok sv S' =>
    obtain ⟨c, fs, gs, F, k, S3, e1, e2, e3, e4, e5⟩ := rich_read (S2 := S2) e (by simp)
    rw [e] at p2
    cases e5
    have r' : Rep G B2 v x.d := Rep.mono st2.b r
    have r2' : Rep G B2 u y.d := r2
    refine ⟨c, F, e3, ⟨B2, fs, gs, w2.bas, e1 ▸ r', e2 ▸ r2'⟩, spD_of w2 (.cons r' (.cons r2' .nil)) rfl ?_⟩
    unfold callM
    rw [e4]
    exact fun v' B' H' st' w' q => ⟨⟨k, by cases q.1; rfl⟩, p2 v' B' H' st' w' q⟩
theorem t_rich (hall : ∀ c F, ops.lookup (n, c) = some F → RichOk X G E n c F) (ha : PE X a (LE G E fa)) (hb : PE X b (LE G E fb)) (hm : behindInMarks (copOf (neB n)) b = false) :
    PT X (.Compare a [copOf (neB n)] [b] pos) (LT G E (truM (M.bnd fa fun x => M.bnd fb fun y => callM (richD ops n) [x.d, y.d]))) := by
  refine weakT (pt_cmpR (op_richA hall) (frzE ha) (frzE hb) hm) fun σ H Q ⟨B, ρ, S, w, p⟩ => ?_
  have p' : Post rEq G E σ B H ρ (M.bnd fa (fun x => M.bnd fb fun y => truM (callM (richD ops n) [x.d, y.d])) ρ S) Q := by
    refine Eq.mp (congrArg (fun r => Post rEq G E σ B H ρ r Q) ?_) p
    unfold truM M.bnd
    cases fa ρ S with
    | ok x ρ1 S1 =>
      dsimp only
      cases fb ρ1 S1 <;> rfl
    | exc c fs S => rfl
    | bad => rfl
  refine Post.bnd (rel := rD G) w p' fun v x B1 H1 ρ1 S1 st w1 r p1 => ?_
  refine Post.bnd (rel := rD G) w1 p1 fun u y B2 H2 ρ2 S2 st2 w2 r2 p2 => ?_
  unfold truM callM M.bnd at p2
  dsimp only at p2
  cases e : richD ops n [x.d, y.d] S2 with
  | bad => rw [e] at p2; exact p2.elim
  | exc c fs S' => obtain ⟨_, _, _, _, _, _, _, _, _, _, z⟩ := rich_read (S2 := S2) e (by simp); cases z
  | ok sv S' =>
    obtain ⟨c, fs, gs, F, k, S3, e1, e2, e3, e4, e5⟩ := rich_read (S2 := S2) e (by simp)
    rw [e] at p2
    cases e5
    have r' : Rep G B2 v x.d := Rep.mono st2.b r
    have r2' : Rep G B2 u y.d := r2
    refine ⟨c, F, e3, ⟨B2, fs, gs, w2.bas, e1 ▸ r', e2 ▸ r2'⟩, spD_of w2 (.cons r' (.cons r2' .nil)) rfl ?_⟩
    unfold callM
    rw [e4]
    exact fun v' B' H' st' w' q => ⟨⟨k, by cases q.1; rfl⟩, k, by cases q.1; rfl, p2 k B' H' st' w' rfl⟩
end
end Pd
set_option Elab.async false
set_option linter.all false
set_option maxRecDepth 100000
set_option maxHeartbeats 4000000
namespace Pd
open PySem L2 Evl PyProof.Rows PySem.Spec
/-! ### isinstance -/
def dTy (G : Glo) : D → Option Value
  | .non => some (.type "NoneType")
  | .bl _ => some (.type "bool")
  | .int _ => some (.type "int")
  | .str _ => some (.type "str")
  | .tup _ => some (.type "tuple")
  | .lst _ => some (.type "list")
  | .dct _ => some (.type "dict")
  | .ins c _ => some (.ref (G.cA c))
  | _ => none
section
variable {X : Cx} {G : Glo} {E : XK} {B H : Hp} {a e : Expr} {pos : Pos} {fa : M SV}
theorem Rep.ty (ex : Ex B H) {v : V} {d : D} {T : Value} (r : Rep G B v d) (h : dTy G d = some T) : TyX G.K H v T := by
  cases r with
  | non => cases h; exact .base .non
  | bl b => cases h; exact .base (.bl b)
  | int b => cases h; exact .base (.int b)
  | str b => cases h; exact .base (.str b)
  | tup s r =>
    cases h
    rcases ex_t ex s with (s | ⟨o, s⟩) | ⟨o, its, n, h1, h2, _⟩
    · exact .base (.tup s)
    · exact .fTuple s
    · exact .kTuple h1 h2
  | lst s r => cases h; exact .base (.lst (ex _ _ s))
  | dct s _ _ _ _ => cases h; exact .base (.dK (ex _ _ s))
  | ins t s _ _ _ => cases h; exact .base (.ins (ex _ _ s) t.cl t.ha t.hn t.htk t.hm)
  | _ => cases h
theorem Rep.insT {v : V} {d : D} (r : Rep G B v d) : ∀ c fs, d = .ins c fs → ClsT G c := by
  intro c fs e
  cases r with
  | ins t _ _ _ _ => cases e; exact t
  | _ => cases e
/-- the expression e says the class t -/
structure TyOk (X : Cx) (G : Glo) (t : Ty) (e : Expr) (cv : V) (u : Value) : Prop where
  ex : PE X e (tC cv)
  cl : ClsV cv u
  kit : ∀ d b, (∀ c fs, d = .ins c fs → ClsT G c) → isTy d t = some b → ∃ T, dTy G d = some T ∧ PySem.W.kitOne G.K T u = some b
theorem tru1 (b : Bool) : b = true ∨ b = false := by cases b <;> simp
theorem d_isi (hK : X.K = G.K) {t : Ty} {cv : V} {u : Value} {p : Pos} (ha : PE X a (LE G E fa)) (ht : TyOk X G t e cv u) (hg : Gl X "isinstance") (hm : X.mg "isinstance" = none)
    (s1 : starEach [a, e] X.env = (false, eval a X.env) :: starEach [e] X.env) (s2 : starEach [e] X.env = (false, eval e X.env) :: starEach [] X.env) (s3 : (backTo pos (starEach [e] X.env)).any (·.1) = false) :
    PE X (.Call (.Name "isinstance" p) [a, e] [] pos) (LE G E (M.bnd fa fun x => M.bnd (M.opt (isTys x.d [t])) fun k => M.ret (.im (.bl k)))) := by
  refine weakE (pe_callB call_isi hg hm (by decide +kernel) (pa_cons (frzE ha) (pa_cons ht.ex pa_nil s2) s1) (by decide) (by decide) s1 s3) fun σ H Q ⟨B, ρ, S, w, p⟩ => ?_
  refine Post.bnd (rel := rD G) w p fun v x B1 H1 ρ1 S1 st w1 r p1 => ?_
  obtain ⟨k, e1, p2⟩ := p1.optB
  have e2 : isTy x.d t = some k := by
    simp only [isTys] at e1
    split at e1
    · rename_i q; rw [q]; exact e1
    · rename_i q; rw [q]; exact e1
    · cases e1
  obtain ⟨T, t1, t2⟩ := ht.kit _ _ (Rep.insT r) e2
  exact ⟨v, cv, T, u, k, rfl, ht.cl, hK ▸ Rep.ty w1.sub r t1, hK ▸ t2, p2.val w1 (.bl k)⟩
theorem d_isi2 (hK : X.K = G.K) {t t' : Ty} {e' : Expr} {cv cv' : V} {u u' : Value} {p p2 : Pos} {kk : Nat} (ha : PE X a (LE G E fa)) (ht : TyOk X G t e cv u) (ht' : TyOk X G t' e' cv' u') (hg : Gl X "isinstance") (hm : X.mg "isinstance" = none)
    (s1 : starEach [a, .Tuple [e, e'] kk p2] X.env = (false, eval a X.env) :: starEach [.Tuple [e, e'] kk p2] X.env) (s3 : (backTo pos (starEach [.Tuple [e, e'] kk p2] X.env)).any (·.1) = false)
    (s4 : starEach [e, e'] X.env = (false, eval e X.env) :: starEach [e'] X.env) (s5 : starEach [e'] X.env = (false, eval e' X.env) :: starEach [] X.env) :
    PE X (.Call (.Name "isinstance" p) [a, .Tuple [e, e'] kk p2] [] pos) (LE G E (M.bnd fa fun x => M.bnd (M.opt (isTys x.d [t, t'])) fun k => M.ret (.im (.bl k)))) := by
  refine weakE (pe_callB call_isiT hg hm (by decide +kernel) (pa_cons (frzE ha) (pa_cons (pe_tup (pa_cons ht.ex (pa_cons ht'.ex pa_nil s5) s4)) pa_nil) s1) (by decide) (by decide) s1 s3) fun σ H Q ⟨B, ρ, S, w, p⟩ => ?_
  refine Post.bnd (rel := rD G) w p fun v x B1 H1 ρ1 S1 st w1 r p1 => ?_
  obtain ⟨k, e1, p2⟩ := p1.optB
  refine ⟨sizeL (by show (2 : Nat) ≤ 1000000; decide), fun tp htp => ?_⟩
  have ext : Ex H1 (upd H1 tp (.tup [cv, cv'])) := Ex.new htp
  obtain ⟨w2, st2⟩ := w1.newO htp (.tup [cv, cv'])
  have fin : Q (.bl k) (upd H1 tp (.tup [cv, cv'])) := Post.im (d := .bl k) (p2.rebase st2) w2 (.bl k)
  have go : ∀ T, dTy G x.d = some T → PySem.W.kitAny G.K T [u, u'] = some k → rIsiT X.K [v, V.ref tp] (upd H1 tp (.tup [cv, cv'])) Q := fun T t1 t2 =>
    ⟨v, tp, [cv, cv'], T, [u, u'], k, rfl, upd_same, .cons ht.cl (.cons ht'.cl .nil), hK ▸ Rep.ty (w1.sub.trans ext) r t1, hK ▸ t2, fin⟩
  simp only [isTys] at e1
  cases q : isTy x.d t with
  | none => rw [q] at e1; cases e1
  | some b =>
    rw [q] at e1
    obtain ⟨T, t1, t2⟩ := ht.kit _ _ (Rep.insT r) q
    cases b with
    | true =>
      cases e1
      exact go T t1 (by simp only [PySem.W.kitAny, t2])
    | false =>
      dsimp only at e1
      cases q' : isTy x.d t' with
      | none => rw [q'] at e1; cases e1
      | some b' =>
        rw [q'] at e1
        obtain ⟨T', t1', t2'⟩ := ht'.kit _ _ (Rep.insT r) q'
        rw [t1] at t1'
        cases t1'
        refine go T t1 ?_
        simp only [PySem.W.kitAny, t2, t2']
        cases b' <;> exact e1
end
end Pd
set_option Elab.async false
set_option linter.all false
set_option maxRecDepth 100000
set_option maxHeartbeats 4000000
namespace Pd
open PySem L2 Evl PyProof.Rows PySem.Spec

/-! ### what walks over lists and tuples, one or several at once -/
/-- the sequence at a: a list (k false), a tuple (k true) -/
def VsK (k : Bool) (K : PySem.W.Frag) (H : Hp) (a : Addr) (vs : List V) : Prop := match k with
  | false => SqL K H a vs
  | true => SqT K H a vs
def SqK (k : Bool) (h : Heap) (a : Addr) (its : Array Value) : Prop := match k with
  | false => h.IsList a its
  | true => h.IsTuple a its
def ItK (k : Bool) (h : Heap) (it a : Addr) (i : Nat) : Prop := match k with
  | false => h.IsListIter it a i
  | true => h.IsTupleIter it a i
def itO (k : Bool) (a : Addr) : Obj := match k with
  | false => { cls := .type "list_iterator", data := .fields #[.ref a, .int 0 0] }
  | true => { cls := .type "tuple_iterator", data := .fields #[.ref a, .int 0 0] }
section
variable {P : Program} {w : World} {X : Cx} {pins : List (Addr × Obj)} {σ : L2.St} {H : Hp} {s : Shared} {a it : Addr} {k : Bool} {vs ws : List V} {its : Array Value}
theorem sqK (I : Inv X pins σ H s) (h : VsK k X.K H a vs) : ∃ its : List Value, Vals vs its ∧ SqK k s.heap a its.toArray ∧ vs.length ≤ sizeLine ∧ a < s.heap.objs.size := by
  cases k with
  | false =>
    obtain ⟨its, r, p, z⟩ := I.list h
    exact ⟨its, r, p.isList, z, p.lt⟩
  | true =>
    obtain ⟨its, r, p, z⟩ := I.tuple h
    exact ⟨its, r, p, z, p.lt⟩
theorem vsK_inj (I : Inv X pins σ H s) (h : VsK k X.K H a vs) (h' : VsK k X.K H a ws) : vs = ws := by
  cases k with
  | false => exact I.list_inj h h'
  | true => exact I.tuple_inj h h'
theorem drawsK {A : Around} (hh : A.handled = none) (it a : Addr) (hne : a ≠ it) (k : Bool) (its : Array Value) : Draws P w A it [it, a] its.size (fun i v => its[i]? = some v) (fun i h => ItK k h it a i ∧ SqK k h a its) := by
  cases k with
  | false => exact Draws.list hh it a hne its
  | true => exact Draws.tuple hh it a hne its
theorem beginsK (k : Bool) (a : Addr) (its : Array Value) : Begins (.ref a) (itO k a) fun h => SqK k h a its := by
  cases k with
  | false => exact begins_list a its
  | true => exact begins_tuple a its
theorem itK_new {h : Heap} (e : h.get? it = some (itO k a)) : ItK k h it a 0 := by
  cases k with
  | false => exact ⟨_, e, rfl, rfl⟩
  | true => exact ⟨_, e, rfl, rfl⟩
theorem itK_obj {h : Heap} {i : Nat} (e : ItK k h it a i) : ∃ o, h.get? it = some o ∧ ∀ v, o.data ≠ .cell v := by
  cases k with
  | false =>
    obtain ⟨o, e1, _, d⟩ := e
    exact ⟨o, e1, fun v z => by rw [d] at z; cases z⟩
  | true =>
    obtain ⟨o, e1, _, d⟩ := e
    exact ⟨o, e1, fun v z => by rw [d] at z; cases z⟩
theorem itK_keep {h h' : Heap} {i : Nat} (e : ItK k h it a i) (kp : ∀ o, h.get? it = some o → h'.get? it = some o) : ItK k h' it a i := by
  cases k with
  | false => exact Heap.IsListIter.at e kp
  | true => exact Heap.IsTupleIter.at e kp
end
/-- from a walk that gives new tuples to the layer's turns -/
theorem turnW {P : Program} {w : World} {K : PySem.W.Frag} {J : It} {ow wr : List Addr} {it : Addr} {Ost : Nat → Heap → Prop} {elts : List Expr} {kk : Nat} {tpos : Pos} (mem : it ∈ ow) (hwr : ∀ b ∈ wr, b ∈ ow)
    (obj : ∀ i h, Ost i h → ∀ b ∈ ow, ∃ o, h.get? b = some o ∧ ∀ v, o.data ≠ .cell v)
    (keep : ∀ i h h', Ost i h → (∀ b ∈ ow, ∀ o, h.get? b = some o → h'.get? b = some o) → Ost i h')
    (step : ∀ (X : Cx), X.prog = P → X.w = w → X.K = K → X.calm = true → ∀ (i : Nat) (pins : List (Addr × Obj)) (s : Shared) (σ : L2.St) (H : Hp), Inv X pins σ H s → Ost i s.heap → J.go i H →
      ∃ (n : Nat) (Pt : Nat → Array Value → Prop) (St : Nat → Heap → Prop) (Mid : Nat → Addr → Heap → Prop) (fp : List Addr) (vs : List V), WalksT P w X.A it fp wr n Pt St Mid ∧ i < n ∧ St i s.heap ∧ (∀ h, St (i + 1) h → Ost (i + 1) h) ∧
        (∀ vals, Pt i vals → Vals vs vals.toList) ∧ vs.length ≤ 10 ∧ ∀ T, H T = none → J.yld i H (.ref T) (upd H T (.tup vs)))
    (stop : ∀ (X : Cx), X.prog = P → X.w = w → X.K = K → X.calm = true → ∀ (i : Nat) (pins : List (Addr × Obj)) (s : Shared) (σ : L2.St) (H : Hp), Inv X pins σ H s → Ost i s.heap → J.stop i H →
      ∃ (n : Nat) (Pt : Nat → Array Value → Prop) (St : Nat → Heap → Prop) (Mid : Nat → Addr → Heap → Prop) (fp : List Addr), WalksT P w X.A it fp wr n Pt St Mid ∧ St n s.heap)
    (self : ∀ (A : Around) (i : Nat) (s : Shared) (Q : Value → Shared → Prop) (E : Value → Shared → Prop), Ost i s.heap → Q (.ref it) s → wpAny (model P w) A (pyIter (.ref it)) Q E s) :
    Turn P w K (.Tuple elts kk tpos) J ow it Ost where
  mem := mem
  obj := obj
  keep := keep
  item := fun X hP hw hK hc i pins s σ H E I hf st hg => by
    obtain ⟨n, Pt, St, Mid, fp, vs, W, lt, st0, back, rel, few, yl⟩ := step X hP hw hK hc i pins s σ H I st hg
    refine W.item i s _ E lt st0 fun T vals h1 tk hp hT tup mid k1 => ⟨_, rfl, ?_⟩
    refine W.go elts kk tpos i T _ _ E mid fun h2 st2 k2 => ?_
    have nT : H T = none := I.hok.fresh hT
    have tup2 : h2.IsTuple T vals := tup.at fun o e => k2 T o (W.apart _ _ _ mid) e
    have rv := rel vals hp
    have new : ObjOk X.prog X.w (upd H T (.tup vs)) h2 T (.tup vs) := ⟨sizeL (by omega), vals.toList, rv, by rw [Array.toArray_toList]; exact tup2⟩
    have I2 : Inv X pins σ (upd H T (.tup vs)) { s with heap := h2, toks := tk } := I.turnedNew (ch := wr) (fun b o hb e => k2 b o hb (k1 b o hb e)) (fun b hb => hf b (hwr b hb)) hT new
    refine ⟨.ref T, _, I2, rfl, yl T nT, back _ st2, fun b hb => ?_⟩
    obtain ⟨o, e, _⟩ := obj _ _ st b hb
    rw [upd_ne (Nat.ne_of_lt (Nat.lt_of_lt_of_le (Heap.lt_size e) hT))]
    exact (hf b hb).1
  done := fun X hP hw hK hc i pins s σ H E I hf st hg => by
    obtain ⟨n, Pt, St, Mid, fp, W, st0⟩ := stop X hP hw hK hc i pins s σ H I st hg
    exact W.done s _ E st0 fun h' tk k => ⟨rfl, I.turnedL (ch := wr) (fun b o hb e => k b o hb e) fun b hb => hf b (hwr b hb)⟩
  self := self

/-! ### data that is walked -/
structure Iters (G : Glo) (J : It) (B : Hp) (ds : List D) : Prop where
  len : ds.length ≤ sizeLine
  go : ∀ i H, Ex B H → i < ds.length → J.go i H
  yld : ∀ i H x H' B1 d, Ex B B1 → Bas G B1 H → J.yld i H x H' → ds[i]? = some d → ∃ B2, Grw G B1 H B2 H' ∧ Rep G B2 x d
  stop : ∀ H, Ex B H → J.stop ds.length H
def rIt (G : Glo) : Rel (List D) It := fun B _ _ _ _ J ds => Iters G J B ds
instance (G : Glo) : Later (rIt G) := ⟨fun _ r => r⟩
abbrev LI (G : Glo) (E : XK) (f : M (List D)) : TI := Lf (rIt G) G E f
theorem weakI {X : Cx} {tg e : Expr} {t t' : TI} (h : PI X tg e t) (w : ∀ (pins : List (Addr × Obj)) (s : Shared) σ H R, Inv X pins σ H s → t' σ H R → t σ H (fun J H' => ∀ (pins : List (Addr × Obj)) (s : Shared), Inv X pins σ H' s → R J H')) : PI X tg e t' := by
  refine ⟨fun pins s σ H R I q => thn (h.run pins s σ H _ I (w pins s σ H R I q)) fun v s1 h1 => thn h1 fun u s2 ⟨it, fp, tn, J, H', e, I', T, st, f, r⟩ => ?_⟩
  exact ⟨it, fp, tn, J, H', e, I', T, st, f, r _ _ I'⟩
def VsB (G : Glo) (k : Bool) (B : Hp) (a : Addr) (vs : List V) : Prop := match k with
  | false => B a = some (.lst vs)
  | true => SqT G.K B a vs
section
variable {X : Cx} {G : Glo} {E : XK} {B H : Hp} {a b c e l : Expr} {pos : Pos} {f fa fb fc : M SV} {tg : Expr}
theorem VsB.up {k : Bool} {a : Addr} {vs : List V} (h : VsB G k B a vs) (e : Ex B H) : VsK k G.K H a vs := by
  cases k with
  | false => exact SqL.of (e _ _ h)
  | true => exact ex_t e h
theorem Rep.seqB {v : V} {d : D} {ds : List D} (r : Rep G B v d) (h : d.items = some ds) : ∃ k a vs, v = V.ref a ∧ VsB G k B a vs ∧ Reps G B vs ds := by
  cases r with
  | tup s r => cases h; exact ⟨true, _, _, rfl, s, r⟩
  | lst s r => cases h; exact ⟨false, _, _, rfl, s, r⟩
  | _ => cases h
def itS (K : PySem.W.Frag) (k : Bool) (a : Addr) : It := match k with
  | false => Itl K a
  | true => Itt K a
/-- for x in a list, a tuple -/
def iSeqK (K : PySem.W.Frag) (tl : TE) : TI := fun σ H R => tl σ H fun x H1 => ∃ k a vs, x = .ref a ∧ VsK k K H1 a vs ∧ R (itS K k a) H1
theorem pi_seqK {tl : TE} (hl : PE X l tl) : PI X tg l (iSeqK X.K tl) := by
  refine ⟨fun pins s σ H R I h => thn (hl.run pins s σ H _ I h) fun v s1 ⟨x, H1, I1, r1, q1⟩ => ?_⟩
  obtain ⟨k, a, vs, e, hq, q⟩ := q1
  subst e
  cases r1
  have new : ∀ b ∈ [s1.heap.objs.size], FpOk X pins H1 b := fun b hb => by
    have e : b = s1.heap.objs.size := by simpa using hb
    rw [e]
    exact I1.fpOk (Nat.le_refl _) (I1.hok.fresh (Nat.le_refl _))
  cases k with
  | false =>
    obtain ⟨its, rv, p, hz⟩ := I1.list hq
    exact wpAny_pyIter_list p.isList ⟨_, _, _, _, H1, rfl, I1.kept (t' := s1.toks) fun b o e => Heap.get?_push_of_some _ e, turn_list a _, ⟨_, Heap.get?_push_size _ rfl, rfl, rfl⟩, new, q⟩
  | true =>
    obtain ⟨its, rv, p, hz⟩ := I1.tuple hq
    exact wpAny_pyIter_tuple (show s1.heap.IsTuple a its.toArray from p) ⟨_, _, _, _, H1, rfl, I1.kept (t' := s1.toks) fun b o e => Heap.get?_push_of_some _ e, turn_tuple a _, ⟨_, Heap.get?_push_size _ rfl, rfl, rfl⟩, new, q⟩
theorem iters_seq (hK : X.K = G.K) {k : Bool} {a : Addr} {vs : List V} {ds : List D} (h : VsB G k B a vs) (r : Reps G B vs ds) (hl : vs.length ≤ sizeLine) : Iters G (itS X.K k a) B ds := by
  have l := r.length
  cases k with
  | false =>
    refine ⟨by omega, fun i H e hi => ?_, fun i H x H' B1 d e b y hd => ?_, fun H e => ⟨vs, SqL.of (e _ _ h), by omega⟩⟩
    · exact ⟨vs, vs[i], SqL.of (e _ _ h), by simp [show i < vs.length by omega]⟩
    · obtain ⟨e1, y⟩ := y
      subst e1
      have := y vs (SqL.of (b.sub _ _ (e _ _ h)))
      obtain ⟨d', h1, h2⟩ := r.getV this
      rw [hd] at h1
      cases h1
      exact ⟨B1, b.refl, Rep.mono e h2⟩
  | true =>
    have up : ∀ {H}, Ex B H → SqT X.K H a vs := fun e => hK ▸ ex_t e h
    refine ⟨by omega, fun i H e hi => ?_, fun i H x H' B1 d e b y hd => ?_, fun H e => ⟨vs, up e, by omega⟩⟩
    · exact ⟨vs, vs[i], up e, by simp [show i < vs.length by omega]⟩
    · obtain ⟨e1, y⟩ := y
      subst e1
      have := y vs (up (e.trans b.sub))
      obtain ⟨d', h1, h2⟩ := r.getV this
      rw [hd] at h1
      cases h1
      exact ⟨B1, b.refl, Rep.mono e h2⟩
theorem i_seq (hK : X.K = G.K) (hl : PE X l (LE G E f)) : PI X tg l (LI G E (M.bnd f fun x => M.opt x.d.items)) := by
  refine weakI (pi_seqK (frzE hl)) fun pins s σ H R I ⟨B, ρ, S, w, p⟩ => ?_
  refine Post.bnd (rel := rD G) w p fun v x B1 H1 ρ1 S1 st w1 r p1 => ?_
  obtain ⟨ds, e, p2⟩ := p1.opt
  obtain ⟨k, a, vs, ev, hv, rs⟩ := Rep.seqB r e
  refine ⟨k, a, vs, ev, hK ▸ hv.up w1.sub, fun pins s I1 => ?_⟩
  obtain ⟨its, rv, _, hz, _⟩ := sqK (k := k) I1 (hK ▸ hv.up w1.sub)
  exact p2 _ B1 H1 (Stp.refl w1) w1 (iters_seq hK hv rs hz)
/-! ### range -/
theorem iters_rng {lo : Int} {n : Nat} (h : n ≤ 1000000) : Iters G (Itr lo n) B (rngL lo n) := by
  have l : (rngL lo n).length = n := by unfold rngL; rw [List.length_map, List.length_range]
  refine ⟨by rw [l]; exact sizeL h, fun i H e hi => by rw [l] at hi; exact hi, fun i H x H' B1 d e b y hd => ?_, fun H e => by rw [l]; exact Nat.le_refl n⟩
  obtain ⟨e1, y⟩ := y
  subst e1 y
  unfold rngL at hd
  rw [List.getElem?_map, Option.map_eq_some_iff] at hd
  obtain ⟨k, h1, h2⟩ := hd
  obtain ⟨hk, h3⟩ := List.getElem?_eq_some_iff.mp h1
  rw [List.getElem_range] at h3
  subst h3 h2
  exact ⟨B1, b.refl, .int _⟩
theorem i_rng1 {p : Pos} (hg : Gl X "range") (hm : X.mg "range" = none) (ha : PE X a (LE G E fa)) (h1 : starEach [a] X.env = (false, eval a X.env) :: starEach [] X.env) :
    PI X tg (.Call (.Name "range" p) [a] [] pos) (LI G E (M.bnd fa fun x => match x.d with
    | .int j => if j ≤ 100000 ∧ -100000 ≤ j then M.ret (rngL 0 j.toNat) else M.bad
    | _ => M.bad)) := by
  refine weakI (pi_range1 hg hm (pa_cons (frzE ha) pa_nil h1) h1) fun pins s σ H R I ⟨B, ρ, S, w, p⟩ => ?_
  refine Post.bnd (rel := rD G) w p fun v x B1 H1 ρ1 S1 st w1 r p1 => ?_
  unfold rD at r
  cases e : x.d <;> rw [e] at r p1 <;> try exact p1.elim
  cases r
  rename_i j
  dsimp only at p1
  by_cases q : j ≤ 100000 ∧ -100000 ≤ j
  · rw [if_pos q] at p1
    exact ⟨j, rfl, by omega, by omega, fun _ _ _ => p1 _ B1 H1 (Stp.refl w1) w1 (iters_rng (by omega))⟩
  · rw [if_neg q] at p1
    exact p1.elim
theorem i_rng2 {p : Pos} (hg : Gl X "range") (hm : X.mg "range" = none) (ha : PE X a (LE G E fa)) (hb : PE X b (LE G E fb)) (h1 : starEach [a, b] X.env = (false, eval a X.env) :: starEach [b] X.env) (h2 : starEach [b] X.env = (false, eval b X.env) :: starEach [] X.env) :
    PI X tg (.Call (.Name "range" p) [a, b] [] pos) (LI G E (M.bnd fa fun x => M.bnd fb fun y => match x.d, y.d with
    | .int i, .int j => if j ≤ 100000 ∧ -100000 ≤ j ∧ i ≤ 100000 ∧ -100000 ≤ i then M.ret (rngL i (j - i).toNat) else M.bad
    | _, _ => M.bad)) := by
  refine weakI (pi_range2 hg hm (pa_cons (frzE ha) (pa_cons (frzE hb) pa_nil h2) h1) (by rw [h1, h2]; rfl) h2) fun pins s σ H R I ⟨B, ρ, S, w, p⟩ => ?_
  refine Post.bnd (rel := rD G) w p fun v x B1 H1 ρ1 S1 st w1 r p1 => ?_
  refine Post.bnd (rel := rD G) w1 p1 fun u y B2 H2 ρ2 S2 st2 w2 r2 p2 => ?_
  unfold rD at r r2
  cases e : x.d <;> rw [e] at r p2 <;> try exact p2.elim
  cases e2 : y.d <;> rw [e2] at r2 p2 <;> try exact p2.elim
  cases r
  cases r2
  rename_i i j
  dsimp only at p2
  by_cases q : j ≤ 100000 ∧ -100000 ≤ j ∧ i ≤ 100000 ∧ -100000 ≤ i
  · rw [if_pos q] at p2
    exact ⟨i, j, rfl, ⟨by omega, by omega, by omega, by omega⟩, fun _ _ _ => p2 _ B2 H2 (Stp.refl w2) w2 (iters_rng (by omega))⟩
  · rw [if_neg q] at p2
    exact p2.elim
end
end Pd
set_option Elab.async false
set_option linter.all false
set_option maxRecDepth 100000
set_option maxHeartbeats 4000000
namespace Pd
open PySem L2 Evl PyProof.Rows PySem.Spec

/-! ### enumerate, zip over lists and tuples in any mix -/
set_option maxHeartbeats 1000000 in
theorem meets_enum1 {v : Value} {o : Obj} {H : Heap → Prop} (B : Begins v o H) :
    Meets (Builtin.«enumerate.__new__» ⟨[.type "enumerate", v], []⟩) (fun _ R s => H s.heap ∧
      R (.ok (.ret (.ref (s.heap.push o).objs.size))) { s with heap := (s.heap.push o).push { cls := .type "enumerate", data := .fields #[.none, .bool false, .ref s.heap.objs.size, rawInt 0, .none, .none] } }) :=
  .of_wp fun prog w A R s h => by
    obtain ⟨hp, g, d, tk, os⟩ := s; obtain ⟨h1, h⟩ := h
    have hsub := sub_enumerate
    have q1 : ∀ {A' : Around} {E : Value → Shared → Prop} {Q : Value → Shared → Prop}, Q (.ref hp.objs.size) ⟨hp.push o, g, d, tk, os⟩ → wpAny (model prog w) A' (pyIter v) Q E ⟨hp, g, d, tk, os⟩ :=
      fun q => B.iter prog w _ _ ⟨hp, g, d, tk, os⟩ _ h1 q
    wp_walk using q1
    refine wpAny_stack_any fun st => wpAny_pure ?_
    split
    · rename_i c _ _ _ _ _
      cases (c == Value.type "enumerate")
      · wp_walk using q1
        exact ⟨_, rfl, h⟩
      · wp_walk using q1
        exact ⟨_, rfl, h⟩
    · wp_walk using q1
      exact ⟨_, rfl, h⟩
section
variable {prog : Program} {w : World} {A : Around} {E : Value → Shared → Prop} {s : Shared}
theorem enum_begins1 {v : Value} {o : Obj} {H : Heap → Prop} {Q : Value → Shared → Prop} (B : Begins v o H) (h1 : H s.heap)
    (h : ∀ h', IsEnum h' (s.heap.objs.size + 1) s.heap.objs.size 0 .none → h'.get? s.heap.objs.size = some o → h'.objs.size = s.heap.objs.size + 2 →
      (∀ b o, s.heap.get? b = some o → h'.get? b = some o) → Q (.ref (s.heap.objs.size + 1)) { s with heap := h' }) :
    wpAny (model prog w) A (call (.type "enumerate") [v]) Q E s := by
  refine callType_new F.called_enumerate (by decide) (F.typeCall_enumerate_1 _) (F.newCall_enumerate_1 _) (fun obj => F.args_object_init_2 obj _) F.entry_enumerate_new
    (meets_enum1 B) ⟨h1, ?_⟩
  have hz : (s.heap.push o).objs.size = s.heap.objs.size + 1 := Heap.size_push ..
  show _ ∧ _
  rw [hz]
  have he : IsEnum ((s.heap.push o).push { cls := .type "enumerate", data := .fields #[.none, .bool false, .ref s.heap.objs.size, rawInt 0, .none, .none] }) (s.heap.objs.size + 1) s.heap.objs.size 0 .none := by
    have := Heap.get?_push_size (s.heap.push o) (o := { cls := .type "enumerate", data := .fields #[.none, .bool false, .ref s.heap.objs.size, rawInt 0, .none, .none] }) rfl
    rw [hz] at this; exact this
  refine ⟨⟨_, he, rfl⟩, h _ he (Heap.get?_push_of_some _ (Heap.get?_push_size _ B.free)) (by rw [Heap.size_push, hz]) fun b o x => Heap.get?_push_of_some _ (Heap.get?_push_of_some _ x)⟩
end

/-- the thing at a as it stands at each turn, each item in a new pair -/
def IteK (K : PySem.W.Frag) (k : Bool) (a : Addr) : It :=
  ⟨fun i H => ∃ (xs : List V) (x : V), VsK k K H a xs ∧ xs[i]? = some x, fun i H v H' => ∃ T x, v = .ref T ∧ H T = none ∧ H' = upd H T (.tup [.int (i : Nat), x]) ∧ ∀ xs, VsK k K H a xs → xs[i]? = some x, fun i H => ∃ xs : List V, VsK k K H a xs ∧ xs.length = i⟩
theorem turn_enumK {P : Program} {w : World} {K : PySem.W.Frag} {elts : List Expr} {kk : Nat} {tpos : Pos} {k : Bool} {a e it : Addr} (h1 : e ≠ it) (h2 : e ≠ a) (h3 : a ≠ it) :
    Turn P w K (.Tuple elts kk tpos) (IteK K k a) [e, it] e (fun i h => (∃ old, IsEnum h e it ((i : Nat) : Int) old) ∧ ItK k h it a i) := by
  refine turnW (wr := [e, it]) (by simp) (fun b h => h) ?_ ?_ ?_ ?_ ?_
  · intro i h st b hb
    obtain ⟨⟨old, he⟩, hi⟩ := st
    rcases (by simpa using hb : b = e ∨ b = it) with z | z
    · rw [z]; exact ⟨_, he, fun v q => nomatch q⟩
    · rw [z]; exact itK_obj hi
  · intro i h h' st kp
    obtain ⟨⟨old, he⟩, hi⟩ := st
    exact ⟨⟨old, kp e (by simp) _ he⟩, itK_keep hi fun o q => kp it (by simp) o q⟩
  · intro X hP hw hK hc i pins s σ H I st hg
    subst hP hw hK
    obtain ⟨⟨old, he⟩, hi⟩ := st
    obtain ⟨xs, x, hq, hx⟩ := hg
    obtain ⟨its, rv, p, hz, _⟩ := sqK I hq
    obtain ⟨u, hu, ru⟩ := rv.get hx
    refine ⟨_, _, _, _, _, [.int (i : Nat), x], WalksT.enumerateD (drawsK (A := X.A.in1) (I.ok.hd hc) it a h3 k its.toArray) e h1 (by simp [h1, h2]) (by simp), ?_, ⟨⟨old, he⟩, hi, p⟩, fun h q => ⟨q.1, q.2.1⟩, ?_, by simp, fun T hT => ?_⟩
    · have := (List.getElem?_eq_some_iff.mp hu).1
      simpa using this
    · intro vals hv
      obtain ⟨t, y, hy, e⟩ := hv
      subst e
      have : y = u := by
        have hy' : its[i]? = some y := by simpa using hy
        rw [hu] at hy'
        cases hy'
        rfl
      subst this
      exact .cons ⟨_, rfl⟩ (.cons ru .nil)
    · exact ⟨T, x, rfl, hT, rfl, fun ys hy => by rw [vsK_inj I hy hq]; exact hx⟩
  · intro X hP hw hK hc i pins s σ H I st hg
    subst hP hw hK
    obtain ⟨⟨old, he⟩, hi⟩ := st
    obtain ⟨xs, hq, hx⟩ := hg
    obtain ⟨its, rv, p, hz, _⟩ := sqK I hq
    have l : its.toArray.size = i := by
      have := rv.length
      simp; omega
    refine ⟨_, _, _, _, _, WalksT.enumerateD (drawsK (A := X.A.in1) (I.ok.hd hc) it a h3 k its.toArray) e h1 (by simp [h1, h2]) (by simp), ?_⟩
    rw [l]
    exact ⟨⟨old, he⟩, hi, p⟩
  · intro A i s Q E st h
    obtain ⟨⟨old, he⟩, hi⟩ := st
    exact wpAny_pyIter_enum he h
def Vs1 (K : PySem.W.Frag) (H : Hp) (v : V) (k : Bool) (a : Addr) (xs : List V) : Prop := v = .ref a ∧ VsK k K H a xs
def iEnumK (K : PySem.W.Frag) (ta : TA) : TI := fun σ H R => ta σ H fun vs H1 => ∃ k a xs, vs = [.ref a] ∧ VsK k K H1 a xs ∧ R (IteK K k a) H1
theorem pi_enumK {X : Cx} {e : Expr} {ta : TA} {p pos tpos : Pos} {elts : List Expr} {kk : Nat} (hg : Gl X "enumerate") (hm : X.mg "enumerate" = none) (ha : PA X [e] ta) (hs : starEach [e] X.env = [(false, eval e X.env)] := by rfl) :
    PI X (.Tuple elts kk tpos) (.Call (.Name "enumerate" p) [e] [] pos) (iEnumK X.K ta) := by
  refine ⟨fun pins s σ H R I h => ?_⟩
  refine Call_ (ld_blt I hg hm boot_enumerate (PyProof.Rows.callWith_type1 (thn (ha.run pos pins s σ H _ I h) fun us s1 ⟨vs, H1, I1, r1, q1⟩ => ?_) hs rfl))
  obtain ⟨k, a, xs, ex, hq, q⟩ := q1
  subst ex
  cases r1 with
  | cons r rr =>
    cases rr
    cases r
    obtain ⟨its, rv, p', hz, hl⟩ := sqK I1 hq
    refine enum_begins1 (beginsK k a its.toArray) p' fun h' he hit hsz hk => wpAny_pyIter_enum he ?_
    have I2 : Inv X pins σ H1 { s1 with heap := h' } := I1.kept (t' := s1.toks) hk
    refine ⟨s1.heap.objs.size + 1, [s1.heap.objs.size + 1, s1.heap.objs.size], _, _, H1, rfl, I2, turn_enumK (a := a) (k := k) (Nat.succ_ne_self _) (Nat.ne_of_gt (Nat.lt_succ_of_lt hl)) (Nat.ne_of_lt hl), ⟨⟨.none, he⟩, itK_new hit⟩, fun b hb => ?_, q⟩
    have e' : b = s1.heap.objs.size + 1 ∨ b = s1.heap.objs.size := by simpa using hb
    have hle : s1.heap.objs.size ≤ b := by
      rcases e' with z | z
      · rw [z]; exact Nat.le_add_right _ _
      · rw [z]; exact Nat.le_refl _
    exact I1.fpOk hle (I1.hok.fresh hle)

/-! ### zip of two -/
def ItzK (K : PySem.W.Frag) (k l : Bool) (a b : Addr) : It :=
  ⟨fun i H => ∃ (xs ys : List V) (x y : V), VsK k K H a xs ∧ VsK l K H b ys ∧ xs[i]? = some x ∧ ys[i]? = some y,
    fun i H v H' => ∃ T x y, v = .ref T ∧ H T = none ∧ H' = upd H T (.tup [x, y]) ∧ (∀ xs, VsK k K H a xs → xs[i]? = some x) ∧ ∀ ys, VsK l K H b ys → ys[i]? = some y,
    fun i H => ∃ xs ys : List V, VsK k K H a xs ∧ VsK l K H b ys ∧ min xs.length ys.length = i⟩
theorem turn_zip2K {P : Program} {w : World} {K : PySem.W.Frag} {elts : List Expr} {kk : Nat} {tpos : Pos} {k l : Bool} {a b z TI TO i1 i2 : Addr} (S : ZipSep2 z TI TO i1 i2 [i1, a] [i2, b]) (n1 : a ≠ i1) (n2 : b ≠ i2) :
    Turn P w K (.Tuple elts kk tpos) (ItzK K k l a b) [z, TI, TO, i1, i2] z (fun i h => IsZip h z TI TO .none ∧ IsTupOf2 h TI (.ref i1) (.ref i2) ∧ (∃ x y, IsTupOf2 h TO x y) ∧ ItK k h i1 a i ∧ ItK l h i2 b i) := by
  refine turnW (ow := [z, TI, TO, i1, i2]) (wr := [z, TO, i1, i2]) (by simp) (fun b h => by simp only [List.mem_cons, List.not_mem_nil, or_false] at h ⊢; rcases h with h | h | h | h <;> simp [h]) ?_ ?_ ?_ ?_ ?_
  · intro i h st q hq
    obtain ⟨hz, hTI, ⟨x, y, hTO⟩, h1, h2⟩ := st
    rcases (by simpa using hq : q = z ∨ q = TI ∨ q = TO ∨ q = i1 ∨ q = i2) with e | e | e | e | e
    · rw [e]; exact ⟨_, hz, fun v q => nomatch q⟩
    · rw [e]; exact ⟨_, hTI, fun v q => nomatch q⟩
    · rw [e]; exact ⟨_, hTO, fun v q => nomatch q⟩
    · rw [e]; exact itK_obj h1
    · rw [e]; exact itK_obj h2
  · intro i h h' st kp
    obtain ⟨hz, hTI, ⟨x, y, hTO⟩, h1, h2⟩ := st
    exact ⟨kp z (by simp) _ hz, kp TI (by simp) _ hTI, ⟨x, y, kp TO (by simp) _ hTO⟩, itK_keep h1 fun o q => kp i1 (by simp) o q, itK_keep h2 fun o q => kp i2 (by simp) o q⟩
  · intro X hP hw hK hc i pins s σ H I st hg
    subst hP hw hK
    obtain ⟨hz, hTI, ⟨x0, y0, hTO⟩, h1, h2⟩ := st
    obtain ⟨xs, ys, x, y, q1, q2, e1, e2⟩ := hg
    obtain ⟨its1, rv1, p1, _⟩ := sqK I q1
    obtain ⟨u1, hu1, ru1⟩ := rv1.get e1
    have g1 := (List.getElem?_eq_some_iff.mp hu1).1
    obtain ⟨its2, rv2, p2, _⟩ := sqK I q2
    obtain ⟨u2, hu2, ru2⟩ := rv2.get e2
    have g2 := (List.getElem?_eq_some_iff.mp hu2).1
    refine ⟨_, _, _, _, _, [x, y], WalksT.zipD2 S (drawsK (A := X.A.in1) (I.ok.hd hc) i1 a n1 k its1.toArray) (drawsK (A := X.A.in1) (I.ok.hd hc) i2 b n2 l its2.toArray), ?_, ⟨hz, hTI, ⟨x0, y0, hTO⟩, ⟨h1, p1⟩, ⟨h2, p2⟩⟩, fun h q => ⟨q.1, q.2.1, q.2.2.1, q.2.2.2.1.1, q.2.2.2.2.1⟩, ?_, by simp, fun T hT => ?_⟩
    · simp; omega
    · intro vals hv
      obtain ⟨v1, v2, y1, y2, e⟩ := hv
      subst e
      have z1 : v1 = u1 := by
        have hy' : its1[i]? = some v1 := by simpa using y1
        rw [hu1] at hy'
        cases hy'
        rfl
      subst z1
      have z2 : v2 = u2 := by
        have hy' : its2[i]? = some v2 := by simpa using y2
        rw [hu2] at hy'
        cases hy'
        rfl
      subst z2
      exact (.cons ru1 (.cons ru2 .nil))
    · exact ⟨T, x, y, rfl, hT, rfl, fun l hl => by rw [vsK_inj I hl q1]; exact e1, fun l hl => by rw [vsK_inj I hl q2]; exact e2⟩
  · intro X hP hw hK hc i pins s σ H I st hg
    subst hP hw hK
    obtain ⟨hz, hTI, ⟨x0, y0, hTO⟩, h1, h2⟩ := st
    obtain ⟨xs, ys, q1, q2, e⟩ := hg
    obtain ⟨its1, rv1, p1, _⟩ := sqK I q1
    have l1 : its1.toArray.size = xs.length := by
      have := rv1.length
      simp; omega
    obtain ⟨its2, rv2, p2, _⟩ := sqK I q2
    have l2 : its2.toArray.size = ys.length := by
      have := rv2.length
      simp; omega
    refine ⟨_, _, _, _, _, WalksT.zipD2 S (drawsK (A := X.A.in1) (I.ok.hd hc) i1 a n1 k its1.toArray) (drawsK (A := X.A.in1) (I.ok.hd hc) i2 b n2 l its2.toArray), ?_⟩
    rw [l1, l2, e]
    exact ⟨hz, hTI, ⟨x0, y0, hTO⟩, ⟨h1, p1⟩, ⟨h2, p2⟩⟩
  · intro A i s Q E st h
    exact wpAny_pyIter_zip st.1 h
def iZip2K (K : PySem.W.Frag) (ta : TA) : TI := fun σ H R => ta σ H fun vs H1 => ∃ k l a b xs ys, vs = [.ref a, .ref b] ∧ VsK k K H1 a xs ∧ VsK l K H1 b ys ∧ R (ItzK K k l a b) H1
theorem pi_zip2K {X : Cx} {e e2 : Expr} {ta : TA} {p pos tpos : Pos} {elts : List Expr} {kk : Nat} (hg : Gl X "zip") (hm : X.mg "zip" = none) (ha : PA X [e, e2] ta)
    (hs : starEach [e, e2] X.env = (false, eval e X.env) :: starEach [e2] X.env := by rfl) (hpl : (backTo pos (starEach [e2] X.env)).any (·.1) = false := by rfl) :
    PI X (.Tuple elts kk tpos) (.Call (.Name "zip" p) [e, e2] [] pos) (iZip2K X.K ta) := by
  refine ⟨fun pins s σ H R I h => ?_⟩
  refine Call_ (ld_blt I hg hm PyProof.Rows.boot_zip (PyProof.Rows.callWith_type1 (thn (ha.run pos pins s σ H _ I h) fun us s1 ⟨vs, H1, I1, r1, q1⟩ => ?_) hs hpl))
  obtain ⟨k, l, a, b, xs, ys, ex, q1, q2, q⟩ := q1
  subst ex
  obtain ⟨u1, u2, eu, r1x, r2x⟩ : ∃ u1 u2, us = [u1, u2] ∧ RelV (.ref a) u1 ∧ RelV (.ref b) u2 := by
    cases r1 with
    | cons r1x rr1 =>
      cases rr1 with
      | cons r2x rr2 =>
        cases rr2
        exact ⟨_, _, rfl, r1x, r2x⟩
  subst eu
  cases r1x
  cases r2x
  obtain ⟨its1, rv1, p1, _, lt1⟩ := sqK I1 q1
  obtain ⟨its2, rv2, p2, _, lt2⟩ := sqK I1 q2
  refine zip_begins2 (beginsK k a its1.toArray) (beginsK l b its2.toArray) p1 p2 fun h' hz hTI hTO b1 b2 hsz hk => wpAny_pyIter_zip hz ?_
  have I2 : Inv X pins σ H1 { s1 with heap := h' } := I1.kept (t' := s1.toks) hk
  refine ⟨s1.heap.objs.size + 4, [s1.heap.objs.size + 4, s1.heap.objs.size + 2, s1.heap.objs.size + 3, s1.heap.objs.size, s1.heap.objs.size + 1], _, _, H1, rfl, I2, turn_zip2K (zip_sep2 (N := s1.heap.objs.size) (fp1 := [a]) (fun b hb => by rw [List.mem_singleton.mp hb]; exact lt1) (fp2 := [b]) (fun b hb => by rw [List.mem_singleton.mp hb]; exact lt2)) (Nat.ne_of_lt (Nat.lt_of_lt_of_le lt1 (Nat.le_add_right _ 0))) (Nat.ne_of_lt (Nat.lt_of_lt_of_le lt2 (Nat.le_add_right _ 1))), ⟨hz, hTI, ⟨_, _,  hTO⟩, itK_new b1, itK_new b2⟩, fun x hx => ?_, q⟩
  have hle : s1.heap.objs.size ≤ x := by
    rcases (by simpa using hx : x = s1.heap.objs.size + 4 ∨ x = s1.heap.objs.size + 2 ∨ x = s1.heap.objs.size + 3 ∨ x = s1.heap.objs.size ∨ x = s1.heap.objs.size + 1) with z | z | z | z | z <;> rw [z] <;> first | exact Nat.le_refl _ | exact Nat.le_add_right _ _
  exact I1.fpOk hle (I1.hok.fresh hle)

def Itz3 (K : PySem.W.Frag) (k l m : Bool) (a b c : Addr) : It :=
  ⟨fun i H => ∃ (xs ys zs : List V) (x y w : V), VsK k K H a xs ∧ VsK l K H b ys ∧ VsK m K H c zs ∧ xs[i]? = some x ∧ ys[i]? = some y ∧ zs[i]? = some w,
    fun i H v H' => ∃ T x y w, v = .ref T ∧ H T = none ∧ H' = upd H T (.tup [x, y, w]) ∧ (∀ xs, VsK k K H a xs → xs[i]? = some x) ∧ (∀ ys, VsK l K H b ys → ys[i]? = some y) ∧ ∀ zs, VsK m K H c zs → zs[i]? = some w,
    fun i H => ∃ xs ys zs : List V, VsK k K H a xs ∧ VsK l K H b ys ∧ VsK m K H c zs ∧ min (min xs.length ys.length) zs.length = i⟩

theorem turn_zip3K {P : Program} {w : World} {K : PySem.W.Frag} {elts : List Expr} {kk : Nat} {tpos : Pos} {k l m : Bool} {a b c z TI TO i1 i2 i3 : Addr} (S : ZipSep3 z TI TO i1 i2 i3 [i1, a] [i2, b] [i3, c]) (n1 : a ≠ i1) (n2 : b ≠ i2) (n3 : c ≠ i3) :
    Turn P w K (.Tuple elts kk tpos) (Itz3 K k l m a b c) [z, TI, TO, i1, i2, i3] z (fun i h => IsZip h z TI TO .none ∧ IsTupOf3 h TI (.ref i1) (.ref i2) (.ref i3) ∧ (∃ x y w, IsTupOf3 h TO x y w) ∧ ItK k h i1 a i ∧ ItK l h i2 b i ∧ ItK m h i3 c i) := by
  refine turnW (ow := [z, TI, TO, i1, i2, i3]) (wr := [z, TO, i1, i2, i3]) (by simp) (fun b h => by simp only [List.mem_cons, List.not_mem_nil, or_false] at h ⊢; rcases h with h | h | h | h | h <;> simp [h]) ?_ ?_ ?_ ?_ ?_
  · intro i h st q hq
    obtain ⟨hz, hTI, ⟨x, y, w, hTO⟩, h1, h2, h3⟩ := st
    rcases (by simpa using hq : q = z ∨ q = TI ∨ q = TO ∨ q = i1 ∨ q = i2 ∨ q = i3) with e | e | e | e | e | e
    · rw [e]; exact ⟨_, hz, fun v q => nomatch q⟩
    · rw [e]; exact ⟨_, hTI, fun v q => nomatch q⟩
    · rw [e]; exact ⟨_, hTO, fun v q => nomatch q⟩
    · rw [e]; exact itK_obj h1
    · rw [e]; exact itK_obj h2
    · rw [e]; exact itK_obj h3
  · intro i h h' st kp
    obtain ⟨hz, hTI, ⟨x, y, w, hTO⟩, h1, h2, h3⟩ := st
    exact ⟨kp z (by simp) _ hz, kp TI (by simp) _ hTI, ⟨x, y, w, kp TO (by simp) _ hTO⟩, itK_keep h1 fun o q => kp i1 (by simp) o q, itK_keep h2 fun o q => kp i2 (by simp) o q, itK_keep h3 fun o q => kp i3 (by simp) o q⟩
  · intro X hP hw hK hc i pins s σ H I st hg
    subst hP hw hK
    obtain ⟨hz, hTI, ⟨x0, y0, w0, hTO⟩, h1, h2, h3⟩ := st
    obtain ⟨xs, ys, zs, x, y, w, q1, q2, q3, e1, e2, e3⟩ := hg
    obtain ⟨its1, rv1, p1, _⟩ := sqK I q1
    obtain ⟨u1, hu1, ru1⟩ := rv1.get e1
    have g1 := (List.getElem?_eq_some_iff.mp hu1).1
    obtain ⟨its2, rv2, p2, _⟩ := sqK I q2
    obtain ⟨u2, hu2, ru2⟩ := rv2.get e2
    have g2 := (List.getElem?_eq_some_iff.mp hu2).1
    obtain ⟨its3, rv3, p3, _⟩ := sqK I q3
    obtain ⟨u3, hu3, ru3⟩ := rv3.get e3
    have g3 := (List.getElem?_eq_some_iff.mp hu3).1
    refine ⟨_, _, _, _, _, [x, y, w], WalksT.zipD3 S (drawsK (A := X.A.in1) (I.ok.hd hc) i1 a n1 k its1.toArray) (drawsK (A := X.A.in1) (I.ok.hd hc) i2 b n2 l its2.toArray) (drawsK (A := X.A.in1) (I.ok.hd hc) i3 c n3 m its3.toArray), ?_, ⟨hz, hTI, ⟨x0, y0, w0, hTO⟩, ⟨h1, p1⟩, ⟨h2, p2⟩, ⟨h3, p3⟩⟩, fun h q => ⟨q.1, q.2.1, q.2.2.1, q.2.2.2.1.1, q.2.2.2.2.1.1, q.2.2.2.2.2.1⟩, ?_, by simp, fun T hT => ?_⟩
    · simp; omega
    · intro vals hv
      obtain ⟨v1, v2, v3, y1, y2, y3, e⟩ := hv
      subst e
      have z1 : v1 = u1 := by
        have hy' : its1[i]? = some v1 := by simpa using y1
        rw [hu1] at hy'
        cases hy'
        rfl
      subst z1
      have z2 : v2 = u2 := by
        have hy' : its2[i]? = some v2 := by simpa using y2
        rw [hu2] at hy'
        cases hy'
        rfl
      subst z2
      have z3 : v3 = u3 := by
        have hy' : its3[i]? = some v3 := by simpa using y3
        rw [hu3] at hy'
        cases hy'
        rfl
      subst z3
      exact (.cons ru1 (.cons ru2 (.cons ru3 .nil)))
    · exact ⟨T, x, y, w, rfl, hT, rfl, fun l hl => by rw [vsK_inj I hl q1]; exact e1, fun l hl => by rw [vsK_inj I hl q2]; exact e2, fun l hl => by rw [vsK_inj I hl q3]; exact e3⟩
  · intro X hP hw hK hc i pins s σ H I st hg
    subst hP hw hK
    obtain ⟨hz, hTI, ⟨x0, y0, w0, hTO⟩, h1, h2, h3⟩ := st
    obtain ⟨xs, ys, zs, q1, q2, q3, e⟩ := hg
    obtain ⟨its1, rv1, p1, _⟩ := sqK I q1
    have l1 : its1.toArray.size = xs.length := by
      have := rv1.length
      simp; omega
    obtain ⟨its2, rv2, p2, _⟩ := sqK I q2
    have l2 : its2.toArray.size = ys.length := by
      have := rv2.length
      simp; omega
    obtain ⟨its3, rv3, p3, _⟩ := sqK I q3
    have l3 : its3.toArray.size = zs.length := by
      have := rv3.length
      simp; omega
    refine ⟨_, _, _, _, _, WalksT.zipD3 S (drawsK (A := X.A.in1) (I.ok.hd hc) i1 a n1 k its1.toArray) (drawsK (A := X.A.in1) (I.ok.hd hc) i2 b n2 l its2.toArray) (drawsK (A := X.A.in1) (I.ok.hd hc) i3 c n3 m its3.toArray), ?_⟩
    rw [l1, l2, l3, e]
    exact ⟨hz, hTI, ⟨x0, y0, w0, hTO⟩, ⟨h1, p1⟩, ⟨h2, p2⟩, ⟨h3, p3⟩⟩
  · intro A i s Q E st h
    exact wpAny_pyIter_zip st.1 h
def iZip3K (K : PySem.W.Frag) (ta : TA) : TI := fun σ H R => ta σ H fun vs H1 => ∃ k l m a b c xs ys zs, vs = [.ref a, .ref b, .ref c] ∧ VsK k K H1 a xs ∧ VsK l K H1 b ys ∧ VsK m K H1 c zs ∧ R (Itz3 K k l m a b c) H1
theorem pi_zip3K {X : Cx} {e e2 e3 : Expr} {ta : TA} {p pos tpos : Pos} {elts : List Expr} {kk : Nat} (hg : Gl X "zip") (hm : X.mg "zip" = none) (ha : PA X [e, e2, e3] ta)
    (hs : starEach [e, e2, e3] X.env = (false, eval e X.env) :: starEach [e2, e3] X.env := by rfl) (hpl : (backTo pos (starEach [e2, e3] X.env)).any (·.1) = false := by rfl) :
    PI X (.Tuple elts kk tpos) (.Call (.Name "zip" p) [e, e2, e3] [] pos) (iZip3K X.K ta) := by
  refine ⟨fun pins s σ H R I h => ?_⟩
  refine Call_ (ld_blt I hg hm PyProof.Rows.boot_zip (PyProof.Rows.callWith_type1 (thn (ha.run pos pins s σ H _ I h) fun us s1 ⟨vs, H1, I1, r1, q1⟩ => ?_) hs hpl))
  obtain ⟨k, l, m, a, b, c, xs, ys, zs, ex, q1, q2, q3, q⟩ := q1
  subst ex
  obtain ⟨u1, u2, u3, eu, r1x, r2x, r3x⟩ : ∃ u1 u2 u3, us = [u1, u2, u3] ∧ RelV (.ref a) u1 ∧ RelV (.ref b) u2 ∧ RelV (.ref c) u3 := by
    cases r1 with
    | cons r1x rr1 =>
      cases rr1 with
      | cons r2x rr2 =>
        cases rr2 with
        | cons r3x rr3 =>
          cases rr3
          exact ⟨_, _, _, rfl, r1x, r2x, r3x⟩
  subst eu
  cases r1x
  cases r2x
  cases r3x
  obtain ⟨its1, rv1, p1, _, lt1⟩ := sqK I1 q1
  obtain ⟨its2, rv2, p2, _, lt2⟩ := sqK I1 q2
  obtain ⟨its3, rv3, p3, _, lt3⟩ := sqK I1 q3
  refine zip_begins3 (beginsK k a its1.toArray) (beginsK l b its2.toArray) (beginsK m c its3.toArray) p1 p2 p3 fun h' hz hTI hTO b1 b2 b3 hsz hk => wpAny_pyIter_zip hz ?_
  have I2 : Inv X pins σ H1 { s1 with heap := h' } := I1.kept (t' := s1.toks) hk
  refine ⟨s1.heap.objs.size + 5, [s1.heap.objs.size + 5, s1.heap.objs.size + 3, s1.heap.objs.size + 4, s1.heap.objs.size, s1.heap.objs.size + 1, s1.heap.objs.size + 2], _, _, H1, rfl, I2, turn_zip3K (zip_sep3 (N := s1.heap.objs.size) (fp1 := [a]) (fun b hb => by rw [List.mem_singleton.mp hb]; exact lt1) (fp2 := [b]) (fun b hb => by rw [List.mem_singleton.mp hb]; exact lt2) (fp3 := [c]) (fun b hb => by rw [List.mem_singleton.mp hb]; exact lt3)) (Nat.ne_of_lt (Nat.lt_of_lt_of_le lt1 (Nat.le_add_right _ 0))) (Nat.ne_of_lt (Nat.lt_of_lt_of_le lt2 (Nat.le_add_right _ 1))) (Nat.ne_of_lt (Nat.lt_of_lt_of_le lt3 (Nat.le_add_right _ 2))), ⟨hz, hTI, ⟨_, _, _,  hTO⟩, itK_new b1, itK_new b2, itK_new b3⟩, fun x hx => ?_, q⟩
  have hle : s1.heap.objs.size ≤ x := by
    rcases (by simpa using hx : x = s1.heap.objs.size + 5 ∨ x = s1.heap.objs.size + 3 ∨ x = s1.heap.objs.size + 4 ∨ x = s1.heap.objs.size ∨ x = s1.heap.objs.size + 1 ∨ x = s1.heap.objs.size + 2) with z | z | z | z | z | z <;> rw [z] <;> first | exact Nat.le_refl _ | exact Nat.le_add_right _ _
  exact I1.fpOk hle (I1.hok.fresh hle)

end Pd
set_option Elab.async false
set_option linter.all false
set_option maxRecDepth 100000
set_option maxHeartbeats 4000000
namespace Pd
open PySem L2 Evl PyProof.Rows PySem.Spec

theorem enmL_length : ∀ (ds : List D) (k : Nat), (enmL k ds).length = ds.length
  | [], _ => rfl
  | d :: ds, k => by rw [enmL, List.length_cons, List.length_cons, enmL_length ds]
theorem enmL_get : ∀ (ds : List D) (k i : Nat), (enmL k ds)[i]? = (ds[i]?).map fun d => D.tup [.int ((k + i : Nat) : Int), d]
  | [], _, _ => rfl
  | d :: ds, k, 0 => by simp [enmL]
  | d :: ds, k, i + 1 => by
    rw [enmL, List.getElem?_cons_succ, List.getElem?_cons_succ, enmL_get ds (k + 1) i]
    rw [show k + 1 + i = k + (i + 1) by omega]
theorem zip2L_length : ∀ (as bs : List D), (zip2L as bs).length = min as.length bs.length
  | [], _ => by simp [zip2L]
  | _ :: _, [] => by simp [zip2L]
  | a :: as, b :: bs => by rw [zip2L, List.length_cons, List.length_cons, List.length_cons, zip2L_length as bs]; omega
theorem zip2L_get : ∀ (as bs : List D) (i : Nat) {d : D}, (zip2L as bs)[i]? = some d → ∃ a b, as[i]? = some a ∧ bs[i]? = some b ∧ d = .tup [a, b]
  | [], _, _, _, h => by simp [zip2L] at h
  | _ :: _, [], _, _, h => by simp [zip2L] at h
  | a :: as, b :: bs, 0, d, h => by
    simp [zip2L] at h
    exact ⟨a, b, rfl, rfl, h.symm⟩
  | a :: as, b :: bs, i + 1, d, h => by
    rw [zip2L, List.getElem?_cons_succ] at h
    simpa using zip2L_get as bs i h
theorem zip3L_length : ∀ (as bs cs : List D), (zip3L as bs cs).length = min (min as.length bs.length) cs.length
  | [], _, _ => by simp [zip3L]
  | _ :: _, [], _ => by simp [zip3L]
  | _ :: _, _ :: _, [] => by simp [zip3L]
  | a :: as, b :: bs, c :: cs => by rw [zip3L, List.length_cons, List.length_cons, List.length_cons, List.length_cons, zip3L_length as bs cs]; omega
theorem zip3L_get : ∀ (as bs cs : List D) (i : Nat) {d : D}, (zip3L as bs cs)[i]? = some d → ∃ a b c, as[i]? = some a ∧ bs[i]? = some b ∧ cs[i]? = some c ∧ d = .tup [a, b, c]
  | [], _, _, _, _, h => by simp [zip3L] at h
  | _ :: _, [], _, _, _, h => by simp [zip3L] at h
  | _ :: _, _ :: _, [], _, _, h => by simp [zip3L] at h
  | a :: as, b :: bs, c :: cs, 0, d, h => by
    simp [zip3L] at h
    exact ⟨a, b, c, rfl, rfl, rfl, h.symm⟩
  | a :: as, b :: bs, c :: cs, i + 1, d, h => by
    rw [zip3L, List.getElem?_cons_succ] at h
    simpa using zip3L_get as bs cs i h
section
variable {X : Cx} {G : Glo} {E : XK} {B H : Hp} {e e2 e3 : Expr} {pos p tpos : Pos} {elts : List Expr} {kk : Nat} {f fa fb fc : M SV}
theorem Reps.lenLe {vs : List V} {ds : List D} (r : Reps G B vs ds) (h : vs.length ≤ sizeLine) : ds.length ≤ sizeLine := by rw [← r.length]; exact h
theorem iters_enm (hK : X.K = G.K) {k : Bool} {a : Addr} {vs : List V} {ds : List D} (h : VsB G k B a vs) (r : Reps G B vs ds) (hl : vs.length ≤ sizeLine) : Iters G (IteK X.K k a) B (enmL 0 ds) := by
  have l := r.length
  have up : ∀ {H}, Ex B H → VsK k X.K H a vs := fun e => hK ▸ h.up e
  refine ⟨by rw [enmL_length]; omega, fun i H e hi => ?_, fun i H x H' B1 d e b y hd => ?_, fun H e => ⟨vs, up e, by rw [enmL_length]; exact l⟩⟩
  · rw [enmL_length] at hi
    exact ⟨vs, vs[i], up e, by simp [show i < vs.length by omega]⟩
  · obtain ⟨T, x', e1, hT, e2, y⟩ := y
    subst e1 e2
    obtain ⟨d', h1, h2⟩ := r.getV (y vs (up (e.trans b.sub)))
    rw [enmL_get, h1] at hd
    simp at hd
    subst hd
    have g := b.newB hT (.tup [.int (i : Nat), x'])
    exact ⟨_, g, .tup (SqT.of upd_same) (.cons (.int _) (.cons (Rep.mono (e.trans g.b) h2) .nil))⟩
theorem iters_zip2 (hK : X.K = G.K) {k l : Bool} {a b : Addr} {vs us : List V} {ds es : List D} (h : VsB G k B a vs) (h2 : VsB G l B b us) (r : Reps G B vs ds) (r2 : Reps G B us es) (hl : vs.length ≤ sizeLine) : Iters G (ItzK X.K k l a b) B (zip2L ds es) := by
  have z := r.length
  have z2 := r2.length
  have up : ∀ {H}, Ex B H → VsK k X.K H a vs := fun e => hK ▸ h.up e
  have up2 : ∀ {H}, Ex B H → VsK l X.K H b us := fun e => hK ▸ h2.up e
  refine ⟨by rw [zip2L_length]; omega, fun i H e hi => ?_, fun i H x H' B1 d e bb y hd => ?_, fun H e => ⟨vs, us, up e, up2 e, by rw [zip2L_length, z, z2]⟩⟩
  · rw [zip2L_length] at hi
    exact ⟨vs, us, vs[i], us[i], up e, up2 e, by simp [show i < vs.length by omega], by simp [show i < us.length by omega]⟩
  · obtain ⟨T, x', y', e1, hT, e2, y1, y2⟩ := y
    subst e1 e2
    obtain ⟨d1, h1, h1'⟩ := r.getV (y1 vs (up (e.trans bb.sub)))
    obtain ⟨d2, h2, h2'⟩ := r2.getV (y2 us (up2 (e.trans bb.sub)))
    obtain ⟨q1, q2, w1, w2, e3⟩ := zip2L_get _ _ _ hd
    rw [h1] at w1
    rw [h2] at w2
    cases w1
    cases w2
    subst e3
    have g := bb.newB hT (.tup [x', y'])
    exact ⟨_, g, .tup (SqT.of upd_same) (.cons (Rep.mono (e.trans g.b) h1') (.cons (Rep.mono (e.trans g.b) h2') .nil))⟩
theorem iters_zip3 (hK : X.K = G.K) {k l m : Bool} {a b c : Addr} {vs us ws : List V} {ds es fs : List D} (h : VsB G k B a vs) (h2 : VsB G l B b us) (h3 : VsB G m B c ws) (r : Reps G B vs ds) (r2 : Reps G B us es) (r3 : Reps G B ws fs) (hl : vs.length ≤ sizeLine) : Iters G (Itz3 X.K k l m a b c) B (zip3L ds es fs) := by
  have z := r.length
  have z2 := r2.length
  have z3 := r3.length
  have up : ∀ {H}, Ex B H → VsK k X.K H a vs := fun e => hK ▸ h.up e
  have up2 : ∀ {H}, Ex B H → VsK l X.K H b us := fun e => hK ▸ h2.up e
  have up3 : ∀ {H}, Ex B H → VsK m X.K H c ws := fun e => hK ▸ h3.up e
  refine ⟨by rw [zip3L_length]; omega, fun i H e hi => ?_, fun i H x H' B1 d e bb y hd => ?_, fun H e => ⟨vs, us, ws, up e, up2 e, up3 e, by rw [zip3L_length, z, z2, z3]⟩⟩
  · rw [zip3L_length] at hi
    exact ⟨vs, us, ws, vs[i], us[i], ws[i], up e, up2 e, up3 e, by simp [show i < vs.length by omega], by simp [show i < us.length by omega], by simp [show i < ws.length by omega]⟩
  · obtain ⟨T, x', y', w', e1, hT, e2, y1, y2, y3⟩ := y
    subst e1 e2
    obtain ⟨d1, h1, h1'⟩ := r.getV (y1 vs (up (e.trans bb.sub)))
    obtain ⟨d2, h2, h2'⟩ := r2.getV (y2 us (up2 (e.trans bb.sub)))
    obtain ⟨d3, h3, h3'⟩ := r3.getV (y3 ws (up3 (e.trans bb.sub)))
    obtain ⟨q1, q2, q3, w1, w2, w3, e3⟩ := zip3L_get _ _ _ _ hd
    rw [h1] at w1
    rw [h2] at w2
    rw [h3] at w3
    cases w1
    cases w2
    cases w3
    subst e3
    have g := bb.newB hT (.tup [x', y', w'])
    exact ⟨_, g, .tup (SqT.of upd_same) (.cons (Rep.mono (e.trans g.b) h1') (.cons (Rep.mono (e.trans g.b) h2') (.cons (Rep.mono (e.trans g.b) h3') .nil)))⟩
theorem VsB.mono {B1 : Hp} {k : Bool} {a : Addr} {vs : List V} (h : VsB G k B a vs) (e : Ex B B1) : VsB G k B1 a vs := by
  cases k with
  | false => exact e _ _ h
  | true => exact ex_t e h
theorem i_enm (hK : X.K = G.K) (hg : Gl X "enumerate") (hm : X.mg "enumerate" = none) (ha : PE X e (LE G E f)) (hs : starEach [e] X.env = (false, eval e X.env) :: starEach [] X.env) :
    PI X (.Tuple elts kk tpos) (.Call (.Name "enumerate" p) [e] [] pos) (LI G E (M.bnd f fun x => M.bnd (M.opt x.d.items) fun ds => M.ret (enmL 0 ds))) := by
  refine weakI (pi_enumK hg hm (pa_cons (frzE ha) pa_nil hs) hs) fun pins s σ H R I ⟨B, ρ, S, w, p⟩ => ?_
  refine Post.bnd (rel := rD G) w p fun v x B1 H1 ρ1 S1 st w1 r p1 => ?_
  obtain ⟨ds, e, p2⟩ := p1.optB
  obtain ⟨k, a, vs, ev, hv, rs⟩ := Rep.seqB r e
  refine ⟨k, a, vs, by rw [ev], hK ▸ hv.up w1.sub, fun pins s I1 => ?_⟩
  obtain ⟨its, rv, _, hz, _⟩ := sqK (k := k) I1 (hK ▸ hv.up w1.sub)
  exact p2 _ B1 H1 (Stp.refl w1) w1 (iters_enm hK hv rs hz)
theorem i_zip2 (hK : X.K = G.K) (hg : Gl X "zip") (hm : X.mg "zip" = none) (ha : PE X e (LE G E fa)) (hb : PE X e2 (LE G E fb)) (h1 : starEach [e, e2] X.env = (false, eval e X.env) :: starEach [e2] X.env) (h2 : starEach [e2] X.env = (false, eval e2 X.env) :: starEach [] X.env) :
    PI X (.Tuple elts kk tpos) (.Call (.Name "zip" p) [e, e2] [] pos) (LI G E (M.bnd fa fun x => M.bnd fb fun y => M.bnd (M.opt x.d.items) fun ds => M.bnd (M.opt y.d.items) fun es => M.ret (zip2L ds es))) := by
  refine weakI (pi_zip2K hg hm (pa_cons (frzE ha) (pa_cons (frzE hb) pa_nil h2) h1) h1 (by rw [h2]; rfl)) fun pins s σ H R I ⟨B, ρ, S, w, p⟩ => ?_
  refine Post.bnd (rel := rD G) w p fun v x B1 H1 ρ1 S1 st w1 r p1 => ?_
  refine Post.bnd (rel := rD G) w1 p1 fun u y B2 H2 ρ2 S2 st2 w2 r2 p2 => ?_
  obtain ⟨ds, e, p2⟩ := p2.optB
  obtain ⟨es, e', p2⟩ := p2.optB
  obtain ⟨k, a, vs, ev, hv, rs⟩ := Rep.seqB (Rep.mono st2.b r) e
  obtain ⟨l, b, us, eu, hu, rs2⟩ := Rep.seqB r2 e'
  refine ⟨k, l, a, b, vs, us, by rw [ev, eu], hK ▸ hv.up w2.sub, hK ▸ hu.up w2.sub, fun pins s I1 => ?_⟩
  obtain ⟨its, rv, _, hz, _⟩ := sqK (k := k) I1 (hK ▸ hv.up w2.sub)
  exact p2 _ B2 H2 (Stp.refl w2) w2 (iters_zip2 hK hv hu rs rs2 hz)
theorem i_zip3 (hK : X.K = G.K) (hg : Gl X "zip") (hm : X.mg "zip" = none) (ha : PE X e (LE G E fa)) (hb : PE X e2 (LE G E fb)) (hc : PE X e3 (LE G E fc)) (h1 : starEach [e, e2, e3] X.env = (false, eval e X.env) :: starEach [e2, e3] X.env) (h2 : starEach [e2, e3] X.env = (false, eval e2 X.env) :: starEach [e3] X.env)
    (h3 : starEach [e3] X.env = (false, eval e3 X.env) :: starEach [] X.env) :
    PI X (.Tuple elts kk tpos) (.Call (.Name "zip" p) [e, e2, e3] [] pos) (LI G E (M.bnd fa fun x => M.bnd fb fun y => M.bnd fc fun z => M.bnd (M.opt x.d.items) fun ds => M.bnd (M.opt y.d.items) fun es => M.bnd (M.opt z.d.items) fun fs => M.ret (zip3L ds es fs))) := by
  refine weakI (pi_zip3K hg hm (pa_cons (frzE ha) (pa_cons (frzE hb) (pa_cons (frzE hc) pa_nil h3) h2) h1) h1 (by rw [h2, h3]; rfl)) fun pins s σ H R I ⟨B, ρ, S, w, p⟩ => ?_
  refine Post.bnd (rel := rD G) w p fun v x B1 H1 ρ1 S1 st w1 r p1 => ?_
  refine Post.bnd (rel := rD G) w1 p1 fun u y B2 H2 ρ2 S2 st2 w2 r2 p2 => ?_
  refine Post.bnd (rel := rD G) w2 p2 fun t z B3 H3 ρ3 S3 st3 w3 r3 p3 => ?_
  obtain ⟨ds, e, p3⟩ := p3.optB
  obtain ⟨es, e', p3⟩ := p3.optB
  obtain ⟨fs, e'', p3⟩ := p3.optB
  obtain ⟨k, a, vs, ev, hv, rs⟩ := Rep.seqB (Rep.mono (st2.b.trans st3.b) r) e
  obtain ⟨l, b, us, eu, hu, rs2⟩ := Rep.seqB (Rep.mono st3.b r2) e'
  obtain ⟨m, c, ws, ew, hw, rs3⟩ := Rep.seqB r3 e''
  refine ⟨k, l, m, a, b, c, vs, us, ws, by rw [ev, eu, ew], hK ▸ hv.up w3.sub, hK ▸ hu.up w3.sub, hK ▸ hw.up w3.sub, fun pins s I1 => ?_⟩
  obtain ⟨its, rv, _, hz, _⟩ := sqK (k := k) I1 (hK ▸ hv.up w3.sub)
  exact p3 _ B3 H3 (Stp.refl w3) w3 (iters_zip3 hK hv hu hw rs rs2 rs3 hz)
end
end Pd
set_option Elab.async false
set_option linter.all false
set_option maxRecDepth 100000
set_option maxHeartbeats 4000000
namespace Pd
open PySem L2 Evl PyProof.Rows PySem.Spec

/-! ### stores into slots -/
section
variable {G : Glo} {E : XK} {B H B1 H1 : Hp} {σ : L2.St} {ρ : Rho} {S : PenSt}
theorem Wld.set (w : Wld G B H σ ρ S) {i : Nat} {v : V} {sv : SV} {H0 : Hp} (hi : i < ρ.length) (r : RSV G B H v sv) (f : Fre σ ρ H0 v sv) :
    Wld G B H (σ.set i (some v)) (ρ.set i (some sv)) S ∧ ∀ {B0 : Hp} {ρ0 : Rho} {σ0 : L2.St}, Stp G B0 H0 σ0 ρ0 B H σ ρ → Stp G B0 H0 σ0 ρ0 B H (σ.set i (some v)) (ρ.set i (some sv)) := by
  have hs : i < σ.length := by rw [← w.len]; exact hi
  have other : ∀ {j : Nat} {y : SV}, i ≠ j → (ρ.set i (some sv))[j]? = some (some y) → ρ[j]? = some (some y) := fun q h => by rwa [List.getElem?_set_ne q] at h
  refine ⟨⟨w.sub, w.pB, w.pen, by rw [List.length_set, List.length_set]; exact w.len, fun j y h => ?_, fun j k x y p j1 k1 jx ky js ks => ?_⟩, fun {B0 ρ0 σ0} st => ⟨st.b, st.h, st.n, st.p, st.t, fun a ⟨j, y, h1, h2, h3⟩ => ?_⟩⟩
  · by_cases q : i = j
    · subst q
      rw [List.getElem?_set_self hi] at h
      cases h
      exact ⟨v, by rw [List.getElem?_set_self hs], r⟩
    · rw [List.getElem?_set_ne q]
      exact w.sl j y (other q h)
  · by_cases qj : i = j
    · by_cases qk : i = k
      · rw [← qj, ← qk]
      · exfalso
        subst qj
        rw [List.getElem?_set_self hi] at j1
        rw [List.getElem?_set_self hs] at js
        cases j1
        cases js
        rw [List.getElem?_set_ne qk] at ks
        obtain ⟨p', e, n, z⟩ := f jx
        cases e
        exact n ⟨k, y, other qk k1, ky, ks⟩
    · by_cases qk : i = k
      · exfalso
        subst qk
        rw [List.getElem?_set_self hi] at k1
        rw [List.getElem?_set_self hs] at ks
        cases k1
        cases ks
        rw [List.getElem?_set_ne qj] at js
        obtain ⟨p', e, n, z⟩ := f ky
        cases e
        exact n ⟨j, x, other qj j1, jx, js⟩
      · rw [List.getElem?_set_ne qj] at js
        rw [List.getElem?_set_ne qk] at ks
        exact w.ap j k x y p (other qj j1) (other qk k1) jx ky js ks
  · by_cases q : i = j
    · subst q
      rw [List.getElem?_set_self hi] at h1
      rw [List.getElem?_set_self hs] at h3
      cases h1
      cases h3
      obtain ⟨p', e, n, z⟩ := f h2
      cases e
      obtain ⟨p2, o, e2, _, nP, _⟩ := r.at h2
      cases e2
      exact ⟨nP, .inr z⟩
    · rw [List.getElem?_set_ne q] at h3
      exact st.o a ⟨j, y, other q h1, h2, h3⟩
theorem Wld.setIm (w : Wld G B H σ ρ S) {i : Nat} {v : V} {d : D} (hi : i < ρ.length) (r : Rep G B v d) :
    Wld G B H (σ.set i (some v)) (ρ.set i (some (.im d))) S ∧ Stp G B H σ ρ B H (σ.set i (some v)) (ρ.set i (some (.im d))) := by
  obtain ⟨w', k⟩ := w.set (v := v) (sv := .im d) (H0 := H) hi r (fun h => by cases h)
  exact ⟨w', k (Stp.refl w)⟩
end

/-! ### slots forgotten -/
theorem wipe_get (σ : L2.St) : ∀ (vs : List Nat) (j : Nat), (wipe σ vs)[j]? = if j ∈ vs then (if j < σ.length then some none else none) else σ[j]?
  | [], j => by simp [wipe]
  | v :: vs, j => by
    unfold wipe
    by_cases q : v = j
    · subst q
      by_cases l : v < σ.length
      · rw [List.getElem?_set_self (by rw [wipe_length]; exact l)]
        simp [l]
      · rw [List.getElem?_eq_none (by rw [List.length_set, wipe_length]; omega)]
        simp [l]
    · rw [List.getElem?_set_ne q, wipe_get σ vs j]
      have : (j ∈ v :: vs) ↔ j ∈ vs := by
        rw [List.mem_cons]
        exact ⟨fun h => h.elim (fun e => absurd e.symm q) id, .inr⟩
      simp only [this]
theorem wipe_same {σ τ : L2.St} {vs : List Nat} (hl : σ.length = τ.length) (h : ∀ j, j ∉ vs → σ[j]? = τ[j]?) : wipe σ vs = wipe τ vs := by
  apply List.ext_getElem?
  intro j
  rw [wipe_get, wipe_get, hl]
  by_cases q : j ∈ vs
  · rw [if_pos q, if_pos q]
  · rw [if_neg q, if_neg q, h j q]
theorem wipe_set {σ : L2.St} {vs : List Nat} {i : Nat} {x : Option V} (h : i ∈ vs) : wipe (σ.set i x) vs = wipe σ vs := by
  refine wipe_same (List.length_set ..) fun j hj => ?_
  rw [List.getElem?_set_ne (fun e : i = j => hj (e ▸ h))]
theorem wipe_wipe {σ : L2.St} {vs : List Nat} : wipe (wipe σ vs) vs = wipe σ vs := by
  refine wipe_same (wipe_length ..) fun j hj => ?_
  rw [wipe_get, if_neg hj]
theorem wipeE_length (ρ : Rho) : ∀ vs : List Nat, (wipeE ρ vs).length = ρ.length
  | [] => rfl
  | v :: vs => by unfold wipeE; rw [List.length_set, wipeE_length ρ vs]
theorem wipeE_some {ρ : Rho} {i : Nat} {x : SV} : ∀ {vs : List Nat}, (wipeE ρ vs)[i]? = some (some x) → ρ[i]? = some (some x) ∧ i ∉ vs
  | [], h => ⟨h, by simp⟩
  | v :: vs, h => by
    unfold wipeE at h
    by_cases hi : v = i
    · subst hi
      by_cases hv : v < (wipeE ρ vs).length
      · rw [List.getElem?_set_self hv] at h; cases h
      · rw [List.getElem?_eq_none (by simpa using hv)] at h; cases h
    · rw [List.getElem?_set_ne hi] at h
      obtain ⟨h1, h2⟩ := wipeE_some h
      exact ⟨h1, by simp only [List.mem_cons, not_or]; exact ⟨fun e => hi e.symm, h2⟩⟩
section
variable {G : Glo} {E : XK} {B H B1 H1 : Hp} {σ : L2.St} {ρ : Rho} {S : PenSt} {vs : List Nat}
theorem Own.wipe (o : Own (wipe σ vs) (wipeE ρ vs) a) : Own σ ρ a := by
  obtain ⟨i, sv, h1, h2, h3⟩ := o
  obtain ⟨h1, hn⟩ := wipeE_some h1
  rw [wipe_get, if_neg hn] at h3
  exact ⟨i, sv, h1, h2, h3⟩
theorem Wld.wipe (w : Wld G B H σ ρ S) (vs : List Nat) : Wld G B H (L2.wipe σ vs) (wipeE ρ vs) S ∧ Stp G B H σ ρ B H (L2.wipe σ vs) (wipeE ρ vs) := by
  have g : ∀ {i x}, i ∉ vs → (L2.wipe σ vs)[i]? = some (some x) → σ[i]? = some (some x) := fun hn h => by rwa [wipe_get, if_neg hn] at h
  refine ⟨⟨w.sub, w.pB, w.pen, by rw [wipeE_length, wipe_length]; exact w.len, fun i sv h => ?_, fun i j x y p i1 j1 ix jy is js => ?_⟩, ⟨Ex.refl B, fun _ _ h _ _ => h, fun a o h n => (by rw [n] at h; cases h), w.pB, fun _ h => h, fun a o => ⟨(w.own_ne o.wipe).1, .inl o.wipe⟩⟩⟩
  · obtain ⟨h1, hn⟩ := wipeE_some h
    rw [wipe_get, if_neg hn]
    exact w.sl i sv h1
  · obtain ⟨i1, hi⟩ := wipeE_some i1
    obtain ⟨j1, hj⟩ := wipeE_some j1
    exact w.ap i j x y p i1 j1 ix jy (g hi is) (g hj js)
/-- back to slots that stand behind the block -/
theorem Wld.unwipe (w : Wld G B H (L2.wipe σ vs) ρ S) : Wld G B H σ ρ S ∧ ∀ a, Own σ ρ a → Own (L2.wipe σ vs) ρ a := by
  have g : ∀ {i : Nat} {x : V}, (L2.wipe σ vs)[i]? = some (some x) → σ[i]? = some (some x) := fun h => (wipe_some h).1
  have b : ∀ {i : Nat} {sv : SV} {x : V}, ρ[i]? = some (some sv) → σ[i]? = some (some x) → (L2.wipe σ vs)[i]? = some (some x) := fun h hx => by
    obtain ⟨v, e, _⟩ := w.sl _ _ h
    rw [g e] at hx
    cases hx
    exact e
  refine ⟨⟨w.sub, w.pB, w.pen, by rw [w.len, wipe_length], fun i sv h => ?_, fun i j x y p i1 j1 ix jy is js => w.ap i j x y p i1 j1 ix jy (b i1 is) (b j1 js)⟩, fun a ⟨i, sv, h1, h2, h3⟩ => ⟨i, sv, h1, h2, b h1 h3⟩⟩
  obtain ⟨v, e, r⟩ := w.sl i sv h
  exact ⟨v, g e, r⟩
/-- an object that is nobody's is written -/
theorem Wld.loose (w : Wld G B H σ ρ S) {p : Addr} (hB : B p = none) (hP : p ≠ G.P) (hO : ¬ Own σ ρ p) (o : HO) : Wld G B (upd H p o) σ ρ S := by
  refine ⟨fun a u h => ?_, w.pB, w.pen.mono (Ex.refl B) (fun u h => by rw [upd_ne hP.symm]; exact h), w.len, fun i sv h => ?_, w.ap⟩
  · rw [upd_ne (fun e => by rw [e, hB] at h; cases h)]
    exact w.sub _ _ h
  · obtain ⟨v, e, r⟩ := w.sl i sv h
    refine ⟨v, e, r.stay (Ex.refl B) fun q hq hs => ?_⟩
    obtain ⟨q', u, e', b, _, hh⟩ := r.at hs
    rw [hq] at e'
    cases e'
    refine ⟨b, fun o ho => ?_⟩
    rw [upd_ne (fun z => hO (by rw [← z]; exact ⟨i, sv, h, hs, by rw [← hq]; exact e⟩))]
    exact ho
end

/-! ### targets -/
mutual
def IT.slots : IT → List Nat
  | .nm i => [i]
  | .tp ts => IT.slotss ts
def IT.slotss : List IT → List Nat
  | [] => []
  | t :: ts => IT.slots t ++ IT.slotss ts
end
def LG (G : Glo) (t : IT) : TG := fun v σ H K => ∃ (B : Hp) (ρ : Rho) (S : PenSt) (d : D) (ρ' : Rho), Wld G B H σ ρ S ∧ Rep G B v d ∧ asgT t d ρ = some ρ' ∧
  ∀ σ', Wld G B H σ' ρ' S → Stp G B H σ ρ B H σ' ρ' → (∀ vs : List Nat, (∀ i ∈ t.slots, i ∈ vs) → wipe σ' vs = wipe σ vs) → K σ' H
def LGs (G : Glo) (ts : List IT) : TGs := fun xs σ H K => ∃ (B : Hp) (ρ : Rho) (S : PenSt) (ds : List D) (ρ' : Rho), Wld G B H σ ρ S ∧ Reps G B xs ds ∧ asgTs ts ds ρ = some ρ' ∧
  ∀ σ', Wld G B H σ' ρ' S → Stp G B H σ ρ B H σ' ρ' → (∀ vs : List Nat, (∀ i ∈ IT.slotss ts, i ∈ vs) → wipe σ' vs = wipe σ vs) → K σ' H
section
variable {X : Cx} {G : Glo} {E : XK} {e : Expr} {es : List Expr} {t : IT} {ts : List IT} {pos : Pos}
theorem weakG {g g' : TG} (h : PG X e g) (w : ∀ v σ H K, g' v σ H K → g v σ H K) : PG X e g' := ⟨fun pins s σ H v u Q I r q => h.run pins s σ H v u Q I r (w _ _ _ _ q)⟩
theorem weakGs {g g' : TGs} (h : PGs X es g) (w : ∀ v σ H K, g' v σ H K → g v σ H K) : PGs X es g' := ⟨fun pins s σ H v u Q I r q => h.run pins s σ H v u Q I r (w _ _ _ _ q)⟩
theorem g_name {i : Nat} {x : Str} (hN : X.N.Nodup) (hi : X.N[i]? = some x) (hx : Loc X.env.scope x) (hf : X.fn x = true ∨ X.env.scope.names.lookup x = some .local) : PG X (.Name x pos) (LG G (.nm i)) := by
  refine weakG (pg_name hN hi hx hf) fun v σ H K ⟨B, ρ, S, d, ρ', w, r, e, k⟩ => ?_
  unfold asgT at e
  split at e
  · rename_i l
    cases e
    obtain ⟨w', st⟩ := w.setIm l r
    exact k _ w' st fun vs h => wipe_set (h i (by simp [IT.slots]))
  · cases e
theorem gs_nil : PGs X [] (LGs G []) := by
  refine weakGs pgs_nil fun xs σ H K ⟨B, ρ, S, ds, ρ', w, r, e, k⟩ => ?_
  cases r with
  | nil =>
    cases e
    exact ⟨rfl, k σ w (Stp.refl w) fun _ _ => rfl⟩
  | cons => cases e
theorem gs_cons (h : PG X e (LG G t)) (h2 : PGs X es (LGs G ts)) (hs : (assignEach (e :: es) X.env).map (·.2) = assign e X.env :: (assignEach es X.env).map (·.2)) : PGs X (e :: es) (LGs G (t :: ts)) := by
  refine weakGs (pgs_cons h h2 hs) fun xs σ H K ⟨B, ρ, S, ds, ρ', w, r, e, k⟩ => ?_
  cases r with
  | nil => cases e
  | cons r rr =>
    unfold asgTs at e
    split at e
    · rename_i ρ1 e1
      refine ⟨_, _, rfl, B, ρ, S, _, ρ1, w, r, e1, fun σ1 w1 st1 k1 => ?_⟩
      refine ⟨B, ρ1, S, _, ρ', w1, rr, e, fun σ2 w2 st2 k2 => k σ2 w2 (st1.trans st2) fun vs h => ?_⟩
      rw [k2 vs fun i hi => h i (by simp [IT.slotss, hi]), k1 vs fun i hi => h i (by simp [IT.slotss, hi])]
    · cases e
theorem asgTs_len : ∀ (ts : List IT) {ds : List D} {ρ ρ' : Rho}, asgTs ts ds ρ = some ρ' → ds.length = ts.length
  | [], [], _, _, _ => rfl
  | [], _ :: _, _, _, h => by cases h
  | _ :: _, [], _, _, h => by cases h
  | t :: ts, d :: ds, _, _, h => by
    unfold asgTs at h
    split at h
    · rw [List.length_cons, List.length_cons, asgTs_len ts h]
    · cases h
theorem g_tup {k : Nat} (hK : X.K = G.K) (hc : X.calm = true) (h : PGs X es (LGs G ts)) (hn : (assignEach es X.env).length = ts.length) (hst : (assignEach es X.env).findIdx? (·.1) = none) : PG X (.Tuple es k pos) (LG G (.tp ts)) := by
  refine weakG (pg_tup hc h hn hst) fun v σ H K ⟨B, ρ, S, d, ρ', w, r, e, k⟩ => ?_
  cases d with
  | tup ds =>
    cases r with
    | tup s r =>
      have e : asgTs ts ds ρ = some ρ' := e
      exact ⟨_, _, rfl, hK ▸ ex_t w.sub s, by rw [r.length, asgTs_len ts e], B, ρ, S, ds, ρ', w, r, e, fun σ' w' st' kk => k σ' w' st' fun vs h => kk vs fun i hi => h i (by simpa [IT.slots] using hi)⟩
  | _ => cases e
end

/-! ### comprehensions -/
abbrev XF : XK := fun _ _ _ => False
section
variable {X : Cx} {G : Glo} {E : XK} {elt tg iter : Expr} {ifs : List Expr} {scope : Scope} {own : List (Str × Nat)} {pos : Pos} {fi : M (List D)} {t : IT} {ft : M Bool} {fe : M SV}
theorem ts_nil : PTs X [] (LT G E (M.ret true)) := by
  have h : PTs X [] tYes := pts_nil
  exact ⟨fun pins s σ H Q I ⟨B, ρ, S, w, p⟩ => h.run pins s σ H Q I (p true B H (Stp.refl w) w rfl)⟩
theorem ts_one {c : Expr} (h : PT X c (LT G E ft)) : PTs X [c] (LT G E (andM ft (M.ret true))) := by
  have h : PTs X [c] (LT G E ft) := pts_one h
  refine ⟨fun pins s σ H Q I ⟨B, ρ, S, w, p⟩ => h.run pins s σ H Q I ?_⟩
  refine Post.bnd (rel := rEq) w p fun k k' B1 H1 ρ1 S1 st w1 r p1 => ?_
  cases r
  cases k with
  | true => exact p1 true B1 H1 (Stp.refl w1) w1 rfl
  | false => exact p1 false B1 H1 (Stp.refl w1) w1 rfl
theorem compLoop_cons (own : List Nat) (tg : IT) (cond : M Bool) (elt : M SV) (d : D) (ds acc : List D) (ρ : Rho) (S : PenSt) : compLoop own tg cond elt (d :: ds) acc ρ S = match asgT tg d (wipeE ρ own) with
    | none => .bad
    | some ρ1 => match cond ρ1 S with
      | .ok true ρ2 S2 => match elt ρ2 S2 with
        | .ok sv ρ3 S3 => compLoop own tg cond elt ds (acc ++ [sv.d]) (wipeE ρ3 own) S3
        | _ => .bad
      | .ok false ρ2 S2 => compLoop own tg cond elt ds acc (wipeE ρ2 own) S2
      | _ => .bad := rfl
/-- where a comprehension's turn stands -/
structure Turned (G : Glo) (σ : L2.St) (B1 H1 : Hp) (ρ1 : Rho) (D_ : Addr) (n : Nat) (B H : Hp) (ρ : Rho) (S : PenSt) (acc : List V) (xs : List D) : Prop where
  st : Stp G B1 H1 σ ρ1 B H σ ρ
  w : Wld G B H σ ρ S
  at_ : H D_ = some (.lst acc)
  reps : Reps G B acc xs
  nB : B D_ = none
  nO : ¬ Own σ ρ D_
  few : acc.length ≤ n
theorem lc_read {vs : List Nat} (hsub : ∀ i ∈ t.slots, i ∈ vs) (σ : L2.St) (H : Hp) (Q : VK) (h : LE G E (M.bnd fi fun items => M.bnd (compLoop vs t ft fe items []) fun xs => M.ret (.ow xs)) σ H Q) : tLc (LI G E fi) (LG G t) (LT G XF ft) (LE G XF fe) vs σ H Q := by
  obtain ⟨B, ρ, S, w, p⟩ := h
  refine Post.bnd (rel := rIt G) w p fun J items B1 H1 ρ1 S1 st0 w1 rJ p1 => ?_
  have rJ : Iters G J B1 items := rJ
  clear p w st0
  intro A hA
  have nP : A ≠ G.P := w1.neP hA
  -- the turns
  let W : Nat → Nat → Hp → Prop := fun i m Hc => m = items.length - i ∧ i ≤ items.length ∧ ∃ (Bc : Hp) (ρc : Rho) (Sc : PenSt) (acc : List V) (xs : List D), Turned G σ B1 H1 ρ1 A i Bc Hc ρc Sc acc xs ∧ compLoop vs t ft fe items [] ρ1 S1 = compLoop vs t ft fe (items.drop i) xs ρc Sc
  refine ⟨W, ⟨items.length, by simp, Nat.zero_le _, B1, ρ1, S1, [], [], ?_, rfl⟩, fun i m Hc hW => ?_⟩
  · obtain ⟨w2, st2⟩ := w1.newO hA (.lst [])
    exact ⟨st2, w2, upd_same, .nil, w1.Bn hA, w1.notOwn hA, Nat.le_refl _⟩
  obtain ⟨em, hi, Bc, ρc, Sc, acc, xs, T, eq⟩ := hW
  by_cases lt : i < items.length
  · refine .inr ⟨rJ.go i Hc (T.st.b.trans T.w.sub) lt, W (i + 1) (items.length - (i + 1)), fun H' h' => ⟨items.length - (i + 1), by omega, h'⟩, fun x H' y => ?_⟩
    have hd : items[i]? = some items[i] := by simp [lt]
    rw [List.drop_eq_getElem_cons lt] at eq
    obtain ⟨B2, g, rx⟩ := rJ.yld i Hc x H' Bc _ T.st.b T.w.bas y hd
    obtain ⟨w2, st2⟩ := T.w.grw g
    have n2 : B2 A = none := by
      cases z : B2 A with
      | none => rfl
      | some o =>
        have := g.n A o z T.nB
        rw [T.at_] at this
        cases this
    have at2 : H' A = some (.lst acc) := g.h _ _ T.at_
    obtain ⟨w3, st3⟩ := w2.wipe vs
    have bad : ∀ {r : R (List D)}, compLoop vs t ft fe items [] ρ1 S1 = r → r = .bad → False := fun e1 e2 => by
      unfold M.bnd at p1
      rw [e1, e2] at p1
      exact p1
    rw [compLoop_cons] at eq
    cases ea : asgT t items[i] (wipeE ρc vs) with
    | none =>
      rw [ea] at eq
      exact (bad eq rfl).elim
    | some ρa =>
      rw [ea] at eq
      dsimp only at eq
      refine ⟨B2, wipeE ρc vs, Sc, items[i], ρa, w3, rx, ea, fun σ4 w4 st4 k4 => ⟨?_, B2, ρa, Sc, w4, ?_⟩⟩
      · rw [k4 vs hsub, wipe_wipe]
      have k4 := k4 vs hsub
      rw [wipe_wipe] at k4
      have st04 : Stp G B1 H1 σ ρ1 B2 H' σ4 ρa := (T.st.trans st2).trans (st3.trans st4)
      have o4 : ¬ Own σ4 ρa A := fun z => by
        rcases (st3.trans st4).o A z with ⟨_, z | z⟩
        · exact T.nO z
        · rw [at2] at z; cases z
      -- behind a turn
      have fin : ∀ {B5 H5 : Hp} {ρ5 : Rho} {S5 : PenSt} {acc5 : List V} {xs5 : List D}, Stp G B1 H1 σ ρ1 B5 H5 σ4 ρ5 → Wld G B5 H5 σ4 ρ5 S5 → H5 A = some (.lst acc5) → Reps G B5 acc5 xs5 → B5 A = none → ¬ Own σ4 ρ5 A → acc5.length ≤ i + 1 →
          compLoop vs t ft fe items [] ρ1 S1 = compLoop vs t ft fe (items.drop (i + 1)) xs5 (wipeE ρ5 vs) S5 → W (i + 1) (items.length - (i + 1)) H5 := fun {B5 H5 ρ5 S5 acc5 xs5} st5 w5 a5 r5 n5 o5 f5 q5 => by
        obtain ⟨w6, st6⟩ := w5.wipe vs
        rw [k4] at w6 st6
        obtain ⟨w7, back⟩ := w6.unwipe
        have st7 := st5.trans st6
        refine ⟨rfl, lt, B5, _, S5, acc5, xs5, ⟨⟨st7.b, st7.h, st7.n, st7.p, st7.t, fun a z => st7.o a (back a z)⟩, w7, a5, r5, n5, fun z => ?_, f5⟩, q5⟩
        rcases st6.o A (back A z) with ⟨_, z | z⟩
        · exact o5 z
        · rw [a5] at z; cases z
      have keep : ∀ {B5 H5 : Hp} {ρ5 ρ6 : Rho} {B6 H6 : Hp}, Stp G B5 H5 σ4 ρ5 B6 H6 σ4 ρ6 → H5 A = some (.lst acc) → B5 A = none → ¬ Own σ4 ρ5 A → H6 A = some (.lst acc) ∧ B6 A = none ∧ ¬ Own σ4 ρ6 A := fun {B5 H5 ρ5 ρ6 B6 H6} st h5 n5 o5 => by
        refine ⟨st.h _ _ h5 nP o5, ?_, fun z => ?_⟩
        · cases z : B6 A with
          | none => rfl
          | some o =>
            rcases st.n A o z n5 with z | z
            · rw [h5] at z; cases z
            · exact absurd z o5
        · rcases st.o A z with ⟨_, z | z⟩
          · exact o5 z
          · rw [h5] at z; cases z
      cases ec : ft ρa Sc with
      | bad => rw [ec] at eq; exact (bad eq rfl).elim
      | exc c fs S' => rw [ec] at eq; exact (bad eq rfl).elim
      | ok b ρb Sb =>
        rw [ec] at eq
        intro b' B3 H3 st5 w5 rb
        cases rb
        obtain ⟨at3, n3, o3⟩ := keep st5 at2 n2 o4
        have r3 := T.reps.mono (g.b.trans st5.b)
        cases b with
        | false =>
          rw [if_neg Bool.false_ne_true]
          exact fin (st04.trans st5) w5 at3 r3 n3 o3 (Nat.le_succ_of_le T.few) eq
        | true =>
          rw [if_pos rfl]
          dsimp only at eq
          refine Lf.frz ⟨B3, ρb, Sb, w5, ?_⟩
          cases ee : fe ρb Sb with
          | bad => rw [ee] at eq; exact (bad eq rfl).elim
          | exc c fs S' => rw [ee] at eq; exact (bad eq rfl).elim
          | ok sv ρd Sd =>
            rw [ee] at eq
            dsimp only at eq
            intro v B4 H4 st6 w6 r6
            have r6 : Rep G B4 v sv.d := r6
            obtain ⟨at4, n4, o4'⟩ := keep st6 at3 n3 o3
            refine ⟨acc, at4, ?_, ?_⟩
            · have := T.few
              have := rJ.len
              omega
            have w7 := w6.loose n4 nP o4' (.lst (acc ++ [v]))
            have st7 := st04.trans (st5.trans st6)
            refine fin (ρ5 := ρd) ⟨st7.b, fun a u h hp ho => ?_, st7.n, st7.p, fun a h => st7.t a ?_, st7.o⟩ w7 upd_same ((r3.mono st6.b).append (.cons r6 .nil)) n4 o4' ?_ eq
            · rw [upd_ne (fun e => by rw [e, hA] at h; cases h)]
              exact st7.h a u h hp ho
            · by_cases q : a = A
              · rw [q, upd_same] at h; cases h
              · rwa [upd_ne q] at h
            · rw [List.length_append]
              have := T.few
              simp
              exact this
  · have ei : i = items.length := by omega
    refine .inl ⟨ei ▸ rJ.stop Hc (T.st.b.trans T.w.sub), ?_⟩
    rw [ei, List.drop_length] at eq
    unfold M.bnd at p1
    rw [eq] at p1
    refine p1 (.ref A) Bc Hc T.st T.w ⟨⟨A, acc, rfl, T.nB, nP, T.at_, T.reps⟩, fun _ => ⟨A, rfl, T.nO, hA⟩⟩
theorem d_lc (hK : X.K = G.K) (hc : X.calm = true) (hN : X.N.Nodup) (hi : PI X tg iter (LI G E fi)) (ok : BlkOk X.N X.env.scope scope own)
    (hg : ∀ (s : Shared) (H : Hp) (C : Addr) (cl : List (Str × Addr)) (fp : List Addr), PG (X.blk s H scope (compEnvC scope cl C X.env) fp) tg (LG G t)) (ht : ∀ (s : Shared) (H : Hp) (C : Addr) (cl : List (Str × Addr)) (fp : List Addr), PTs (X.blk s H scope (compEnvC scope cl C X.env) fp) ifs (LT G XF ft))
    (he : ∀ (s : Shared) (H : Hp) (C : Addr) (cl : List (Str × Addr)) (fp : List Addr), PE (X.blk s H scope (compEnvC scope cl C X.env) fp) elt (LE G XF fe)) (hsub : ∀ i ∈ t.slots, i ∈ own.map (·.2)) (hs : ∀ x, foldedSetIterable iter X.env x = pure x) :
    PE X (.ListComp elt [⟨tg, iter, ifs, 0⟩] scope pos) (LE G E (M.bnd fi fun items => M.bnd (compLoop (own.map (·.2)) t ft fe items []) fun xs => M.ret (.ow xs))) :=
  weakE (pe_lc hc hN hi ok hg ht he hs) fun σ H Q h => lc_read hsub σ H Q h
end
end Pd
set_option Elab.async false
set_option linter.all false
set_option maxRecDepth 100000
set_option maxHeartbeats 4000000
namespace Pd
open PySem L2 Evl PyProof.Rows PySem.Spec

/-! ### statements -/
/-- what is wanted behind a statement's result -/
def PostS (G : Glo) (E : XK) (σ : L2.St) (B H : Hp) (ρ : Rho) (r : R Flow') (D_ : Ends) : Prop := match r with
  | .ok .nx ρ' S' => ∀ σ' B' H', Stp G B H σ ρ B' H' σ' ρ' → Wld G B' H' σ' ρ' S' → D_.nx σ' H'
  | .ok .brk ρ' S' => ∀ σ' B' H', Stp G B H σ ρ B' H' σ' ρ' → Wld G B' H' σ' ρ' S' → D_.bk σ' H'
  | .ok .cnt ρ' S' => ∀ σ' B' H', Stp G B H σ ρ B' H' σ' ρ' → Wld G B' H' σ' ρ' S' → D_.ct σ' H'
  | .ok (.ret sv) ρ' S' => ∀ v B' H', StpX G B H σ ρ B' H' → PenAt G B' H' S' → Ex B' H' → RSV G B' H' v sv → (sv.isOwn = true → ∃ p : Addr, v = V.ref p ∧ (H p = none ∨ Own σ ρ p)) → D_.rt v H'
  | .exc c fs S' => PostX G E σ B H ρ c fs S'
  | .bad => False
def LS (G : Glo) (E : XK) (f : M Flow') : TS := fun D_ σ H => ∃ (B : Hp) (ρ : Rho) (S : PenSt), Wld G B H σ ρ S ∧ PostS G E σ B H ρ (f ρ S) D_
section
variable {X : Cx} {G : Glo} {E : XK} {B H B1 H1 : Hp} {σ σ1 : L2.St} {ρ ρ1 : Rho} {S S1 : PenSt} {D_ : Ends}
theorem PostS.rebase {r : R Flow'} (s : Stp G B H σ ρ B1 H1 σ1 ρ1) (p : PostS G E σ B H ρ r D_) : PostS G E σ1 B1 H1 ρ1 r D_ := by
  cases r with
  | bad => exact p
  | exc c fs S' => exact PostX.rebase s p
  | ok f ρ' S' =>
    cases f with
    | nx => exact fun σ' B' H' st w => p σ' B' H' (s.trans st) w
    | brk => exact fun σ' B' H' st w => p σ' B' H' (s.trans st) w
    | cnt => exact fun σ' B' H' st w => p σ' B' H' (s.trans st) w
    | ret sv =>
      intro v B' H' st pe ex r f
      refine p v B' H' (s.transX st) pe ex r fun h => ?_
      obtain ⟨q, e, z⟩ := f h
      refine ⟨q, e, ?_⟩
      rcases z with z | z
      · exact .inl (s.t q z)
      · exact (s.o q z).2.symm
/-- an expression, then what is left of the statement -/
theorem PostS.bnd {α β : Type} {rel : Rel α β} {f : M α} {g : α → M Flow'} {K : β → Hp → Prop} (w : Wld G B H σ ρ S) (p : PostS G E σ B H ρ (M.bnd f g ρ S) D_)
    (k : ∀ (v : β) (a : α) (B1 H1 : Hp) (ρ1 : Rho) (S1 : PenSt), Stp G B H σ ρ B1 H1 σ ρ1 → Wld G B1 H1 σ ρ1 S1 → rel B1 H1 σ ρ1 H v a → PostS G E σ B1 H1 ρ1 (g a ρ1 S1) D_ → K v H1) : Lf rel G E f σ H K := by
  refine ⟨B, ρ, S, w, ?_⟩
  unfold M.bnd at p
  cases e : f ρ S with
  | ok a ρ' S' =>
    rw [e] at p
    exact fun v B' H' st w' q => k v a B' H' ρ' S' st w' q (p.rebase st)
  | exc c fs S' =>
    rw [e] at p
    exact p
  | bad =>
    rw [e] at p
    exact p
/-- .. with the start kept -/
theorem PostS.bndK {α β : Type} {rel : Rel α β} {f : M α} {g : α → M Flow'} {K : β → Hp → Prop} (w : Wld G B H σ ρ S) (p : PostS G E σ B H ρ (M.bnd f g ρ S) D_)
    (k : ∀ (v : β) (a : α) (B1 H1 : Hp) (ρ1 : Rho) (S1 : PenSt), Stp G B H σ ρ B1 H1 σ ρ1 → Wld G B1 H1 σ ρ1 S1 → rel B1 H1 σ ρ1 H v a → PostS G E σ B H ρ (g a ρ1 S1) D_ → K v H1) : Lf rel G E f σ H K := by
  refine ⟨B, ρ, S, w, ?_⟩
  unfold M.bnd at p
  cases e : f ρ S with
  | ok a ρ' S' =>
    rw [e] at p
    exact fun v B' H' st w' q => k v a B' H' ρ' S' st w' q p
  | exc c fs S' =>
    rw [e] at p
    exact p
  | bad =>
    rw [e] at p
    exact p
theorem PostS.nx (p : PostS G E σ B H ρ (.ok .nx ρ1 S1) D_) (st : Stp G B H σ ρ B1 H1 σ1 ρ1) (w : Wld G B1 H1 σ1 ρ1 S1) : D_.nx σ1 H1 := p σ1 B1 H1 st w
theorem weakSS {st : Stmt} {t : TS} {f : M Flow'} (h : PS X st t) (w : ∀ D_ σ B H ρ S, Wld G B H σ ρ S → PostS G E σ B H ρ (f ρ S) D_ → t D_ σ H) : PS X st (LS G E f) := weakS h fun D_ σ H ⟨B, ρ, S, w', p⟩ => w D_ σ B H ρ S w' p
/-! ### a list's slot written -/
theorem Wld.wr (w : Wld G B H σ ρ S) {i : Nat} {sv sv' : SV} {p : Addr} {o : HO} (h1 : ρ[i]? = some (some sv)) (h2 : sv.isOwn = true) (h3 : σ[i]? = some (some (V.ref p))) (hs : sv'.isOwn = true) (r : RSV G B (upd H p o) (V.ref p) sv') :
    Wld G B (upd H p o) σ (ρ.set i (some sv')) S ∧ Stp G B H σ ρ B (upd H p o) σ (ρ.set i (some sv')) := by
  have hi : i < ρ.length := (List.getElem?_eq_some_iff.mp h1).1
  have own : Own σ ρ p := ⟨i, sv, h1, h2, h3⟩
  obtain ⟨nP, nB⟩ := w.own_ne own
  have other : ∀ {j : Nat} {y : SV}, i ≠ j → (ρ.set i (some sv'))[j]? = some (some y) → ρ[j]? = some (some y) := fun q h => by rwa [List.getElem?_set_ne q] at h
  have ownB : ∀ a, Own σ (ρ.set i (some sv')) a → Own σ ρ a := fun a ⟨j, y, y1, y2, y3⟩ => by
    by_cases q : i = j
    · subst q
      rw [h3] at y3
      cases y3
      exact own
    · exact ⟨j, y, other q y1, y2, y3⟩
  refine ⟨⟨fun a u h => ?_, w.pB, w.pen.mono (Ex.refl B) (fun u h => by rw [upd_ne nP.symm]; exact h), (by rw [List.length_set]; exact w.len), fun j y y1 => ?_, fun j k x y q j1 k1 jx ky js ks => ?_⟩,
    ⟨Ex.refl B, fun a u h _ no => ?_, fun a u h n => (by rw [n] at h; cases h), w.pB, fun a h => ?_, fun a q => ⟨(w.own_ne (ownB a q)).1, .inl (ownB a q)⟩⟩⟩
  · rw [upd_ne (fun e => by rw [e, nB] at h; cases h)]
    exact w.sub _ _ h
  · by_cases q : i = j
    · subst q
      rw [List.getElem?_set_self hi] at y1
      cases y1
      exact ⟨_, h3, r⟩
    · obtain ⟨v, e, r'⟩ := w.sl j y (other q y1)
      refine ⟨v, e, r'.stay (Ex.refl B) fun a ha hy => ?_⟩
      obtain ⟨a', u, e', b, _, hh⟩ := r'.at hy
      rw [ha] at e'
      cases e'
      refine ⟨b, fun o ho => ?_⟩
      rw [upd_ne (fun z => by subst z; rw [ha] at e; exact q (w.ap i j sv y a h1 (other q y1) h2 hy h3 e))]
      exact ho
  · by_cases qj : i = j
    · subst qj
      by_cases qk : i = k
      · exact qk
      · exact w.ap i k sv y q h1 (other qk k1) h2 ky js ks
    · by_cases qk : i = k
      · subst qk
        exact w.ap j i x sv q (other qj j1) h1 jx h2 js ks
      · exact w.ap j k x y q (other qj j1) (other qk k1) jx ky js ks
  · rw [upd_ne (fun e => no (by rw [e]; exact own))]
    exact h
  · by_cases q : a = p
    · rw [q, upd_same] at h; cases h
    · rwa [upd_ne q] at h
theorem Wld.owl (w : Wld G B H σ ρ S) {i : Nat} {xs : List D} (h : ρ[i]? = some (some (.ow xs))) : ∃ p vs, σ[i]? = some (some (V.ref p)) ∧ B p = none ∧ p ≠ G.P ∧ H p = some (.lst vs) ∧ Reps G B vs xs := by
  obtain ⟨v, e, p, vs, ev, r⟩ := w.sl i _ h
  subst ev
  exact ⟨p, vs, e, r⟩
theorem Wld.owd (w : Wld G B H σ ρ S) {i : Nat} {kvs : List (Nat × D)} (h : ρ[i]? = some (some (.od kvs))) : ∃ p ks vs, σ[i]? = some (some (V.ref p)) ∧ B p = none ∧ p ≠ G.P ∧ H p = some (.dK (ks.zip vs)) ∧ ks = (kvs.map (·.1)).map (fun k => Sum.inr (G.kS k)) ∧ Reps G B vs (kvs.map (·.2)) := by
  obtain ⟨v, e, p, ks, vs, ev, r⟩ := w.sl i _ h
  subst ev
  exact ⟨p, ks, vs, e, r⟩
theorem Wld.wrL (w : Wld G B H σ ρ S) {i : Nat} {xs ys : List D} {p : Addr} {vs : List V} (h1 : ρ[i]? = some (some (.ow xs))) (h3 : σ[i]? = some (some (V.ref p))) (r : Reps G B vs ys) :
    Wld G B (upd H p (.lst vs)) σ (ρ.set i (some (.ow ys))) S ∧ Stp G B H σ ρ B (upd H p (.lst vs)) σ (ρ.set i (some (.ow ys))) := by
  obtain ⟨nP, nB⟩ := w.own_ne ⟨i, _, h1, rfl, h3⟩
  exact w.wr h1 rfl h3 rfl ⟨p, vs, rfl, nB, nP, upd_same, r⟩
end

section
variable {X : Cx} {G : Glo} {E : XK} {e c : Expr} {pos : Pos} {fe : M SV} {st : Stmt} {sts a b : List Stmt} {ft : M Bool} {fa fb f g : M Flow'} {i : Nat} {x : Str}
/-- where the name stands among the slots -/
structure VarOk (X : Cx) (x : Str) (i : Nat) : Prop where
  at_ : X.N[i]? = some x
  vis : Vis X.env.scope x
  db : (x == ("__debug__" : Str)) = false
  cd : (x == ("__classdict__" : Str)) = false
structure LocOk (X : Cx) (x : Str) (i : Nat) : Prop extends VarOk X x i where
  nd : X.N.Nodup
  loc : Loc X.env.scope x
  fr : X.fn x = true ∨ X.env.scope.names.lookup x = some .local
theorem s_set {py : Pos} (l : LocOk X x i) (he : PE X e (LE G E fe)) (hs : swapsWith e (some (.Name x py)) pos.line X.env = pure false) : PS X (.Assign [.Name x py] e pos) (LS G E (M.bnd fe fun sv => M.bnd (setSV i sv) fun _ => M.ret .nx)) := by
  refine weakSS (ps_set l.nd l.at_ l.loc he hs l.fr) fun D_ σ B H ρ S w p => ?_
  refine PostS.bndK (rel := rSV G) w p fun v sv B1 H1 ρ1 S1 st w1 r p1 => ?_
  obtain ⟨r, fr⟩ := r
  unfold M.bnd setSV at p1
  by_cases q : i < ρ1.length
  · rw [if_pos q] at p1
    obtain ⟨w2, k⟩ := w1.set q r fr
    exact p1.nx (k st) w2
  · rw [if_neg q] at p1
    exact p1.elim
theorem s_asgT {tg : Expr} {t : IT} (hg : PG X tg (LG G t)) (he : PE X e (LE G E fe)) (hs : swapsWithSole [tg] e pos.line X.env = pure false) (hw : swappedStores [tg] e X.env = pure none) (h1 : (assignEach [tg] X.env).map (·.2) = [assign tg X.env]) :
    PS X (.Assign [tg] e pos) (LS G E (M.bnd fe fun sv => fun ρ S => match asgT t sv.d ρ with
    | some ρ' => .ok .nx ρ' S
    | none => .bad)) := by
  refine weakSS (ps_asg (frzE he) hg hs hw h1) fun D_ σ B H ρ S w p => ?_
  refine PostS.bndK (rel := rD G) w p fun v sv B1 H1 ρ1 S1 st w1 r p1 => ?_
  split at p1
  · rename_i ρ' ea
    exact ⟨B1, ρ1, S1, sv.d, ρ', w1, r, ea, fun σ' w' st' _ => p1.nx (st.trans st') w'⟩
  · exact p1.elim
theorem s_drop (he : PE X e (LE G E fe)) (hs : swapsWith e none pos.line X.env = pure false) : PS X (.Expr e pos) (LS G E (M.bnd fe fun _ => M.ret .nx)) := by
  refine weakSS (ps_expr he hs) fun D_ σ B H ρ S w p => ?_
  exact PostS.bndK (rel := rSV G) w p fun v sv B1 H1 ρ1 S1 st w1 r p1 => p1.nx st w1
theorem s_ret (he : PE X e (LE G E fe)) : PS X (.Return (some e) pos) (LS G E (M.bnd fe fun sv => M.ret (.ret sv))) := by
  refine weakSS (ps_ret he) fun D_ σ B H ρ S w p => ?_
  refine PostS.bndK (rel := rSV G) w p fun v sv B1 H1 ρ1 S1 st w1 r p1 => ?_
  obtain ⟨r, fr⟩ := r
  exact p1 v B1 H1 st.x w1.pen w1.sub r fun h => let ⟨q, e, _, z⟩ := fr h; ⟨q, e, .inl z⟩
theorem s_retv {py : Pos} (l : VarOk X x i) : PS X (.Return (some (.Name x py)) pos) (LS G E fun ρ S => match ρ[i]? with
  | some (some sv) => .ok (.ret sv) ρ S
  | _ => .bad) := by
  refine weakSS (ps_ret (pe_var l.at_ l.vis l.db l.cd)) fun D_ σ B H ρ S w p => ?_
  split at p
  · rename_i sv h
    obtain ⟨v, e, r⟩ := w.sl i sv h
    refine ⟨v, e, p v B H (Stp.refl w).x w.pen w.sub r fun hs => ?_⟩
    obtain ⟨q, o, e', _⟩ := r.at hs
    subst e'
    exact ⟨q, rfl, .inr ⟨i, sv, h, hs, e⟩⟩
  · exact p.elim
theorem s_retN : PS X (.Return none pos) (LS G E (M.ret (.ret (.im .non)))) := by
  refine weakSS ps_retN fun D_ σ B H ρ S w p => ?_
  exact p .non B H (Stp.refl w).x w.pen w.sub .non fun h => by cases h
theorem s_if (hc : PT X c (LT G E ft)) (ha : PSs X a (LS G E fa)) (hb : PSs X b (LS G E fb)) : PS X (.If c a b pos) (LS G E (M.bnd ft fun k => if k then fa else fb)) := by
  refine weakSS (ps_if hc ha hb) fun D_ σ B H ρ S w p => ?_
  refine PostS.bnd (rel := rEq) w p fun k k' B1 H1 ρ1 S1 st w1 r p1 => ?_
  cases r
  cases k with
  | true => exact ⟨B1, ρ1, S1, w1, p1⟩
  | false => exact ⟨B1, ρ1, S1, w1, p1⟩
theorem s_brk : PS X (.Break pos) (LS G E (M.ret .brk)) := weakSS ps_break fun D_ σ B H ρ S w p => p σ B H (Stp.refl w) w
theorem s_cnt : PS X (.Continue pos) (LS G E (M.ret .cnt)) := weakSS ps_continue fun D_ σ B H ρ S w p => p σ B H (Stp.refl w) w
theorem s_pass : PS X (.Pass pos) (LS G E (M.ret .nx)) := weakSS ps_pass fun D_ σ B H ρ S w p => p σ B H (Stp.refl w) w
theorem s_doc {y : Str} {j : Nat} {pos' : Pos} : PS X (.Expr (.Constant (.str y) j pos) pos') (LS G E (M.ret .nx)) := weakSS ps_doc fun D_ σ B H ρ S w p => p σ B H (Stp.refl w) w
/-! ### blocks -/
theorem ss_nil : PSs X [] (LS G E (M.ret .nx)) := weakSs pss_nil fun D_ σ H ⟨B, ρ, S, w, p⟩ => p σ B H (Stp.refl w) w
theorem ss_cons (h : PS X st (LS G E f)) (h2 : PSs X sts (LS G E g)) : PSs X (st :: sts) (LS G E (M.bnd f fun k => match k with
    | .nx => g
    | k => M.ret k)) := by
  refine weakSs (pss_cons h h2) fun D_ σ H ⟨B, ρ, S, w, p⟩ => ⟨B, ρ, S, w, ?_⟩
  unfold M.bnd at p
  cases e : f ρ S with
  | bad => rw [e] at p; exact p
  | exc c fs S' => rw [e] at p; exact p
  | ok k ρ' S' =>
    rw [e] at p
    cases k with
    | nx => exact fun σ' B' H' st w' => ⟨B', ρ', S', w', p.rebase st⟩
    | brk => exact p
    | cnt => exact p
    | ret sv => exact p
/-! ### loops -/
theorem forLoop_cons (t : IT) (body : M Flow') (d : D) (ds : List D) (ρ : Rho) (S : PenSt) : forLoop t body (d :: ds) ρ S = match asgT t d ρ with
    | none => .bad
    | some ρ1 => match body ρ1 S with
      | .ok .nx ρ2 S2 => forLoop t body ds ρ2 S2
      | .ok .cnt ρ2 S2 => forLoop t body ds ρ2 S2
      | .ok .brk ρ2 S2 => .ok .nx ρ2 S2
      | .ok (.ret sv) ρ2 S2 => .ok (.ret sv) ρ2 S2
      | .exc c fs S2 => .exc c fs S2
      | .bad => .bad := rfl
theorem s_for {iter tg : Expr} {body : List Stmt} {fi : M (List D)} {t : IT} (hp : PassesOwn (model X.prog X.w) X.A X.env X.xe) (hc : X.calm = true) (hi : PI X tg iter (LI G E fi)) (hg : PG X tg (LG G t)) (hb : PSs X body (LS G E fb))
    (hs : ∀ x, foldedSetIterable iter X.env x = pure x) : PS X (.For tg iter body [] pos) (LS G E (M.bnd fi fun items => forLoop t fb items)) := by
  refine weakSS (ps_for hp hc hi hg hb hs) fun D_ σ B H ρ S w p => ?_
  refine PostS.bnd (rel := rIt G) w p fun J items B1 H1 ρ1 S1 st0 w1 rJ p1 => ?_
  have rJ : Iters G J B1 items := rJ
  clear p w st0
  let W : Nat → Nat → L2.St → Hp → Prop := fun i m σc Hc => m = items.length - i ∧ i ≤ items.length ∧ ∃ (Bc : Hp) (ρc : Rho) (Sc : PenSt), Stp G B1 H1 σ ρ1 Bc Hc σc ρc ∧ Wld G Bc Hc σc ρc Sc ∧ forLoop t fb items ρ1 S1 = forLoop t fb (items.drop i) ρc Sc
  refine ⟨W, ⟨items.length, by simp, Nat.zero_le _, B1, ρ1, S1, Stp.refl w1, w1, rfl⟩, fun i m σc Hc hW => ?_⟩
  obtain ⟨em, hi, Bc, ρc, Sc, stc, wc, eq⟩ := hW
  by_cases lt : i < items.length
  · refine .inr ⟨rJ.go i Hc (stc.b.trans wc.sub) lt, W (i + 1) (items.length - (i + 1)), fun σ' H' h' => ⟨items.length - (i + 1), by omega, h'⟩, fun x H' y => ?_⟩
    have hd : items[i]? = some items[i] := by simp [lt]
    rw [List.drop_eq_getElem_cons lt, forLoop_cons] at eq
    obtain ⟨B2, g, rx⟩ := rJ.yld i Hc x H' Bc _ stc.b wc.bas y hd
    obtain ⟨w2, st2⟩ := wc.grw g
    cases ea : asgT t items[i] ρc with
    | none => rw [ea] at eq; rw [eq] at p1; exact p1.elim
    | some ρa =>
      rw [ea] at eq
      dsimp only at eq
      refine ⟨B2, ρc, Sc, items[i], ρa, w2, rx, ea, fun σ3 w3 st3 _ => ⟨B2, ρa, Sc, w3, ?_⟩⟩
      have st13 : Stp G B1 H1 σ ρ1 B2 H' σ3 ρa := (stc.trans st2).trans st3
      cases eb : fb ρa Sc with
      | bad => rw [eb] at eq; rw [eq] at p1; exact p1.elim
      | exc cc fs S' => rw [eb] at eq; rw [eq] at p1; exact PostX.rebase st13 p1
      | ok k ρb Sb =>
        rw [eb] at eq
        cases k with
        | nx => exact fun σ' B' H' st w => ⟨rfl, lt, B', ρb, Sb, st13.trans st, w, eq⟩
        | cnt => exact fun σ' B' H' st w => ⟨rfl, lt, B', ρb, Sb, st13.trans st, w, eq⟩
        | brk =>
          rw [eq] at p1
          exact fun σ' B' H' st w => p1.nx (st13.trans st) w
        | ret sv =>
          rw [eq] at p1
          exact PostS.rebase (r := .ok (.ret sv) ρb Sb) st13 p1
  · have ei : i = items.length := by omega
    refine .inl ⟨ei ▸ rJ.stop Hc (stc.b.trans wc.sub), ?_⟩
    rw [ei, List.drop_length] at eq
    rw [eq] at p1
    exact p1.nx stc wc
theorem whlLoop_succ (body : M Flow') (n : Nat) (ρ : Rho) (S : PenSt) : whlLoop body (n + 1) ρ S = match body ρ S with
    | .ok .nx ρ2 S2 => whlLoop body n ρ2 S2
    | .ok .cnt ρ2 S2 => whlLoop body n ρ2 S2
    | .ok .brk ρ2 S2 => .ok .nx ρ2 S2
    | .ok (.ret sv) ρ2 S2 => .ok (.ret sv) ρ2 S2
    | .exc c fs S2 => .exc c fs S2
    | .bad => .bad := by
  show M.bnd body (fun f => match f with
    | .nx => whlLoop body n
    | .cnt => whlLoop body n
    | .brk => M.ret .nx
    | .ret sv => M.ret (.ret sv)) ρ S = _
  unfold M.bnd
  cases body ρ S with
  | ok k ρ' S' => cases k <;> rfl
  | _ => rfl
theorem s_whl {body : List Stmt} {n : Nat} (hp : PassesOwn (model X.prog X.w) X.A X.env X.xe) (hc : PT X c (LT G E (M.ret true))) (hb : PSs X body (LS G E fb)) : PS X (.While c body [] pos) (LS G E (whlLoop fb n)) := by
  refine weakSS (ps_while hp hc hb) fun D_ σ B H ρ S w p => ?_
  let W : Nat → L2.St → Hp → Prop := fun m σc Hc => ∃ (Bc : Hp) (ρc : Rho) (Sc : PenSt), Stp G B H σ ρ Bc Hc σc ρc ∧ Wld G Bc Hc σc ρc Sc ∧ whlLoop fb n ρ S = whlLoop fb m ρc Sc
  refine ⟨W, ⟨n, B, ρ, S, Stp.refl w, w, rfl⟩, fun m σc Hc ⟨Bc, ρc, Sc, stc, wc, eq⟩ => ?_⟩
  cases m with
  | zero => rw [eq] at p; exact p.elim
  | succ m =>
    refine ⟨Bc, ρc, Sc, wc, fun k B1 H1 st1 w1 r => ?_⟩
    cases r
    rw [if_pos rfl]
    refine ⟨W m, fun σ' H' h => ⟨m, Nat.lt_succ_self m, h⟩, B1, ρc, Sc, w1, ?_⟩
    have st13 := stc.trans st1
    rw [whlLoop_succ] at eq
    cases eb : fb ρc Sc with
    | bad => rw [eb] at eq; rw [eq] at p; exact p.elim
    | exc cc fs S' => rw [eb] at eq; rw [eq] at p; exact PostX.rebase st13 p
    | ok k ρb Sb =>
      rw [eb] at eq
      cases k with
      | nx => exact fun σ' B' H' st w => ⟨B', ρb, Sb, st13.trans st, w, eq⟩
      | cnt => exact fun σ' B' H' st w => ⟨B', ρb, Sb, st13.trans st, w, eq⟩
      | brk =>
        rw [eq] at p
        exact fun σ' B' H' st w => p.nx (st13.trans st) w
      | ret sv =>
        rw [eq] at p
        exact PostS.rebase (r := .ok (.ret sv) ρb Sb) st13 p
end

/-! ### several values, each in its own form -/
def ownAt (p : Addr) : List V → List SV → Prop
  | v :: vs, sv :: svs => (v = V.ref p ∧ sv.isOwn = true) ∨ ownAt p vs svs
  | _, _ => False
inductive SVs (G : Glo) (B H : Hp) (σ : L2.St) (ρ : Rho) (H0 : Hp) : List V → List SV → Prop
  | nil : SVs G B H σ ρ H0 [] []
  | cons {v : V} {sv : SV} {vs : List V} {svs : List SV} : RSV G B H v sv → Fre σ ρ H0 v sv → (∀ p : Addr, v = V.ref p → sv.isOwn = true → ¬ ownAt p vs svs) → SVs G B H σ ρ H0 vs svs → SVs G B H σ ρ H0 (v :: vs) (sv :: svs)
def rSVs (G : Glo) : Rel (List SV) (List V) := fun B H σ ρ H0 vs svs => SVs G B H σ ρ H0 vs svs
abbrev LVs (G : Glo) (E : XK) (f : M (List SV)) : TA := Lf (rSVs G) G E f
section
variable {X : Cx} {G : Glo} {E : XK} {B H B1 H1 H0 H01 : Hp} {σ : L2.St} {ρ ρ1 : Rho} {S S1 : PenSt} {D_ : Ends} {e a b c : Expr} {es : List Expr} {f : M SV} {fs : M (List SV)} {pos : Pos}
theorem SVs.back {vs : List V} {svs : List SV} (h : ∀ x : Addr, H01 x = none → H0 x = none) : SVs G B H σ ρ H01 vs svs → SVs G B H σ ρ H0 vs svs
  | .nil => .nil
  | .cons r f d t => .cons r (fun hs => let ⟨p, e, n, z⟩ := f hs; ⟨p, e, n, h p z⟩) d (SVs.back h t)
theorem SVs.ownNone {vs : List V} {svs : List SV} {p : Addr} (h : SVs G B H σ ρ H0 vs svs) (o : ownAt p vs svs) : H0 p = none := by
  induction h with
  | nil => exact o.elim
  | cons r f d t ih =>
    rcases o with ⟨e, hs⟩ | o
    · obtain ⟨q, e', _, z⟩ := f hs
      rw [e] at e'
      cases e'
      exact z
    · exact ih o
theorem Post.step {α β γ δ : Type} {rel : Rel α β} {rel2 : Rel γ δ} {f : M α} {g : α → M γ} {Q : δ → Hp → Prop} {K : β → Hp → Prop} (w1 : Wld G B1 H1 σ ρ1 S1) (st : Stp G B H σ ρ B1 H1 σ ρ1) (p : Post rel2 G E σ B H ρ (M.bnd f g ρ1 S1) Q)
    (k : ∀ (v : β) (a : α) (B2 H2 : Hp) (ρ2 : Rho) (S2 : PenSt), Stp G B1 H1 σ ρ1 B2 H2 σ ρ2 → Wld G B2 H2 σ ρ2 S2 → rel B2 H2 σ ρ2 H1 v a → Post rel2 G E σ B H ρ (g a ρ2 S2) Q → K v H2) : Lf rel G E f σ H1 K := by
  refine ⟨B1, ρ1, S1, w1, ?_⟩
  unfold M.bnd at p
  cases e : f ρ1 S1 with
  | ok a ρ' S' =>
    rw [e] at p
    exact fun v B' H' st' w' q => k v a B' H' ρ' S' st' w' q p
  | exc c fs S' =>
    rw [e] at p
    exact PostX.rebase st p
  | bad =>
    rw [e] at p
    exact p
/-- an own value stays while more is done -/
theorem RSV.later {v : V} {sv : SV} (w1 : Wld G B1 H1 σ ρ1 S1) {B2 H2 : Hp} {ρ2 : Rho} (st : Stp G B1 H1 σ ρ1 B2 H2 σ ρ2) (r : RSV G B1 H1 v sv) (f : Fre σ ρ1 H0 v sv) : RSV G B2 H2 v sv ∧ Fre σ ρ2 H0 v sv := by
  have key : ∀ p : Addr, v = V.ref p → sv.isOwn = true → (∃ o, H1 p = some o) ∧ B1 p = none ∧ p ≠ G.P ∧ ¬ Own σ ρ1 p ∧ H0 p = none := fun p e hs => by
    obtain ⟨q, o, e', b, n, hh⟩ := r.at hs
    rw [e] at e'
    cases e'
    obtain ⟨q, e', no, z⟩ := f hs
    rw [e] at e'
    cases e'
    exact ⟨⟨o, hh⟩, b, n, no, z⟩
  refine ⟨r.stay st.b fun p e hs => ?_, fun hs => ?_⟩
  · obtain ⟨⟨o, hh⟩, b, n, no, z⟩ := key p e hs
    refine ⟨?_, fun o' ho => st.h _ _ ho n no⟩
    cases q : B2 p with
    | none => rfl
    | some u =>
      rcases st.n p u q b with y | y
      · rw [hh] at y; cases y
      · exact absurd y no
  · obtain ⟨p, e, _, _⟩ := f hs
    obtain ⟨⟨o, hh⟩, b, n, no, z⟩ := key p e hs
    refine ⟨p, e, fun y => ?_, z⟩
    rcases (st.o p y).2 with y | y
    · exact no y
    · rw [hh] at y; cases y
theorem v_nil : PA X [] (LVs G E (M.ret [])) := weakA pa_nil fun σ H Q ⟨B, ρ, S, w, p⟩ => p [] B H (Stp.refl w) w .nil
theorem v_cons (ha : PE X e (LE G E f)) (hr : PA X es (LVs G E fs)) (hs : starEach (e :: es) X.env = (false, eval e X.env) :: starEach es X.env) :
    PA X (e :: es) (LVs G E (M.bnd f fun x => M.bnd fs fun xs => M.ret (x :: xs))) := by
  refine weakA (pa_cons ha hr hs) fun σ H Q ⟨B, ρ, S, w, p⟩ => ?_
  refine Post.step (rel := rSV G) w (Stp.refl w) p fun v a B1 H1 ρ1 S1 st w1 r p1 => ?_
  refine Post.step (rel := rSVs G) w1 st p1 fun vs as B2 H2 ρ2 S2 st2 w2 rs p2 => ?_
  obtain ⟨r, f⟩ := r
  have rs : SVs G B2 H2 σ ρ2 H1 vs as := rs
  obtain ⟨r2, f2⟩ := r.later w1 st2 f
  refine p2 (v :: vs) B2 H2 (st.trans st2) w2 (.cons r2 f2 (fun q e hs o => ?_) (rs.back st.t))
  have := rs.ownNone o
  obtain ⟨q', o', e', _, _, hh⟩ := r.at hs
  rw [e] at e'
  cases e'
  rw [hh] at this
  cases this
/-- a store, then the others wait -/
theorem SVs.set {v : V} {sv : SV} {vs : List V} {svs : List SV} {i : Nat} (hi : i < ρ.length) (hs : ρ.length = σ.length) (d : ∀ p : Addr, v = V.ref p → sv.isOwn = true → ¬ ownAt p vs svs) : SVs G B H σ ρ H0 vs svs → SVs G B H (σ.set i (some v)) (ρ.set i (some sv)) H0 vs svs := by
  intro h
  induction h with
  | nil => exact .nil
  | cons r f d' t ih =>
    refine .cons r (fun ho => ?_) d' (ih fun p e h1 h2 => d p e h1 (.inr h2))
    obtain ⟨p, e, n, z⟩ := f ho
    refine ⟨p, e, fun ⟨j, y, y1, y2, y3⟩ => ?_, z⟩
    by_cases q : i = j
    · subst q
      rw [List.getElem?_set_self hi] at y1
      rw [List.getElem?_set_self (by omega)] at y3
      cases y1
      cases y3
      exact d p rfl y2 (.inl ⟨e, ho⟩)
    · rw [List.getElem?_set_ne q] at y1 y3
      exact n ⟨j, y, y1, y2, y3⟩
theorem setSV_ok {i : Nat} {sv : SV} {g : Unit → M Flow'} (p : PostS G E σ B H ρ (M.bnd (setSV i sv) g ρ1 S1) D_) : i < ρ1.length ∧ PostS G E σ B H ρ (g () (ρ1.set i (some sv)) S1) D_ := by
  unfold M.bnd setSV at p
  by_cases q : i < ρ1.length
  · rw [if_pos q] at p
    exact ⟨q, p⟩
  · rw [if_neg q] at p
    exact p.elim
theorem asgs_ok : ∀ (is : List Nat) (svs : List SV) (vs : List V) {σ1 : L2.St} {ρ1 : Rho} (_ : Wld G B1 H1 σ1 ρ1 S1) (_ : Stp G B H σ ρ B1 H1 σ1 ρ1) (_ : SVs G B1 H1 σ1 ρ1 H vs svs) (_ : PostS G E σ B H ρ (M.bnd (asgs is svs) (fun _ => M.ret .nx) ρ1 S1) D_),
    is.length = vs.length ∧ D_.nx ((is.zip vs).foldl (fun s p => s.set p.1 (some p.2)) σ1) H1
  | [], [], [], σ1, ρ1, w, st, r, p => ⟨rfl, p.nx st w⟩
  | [], _ :: _, _, _, _, w, st, r, p => p.elim
  | _ :: _, [], _, _, _, w, st, r, p => p.elim
  | [], [], _ :: _, _, _, w, st, r, p => nomatch r
  | _ :: _, _ :: _, [], _, _, w, st, r, p => nomatch r
  | i :: is, sv :: svs, v :: vs, σ1, ρ1, w, st, r, p => by
    cases r with
    | cons r f d t =>
      have p : PostS G E σ B H ρ (M.bnd (setSV i sv) (fun _ => M.bnd (asgs is svs) (fun _ => M.ret .nx)) ρ1 S1) D_ := by
        have e : M.bnd (asgs (i :: is) (sv :: svs)) (fun _ => M.ret Flow'.nx) ρ1 S1 = M.bnd (setSV i sv) (fun _ => M.bnd (asgs is svs) (fun _ => M.ret .nx)) ρ1 S1 := by
          show M.bnd (M.bnd (setSV i sv) (fun _ => asgs is svs)) (fun _ => M.ret Flow'.nx) ρ1 S1 = _
          unfold M.bnd setSV
          by_cases q : i < ρ1.length
          · rw [if_pos q]
          · rw [if_neg q]
        rw [← e]
        exact p
      obtain ⟨hi, p⟩ := setSV_ok p
      obtain ⟨w2, k⟩ := w.set hi r f
      have := asgs_ok is svs vs w2 (k st) (SVs.set hi w.len d t) p
      exact ⟨by simp [this.1], this.2⟩
theorem s_par2 {i j : Nat} {x y : Str} {px py pt pt2 : Pos} {kt k2 : Nat} (l : LocOk X x i) (l2 : LocOk X y j) (hij : i ≠ j) (hc : X.calm = true) (hx : X.env.scope.names.lookup x = some .local) (hy : X.env.scope.names.lookup y = some .local)
    (ha : PA X [a, b] (LVs G E fs)) (hw : swappedStores [.Tuple [.Name x px, .Name y py] kt pt] (.Tuple [a, b] k2 pt2) X.env = pure (some [x, y])) (hs : swapsWithSole [.Tuple [.Name x px, .Name y py] kt pt] (.Tuple [a, b] k2 pt2) pos.line X.env = pure false) :
    PS X (.Assign [.Tuple [.Name x px, .Name y py] kt pt] (.Tuple [a, b] k2 pt2) pos) (LS G E (M.bnd fs fun svs => M.bnd (asgs [i, j] svs) fun _ => M.ret .nx)) := by
  refine weakSS (ps_par hc l.nd l.at_ l2.at_ hij hx hy ha hw hs) fun D_ σ B H ρ S w p => ?_
  refine PostS.bndK (rel := rSVs G) w p fun vs svs B1 H1 ρ1 S1 st w1 r p1 => ?_
  obtain ⟨hl, q⟩ := asgs_ok [i, j] svs vs w1 st r p1
  match vs, hl with
  | [v, u], _ => exact ⟨v, u, rfl, q⟩
theorem s_par3 {i j k : Nat} {x y z : Str} {px py pz pt pt2 : Pos} {kt k2 : Nat} (l : LocOk X x i) (l2 : LocOk X y j) (l3 : LocOk X z k) (hij : i ≠ j) (hik : i ≠ k) (hjk : j ≠ k) (hc : X.calm = true) (hx : X.env.scope.names.lookup x = some .local) (hy : X.env.scope.names.lookup y = some .local) (hz : X.env.scope.names.lookup z = some .local)
    (ha : PA X [a, b, c] (LVs G E fs)) (hw : swappedStores [.Tuple [.Name x px, .Name y py, .Name z pz] kt pt] (.Tuple [a, b, c] k2 pt2) X.env = pure (some [x, y, z])) (hs : swapsWithSole [.Tuple [.Name x px, .Name y py, .Name z pz] kt pt] (.Tuple [a, b, c] k2 pt2) pos.line X.env = pure false) :
    PS X (.Assign [.Tuple [.Name x px, .Name y py, .Name z pz] kt pt] (.Tuple [a, b, c] k2 pt2) pos) (LS G E (M.bnd fs fun svs => M.bnd (asgs [i, j, k] svs) fun _ => M.ret .nx)) := by
  refine weakSS (ps_par3 hc l.nd l.at_ l2.at_ l3.at_ hij hik hjk hx hy hz ha hw hs) fun D_ σ B H ρ S w p => ?_
  refine PostS.bndK (rel := rSVs G) w p fun vs svs B1 H1 ρ1 S1 st w1 r p1 => ?_
  obtain ⟨hl, q⟩ := asgs_ok [i, j, k] svs vs w1 st r p1
  match vs, hl with
  | [v, u, t], _ => exact ⟨v, u, t, rfl, q⟩
end
end Pd
set_option Elab.async false
set_option linter.all false
set_option maxRecDepth 100000
set_option maxHeartbeats 4000000
namespace Pd
open PySem L2 Evl PyProof.Rows PySem.Spec

/-! ### lists and dicts of a slot's own -/
section
variable {X : Cx} {G : Glo} {E : XK} {B H : Hp} {σ : L2.St} {ρ : Rho} {S : PenSt} {D_ : Ends} {e a : Expr} {fe : M SV} {fs : M (List SV)} {pos p1 p2 p3 p4 : Pos} {i : Nat} {x : Str}
theorem SqL.own {K : PySem.W.Frag} {H : Hp} {p : Addr} {vs : List V} (h : H p = some (.lst vs)) : SqL K H p vs := SqL.of h
theorem s_app (l : VarOk X x i) (he : PE X e (LE G E fe)) (hbase : attributeBase (.Name x p1) "append" X.env (eval (.Name x p1) X.env) = eval (.Name x p1) X.env) (hline : (p2.endLine == p3.line) = true)
    (hs1 : starEach [e] X.env = (false, eval e X.env) :: starEach [] X.env) (hsw : swapsWith (.Call (.Attribute (.Name x p1) "append" p2) [e] [] p3) none p4.line X.env = pure false)
    (hfew : ((backTo p3 (starEach [e] X.env)).all (fun x => !x.1) && (backToKw p3 (keywordEach [] X.env)).all (fun x => x.1.isSome)
      && decide ([e].length + ([] : List Keyword).length + (if ([] : List Keyword).isEmpty then 0 else 1) < 30)) = true) :
    PS X (.Expr (.Call (.Attribute (.Name x p1) "append" p2) [e] [] p3) p4) (LS G E (ownThen i (M.bnd fe fun y => fun ρ S => match ρ[i]? with
    | some (some (.ow xs)) => if xs.length < 100000 then .ok .nx (ρ.set i (some (.ow (xs ++ [y.d])))) S else .bad
    | _ => .bad))) := by
  refine weakSS (ps_expr (pe_bm PySem.F.plainAttrs_list PySem.F.slot_list_append PySem.F.type_list_append (mt_append (X := X)) (pe_var l.at_ l.vis l.db l.cd) (pa_cons (frzE he) pa_nil hs1) hbase hfew hline hs1 rfl) hsw) fun D_ σ B H ρ S w p => ?_
  unfold ownThen at p
  split at p
  · rename_i xs hx
    obtain ⟨q, vs, e1, nB, nP, hh, r⟩ := w.owl hx
    refine ⟨_, e1, .inl ⟨rfl, vs, SqL.of hh⟩, ?_⟩
    refine PostS.bndK (rel := rD G) w p fun v y B1 H1 ρ1 S1 st w1 r1 p1 => ?_
    split at p1
    · rename_i ys hy
      split at p1
      · rename_i few
        obtain ⟨q', us, e2, nB2, nP2, hh2, r2⟩ := w1.owl hy
        rw [e1] at e2
        cases e2
        have r1 : Rep G B1 v y.d := r1
        obtain ⟨w2, st2⟩ := w1.wrL (vs := us ++ [v]) hy e1 (r2.append (.cons r1 .nil))
        refine ⟨_, us, v, rfl, rfl, hh2, ?_, p1.nx (st.trans st2) w2⟩
        have := r2.length
        exact Nat.lt_of_lt_of_le (show us.length < 100000 by omega) (sizeL (by omega))
      · exact p1.elim
    · exact p1.elim
  · exact p.elim
theorem d_pop (l : VarOk X x i) (he : PE X e (LE G E fe)) (hbase : attributeBase (.Name x p1) "pop" X.env (eval (.Name x p1) X.env) = eval (.Name x p1) X.env) (hline : (p2.endLine == p3.line) = true)
    (hs1 : starEach [e] X.env = (false, eval e X.env) :: starEach [] X.env)
    (hfew : ((backTo p3 (starEach [e] X.env)).all (fun x => !x.1) && (backToKw p3 (keywordEach [] X.env)).all (fun x => x.1.isSome)
      && decide ([e].length + ([] : List Keyword).length + (if ([] : List Keyword).isEmpty then 0 else 1) < 30)) = true) :
    PE X (.Call (.Attribute (.Name x p1) "pop" p2) [e] [] p3) (LE G E (ownThen i (M.bnd fe fun y => fun ρ S => match ρ[i]?, y.d with
    | some (some (.ow xs)), .int k => if 0 ≤ k ∧ k < xs.length ∧ xs.length ≤ 100000 then (match xs[k.toNat]? with
      | some d => .ok (.im d) (ρ.set i (some (.ow (xs.eraseIdx k.toNat)))) S
      | none => .bad) else .bad
    | _, _ => .bad))) := by
  refine weakE (pe_bm PySem.F.plainAttrs_list PySem.F.slot_list_pop PySem.F.type_list_pop (mt_popAt (X := X)) (pe_var l.at_ l.vis l.db l.cd) (pa_cons (frzE he) pa_nil hs1) hbase hfew hline hs1 rfl) fun σ H Q ⟨B, ρ, S, w, p⟩ => ?_
  unfold ownThen at p
  split at p
  · rename_i xs hx
    obtain ⟨q, vs, e1, nB, nP, hh, r⟩ := w.owl hx
    refine ⟨_, e1, .inl ⟨rfl, vs, SqL.of hh⟩, ?_⟩
    refine Post.step (rel := rD G) w (Stp.refl w) p fun v y B1 H1 ρ1 S1 st w1 r1 p1 => ?_
    have r1 : Rep G B1 v y.d := r1
    split at p1
    · rename_i ys k hy hyd
      rw [hyd] at r1
      cases r1
      split at p1
      · rename_i few
        split at p1
        · rename_i d hd
          obtain ⟨q', us, e2, nB2, nP2, hh2, r2⟩ := w1.owl hy
          rw [e1] at e2
          cases e2
          obtain ⟨u, hu, ru⟩ := r2.get hd
          have lenE := r2.length
          obtain ⟨w2, st2⟩ := w1.wrL (vs := us.eraseIdx k.toNat) hy e1 (r2.eraseIdx k.toNat)
          refine ⟨_, us, k, k.toNat, u, rfl, rfl, hh2, by omega, by omega, ?_, hu, p1 u _ _ (st.trans st2) w2 ⟨ru, fun h => by cases h⟩⟩
          have g : (decide (0 ≤ k) && decide (k < (us.length : Int))) = true := by
            rw [Bool.and_eq_true, decide_eq_true_eq, decide_eq_true_eq]
            omega
          simp only [seqIndex?, show ¬ k < 0 by omega, if_false, g, if_true]
        · exact p1.elim
      · exact p1.elim
    · exact p1.elim
  · exact p.elim
/-- xs[k] of a list of its own -/
theorem d_ixv (l : VarOk X x i) (he : PE X e (LE G E fe)) (hpl : PlainIx e) : PE X (.Subscript (.Name x p1) e pos) (LE G E (ownThen i (M.bnd fe fun y => fun ρ S => match ρ[i]?, y.d with
    | some (some (.ow xs)), .int k => (match atI xs k with
      | some d => .ok (.im d) ρ S
      | none => .bad)
    | _, _ => .bad))) := by
  refine weakE (pe_ix (ix_list (X := X)) (pe_var l.at_ l.vis l.db l.cd) (frzE he) hpl) fun σ H Q ⟨B, ρ, S, w, p⟩ => ?_
  unfold ownThen at p
  split at p
  · rename_i xs hx
    obtain ⟨q, vs, e1, nB, nP, hh, r⟩ := w.owl hx
    refine ⟨_, e1, ?_⟩
    refine Post.step (rel := rD G) w (Stp.refl w) p fun v y B1 H1 ρ1 S1 st w1 r1 p1 => ?_
    have r1 : Rep G B1 v y.d := r1
    split at p1
    · rename_i ys k hy hyd
      rw [hyd] at r1
      cases r1
      split at p1
      · rename_i d hd
        obtain ⟨q', us, e2, nB2, nP2, hh2, r2⟩ := w1.owl hy
        rw [e1] at e2
        cases e2
        unfold atI at hd
        rw [Option.bind_eq_some_iff] at hd
        obtain ⟨j, h1, h2⟩ := hd
        obtain ⟨u, hu, ru⟩ := r2.get h2
        refine ⟨_, us, k, u, rfl, rfl, SqL.of hh2, ?_, p1 u _ _ st w1 ⟨ru, fun h => by cases h⟩⟩
        unfold atI
        rw [r2.length, h1]
        exact hu
      · exact p1.elim
    · exact p1.elim
  · exact p.elim
/-- xs[k] of a list that may be of its own -/
theorem d_ixv2 (hK : X.K = G.K) (l : VarOk X x i) (he : PE X e (LE G E fe)) (hpl : PlainIx e) : PE X (.Subscript (.Name x p1) e pos) (LE G E (fun ρ S => match ρ[i]? with
    | some (some (.ow _)) => ownThen i (M.bnd fe fun y => fun ρ S => match ρ[i]?, y.d with
      | some (some (.ow xs)), .int k => (match atI xs k with
        | some d => .ok (.im d) ρ S
        | none => .bad)
      | _, _ => .bad) ρ S
    | _ => M.bnd (getV i) (fun x => M.bnd fe fun y => M.bnd (M.opt (ixD x.d y.d)) fun d => M.ret (.im d)) ρ S)) := by
  refine ⟨fun pins s σ H Q I ⟨B, ρ, S, w, p⟩ => ?_⟩
  dsimp only at p
  split at p
  · exact (d_ixv l he hpl).run pins s σ H Q I ⟨B, ρ, S, w, p⟩
  · exact (d_ix hK (d_var l.at_ l.vis l.db l.cd) he hpl).run pins s σ H Q I ⟨B, ρ, S, w, p⟩
/-- len(xs) -/
theorem d_lenv (hK : X.K = G.K) (l : VarOk X x i) (hg : Gl X "len") (hm : X.mg "len" = none) (hs1 : starEach [.Name x p1] X.env = (false, eval (.Name x p1) X.env) :: starEach [] X.env) : PE X (.Call (.Name "len" p2) [.Name x p1] [] pos) (LE G E fun ρ S => match ρ[i]? with
    | some (some (.ow xs)) => .ok (.im (.int xs.length)) ρ S
    | some (some (.im (.lst xs))) => .ok (.im (.int xs.length)) ρ S
    | some (some (.im (.tup xs))) => .ok (.im (.int xs.length)) ρ S
    | _ => .bad) := by
  refine weakE (pe_callB (call_len_seq (X := X)) hg hm rfl (pa_cons (pe_var l.at_ l.vis l.db l.cd) pa_nil hs1) (he := hs1)) fun σ H Q ⟨B, ρ, S, w, p⟩ => ?_
  dsimp only at p
  split at p
  · rename_i xs hx
    obtain ⟨q, vs, e1, nB, nP, hh, r⟩ := w.owl hx
    refine ⟨_, e1, q, vs, rfl, .inl (SqL.of hh), ?_⟩
    rw [r.length]
    exact p _ B H (Stp.refl w) w ⟨.int _, fun h => by cases h⟩
  · rename_i xs hx
    obtain ⟨v, e1, r⟩ := w.sl i _ hx
    have r : Rep G B v (.lst xs) := r
    cases r with
    | lst s r =>
      refine ⟨_, e1, _, _, rfl, .inl (SqL.of (w.sub _ _ s)), ?_⟩
      rw [r.length]
      exact p _ B H (Stp.refl w) w ⟨.int _, fun h => by cases h⟩
  · rename_i xs hx
    obtain ⟨v, e1, r⟩ := w.sl i _ hx
    have r : Rep G B v (.tup xs) := r
    cases r with
    | tup s r =>
      refine ⟨_, e1, _, _, rfl, .inr (hK ▸ ex_t w.sub s), ?_⟩
      rw [r.length]
      exact p _ B H (Stp.refl w) w ⟨.int _, fun h => by cases h⟩
  · exact p.elim
/-- d["k"] of a dict of its own -/
theorem d_keyv (hk : KeysOk G) (hu : X.A.units + 1 < cLine) (l : VarOk X x i) {k j : Nat} : PE X (.Subscript (.Name x p1) (.Constant (.str (G.kS k)) j p2) pos) (LE G E fun ρ S => match ρ[i]? with
    | some (some (.od kvs)) => (match kvs.lookup k with
      | some d => .ok (.im d) ρ S
      | none => .bad)
    | _ => .bad) := by
  refine weakE (pe_dget hu (pe_var l.at_ l.vis l.db l.cd) pe_str (fun _ _ => rfl)) fun σ H Q ⟨B, ρ, S, w, p⟩ => ?_
  dsimp only at p
  split at p
  · rename_i kvs hx
    split at p
    · rename_i d hd
      obtain ⟨q, ks, vs, e1, nB, nP, hh, eks, r⟩ := w.owd hx
      refine ⟨_, e1, ?_⟩
      have hd' : ((kvs.map (·.1)).zip (kvs.map (·.2))).lookup k = some d := by
        have e : (kvs.map (·.1)).zip (kvs.map (·.2)) = kvs := by rw [← List.unzip_fst, ← List.unzip_snd, List.zip_unzip]
        rw [e]
        exact hd
      obtain ⟨m, i1, i2, i3⟩ := lookup_zip hd'
      obtain ⟨u, e2, e3⟩ := r.get i2
      have lenr := r.length
      rw [List.length_map] at lenr
      have lk : ks.length = vs.length := by rw [eks, List.length_map, List.length_map, lenr]
      have f1 : (ks.zip vs).map (·.1) = ks := by rw [← List.unzip_fst, List.unzip_zip_left (by omega)]
      have f2 : (ks.zip vs).map (·.2) = vs := by rw [← List.unzip_snd, List.unzip_zip_right (by omega)]
      have vv : valV (ks.zip vs) (Sum.inr (G.kS k)) = some u := valV_at (i := m) (by rw [f1, eks, List.getElem?_map, i1]; rfl) (by rw [f2]; exact e2) fun j hj z => by
        rw [f1, eks, List.getElem?_map, Option.map_eq_some_iff] at z
        obtain ⟨n, m1, m2⟩ := z
        have : n = k := hk n k (Sum.inr.inj m2)
        subst this
        exact i3 j hj m1
      have z := DGet.k (k := Sum.inr (G.kS k)) hh
      rw [vv] at z
      exact ⟨_, u, rfl, z, p _ B H (Stp.refl w) w ⟨e3, fun h => by cases h⟩⟩
    · exact p.elim
  · exact p.elim
/-- xs[k] = e, a list of its own -/
theorem s_sto {ek : Expr} {fk : M SV} {pt : Pos} (l : VarOk X x i) (he : PE X e (LE G E fe)) (hk : PE X ek (LE G E fk)) (ha : ∀ v, assign (.Subscript (.Name x p1) ek pt) X.env v = (do
      let ov ← holding [v] (eval (.Name x p1) X.env)
      let iv ← holding [v, ov] (eval ek X.env)
      standAt pt
      holding [v, ov, iv] (setItem ov iv v)
      release [v, ov, iv] [])) (hs : swapsWithSole [.Subscript (.Name x p1) ek pt] e pos.line X.env = pure false) (hw : swappedStores [.Subscript (.Name x p1) ek pt] e X.env = pure none) (h1 : (assignEach [.Subscript (.Name x p1) ek pt] X.env).map (·.2) = [assign (.Subscript (.Name x p1) ek pt) X.env]) :
    PS X (.Assign [.Subscript (.Name x p1) ek pt] e pos) (LS G E (M.bnd fe fun y => ownThen i (M.bnd fk fun kk => fun ρ S => match ρ[i]?, kk.d with
    | some (some (.ow xs)), .int k => (match ixN xs.length k with
      | some j => .ok .nx (ρ.set i (some (.ow (xs.set j y.d)))) S
      | none => .bad)
    | _, _ => .bad))) := by
  refine weakSS (ps_asg (frzE he) (pg_sub (pe_var l.at_ l.vis l.db l.cd) (frzE hk) set_list ha) hs hw h1) fun D_ σ B H ρ S w p => ?_
  refine PostS.bndK (rel := rD G) w p fun v y B1 H1 ρ1 S1 st w1 r1 p1 => ?_
  have r1 : Rep G B1 v y.d := r1
  have p1 := p1.rebase st
  unfold ownThen at p1
  split at p1
  · rename_i xs hx
    obtain ⟨q, vs, e1, nB, nP, hh, r⟩ := w1.owl hx
    refine ⟨_, e1, ?_⟩
    refine PostS.bndK (rel := rD G) w1 p1 fun u kk B2 H2 ρ2 S2 st2 w2 r2 p2 => ?_
    have r2 : Rep G B2 u kk.d := r2
    split at p2
    · rename_i ys k hy hyd
      rw [hyd] at r2
      cases r2
      split at p2
      · rename_i j hj
        obtain ⟨q', us, e2, nB2, nP2, hh2, r3⟩ := w2.owl hy
        rw [e1] at e2
        cases e2
        obtain ⟨w3, st3⟩ := w2.wrL (vs := us.set j v) hy e1 (Reps.set (r1.mono st2.b) j r3)
        refine ⟨_, us, k, j, rfl, rfl, hh2, by rw [r3.length]; exact hj, p2.nx (st2.trans st3) w3⟩
      · exact p2.elim
    · exact p2.elim
  · exact p1.elim
/-- x += e -/
theorem s_aug (l : LocOk X x i) (he : PE X e (LE G E fe)) : PS X (.AugAssign (.Name x p1) .Add e pos) (LS G E (fun ρ S => match ρ[i]? with
    | some (some (.im (.int a))) => M.bnd fe (fun y => match y.d with
      | .int b => M.bnd (setSV i (.im (.int (a + b)))) fun _ => M.ret .nx
      | _ => M.bad) ρ S
    | _ => .bad)) := by
  refine weakSS (ps_aug l.nd l.at_ l.loc (frzE he) ip_add l.fr) fun D_ σ B H ρ S w p => ?_
  split at p
  · rename_i a hx
    obtain ⟨v, e1, r⟩ := w.sl i _ hx
    have r : Rep G B v (.int a) := r
    cases r
    refine ⟨_, e1, ?_⟩
    refine PostS.bndK (rel := rD G) w p fun u y B1 H1 ρ1 S1 st w1 r1 p1 => ?_
    have r1 : Rep G B1 u y.d := r1
    cases hb : y.d with
    | int b =>
      rw [hb] at r1
      have p1 : PostS G E σ B H ρ (M.bnd (setSV i (.im (.int (a + b)))) (fun _ => M.ret .nx) ρ1 S1) D_ := by
        have p1 := p1
        simp only [hb] at p1
        exact p1
      cases r1
      obtain ⟨hi, p2⟩ := setSV_ok p1
      obtain ⟨w2, st2⟩ := w1.setIm (d := .int (a + b)) hi (.int (a + b))
      exact ⟨a, b, rfl, rfl, p2.nx (st.trans st2) w2⟩
    | _ =>
      simp only [hb] at p1
      exact p1.elim
  · exact p.elim
/-- list(range(n)), tuple(range(n)) -/
theorem d_rngL (hc : X.calm = true) {t : Bool} {pr : Pos} (hg : Gl X "range") (hm : X.mg "range" = none) (hg2 : Gl X (if t then "tuple" else "list")) (hm2 : X.mg (if t then "tuple" else "list") = none) (he : PE X e (LE G E fe)) (hs1 : starEach [e] X.env = (false, eval e X.env) :: starEach [] X.env)
    (hs2 : starEach [.Call (.Name "range" p1) [e] [] pr] X.env = (false, eval (.Call (.Name "range" p1) [e] [] pr) X.env) :: starEach [] X.env) :
    PE X (.Call (.Name (if t then "tuple" else "list") p2) [.Call (.Name "range" p1) [e] [] pr] [] pos) (LE G E (M.bnd fe fun x => match x.d with
    | .int j => if j ≤ 100000 ∧ -100000 ≤ j then M.ret (if t then .im (.tup (rngL 0 j.toNat)) else .ow (rngL 0 j.toNat)) else M.bad
    | _ => M.bad)) := by
  have reps : ∀ (B : Hp) (j : Int), Reps G B (rgV 0 j) (rngL 0 j.toNat) := fun B j => by
    unfold rgV rngL
    rw [Int.sub_zero]
    generalize List.range j.toNat = l
    induction l with
    | nil => exact .nil
    | cons a l ih => exact .cons (.int _) ih
  have key : ∀ {σ H Q}, LE G E (M.bnd fe fun x => match x.d with
    | .int j => if j ≤ 100000 ∧ -100000 ≤ j then M.ret (if t then .im (.tup (rngL 0 j.toNat)) else .ow (rngL 0 j.toNat)) else M.bad
    | _ => M.bad) σ H Q → LD G E fe σ H fun x H1 => ∃ n, x = .int n ∧ RgOk 0 n ∧ ∃ (B : Hp) (ρ : Rho) (S : PenSt), Wld G B H1 σ ρ S ∧ Post (rSV G) G E σ B H1 ρ (M.ret (if t then SV.im (.tup (rngL 0 n.toNat)) else .ow (rngL 0 n.toNat)) ρ S) Q := fun {σ H Q} ⟨B, ρ, S, w, p⟩ => by
    refine Post.bnd (rel := rD G) w p fun v x B1 H1 ρ1 S1 st w1 r p1 => ?_
    unfold rD at r
    cases e : x.d <;> rw [e] at r p1 <;> try exact p1.elim
    cases r
    rename_i j
    dsimp only at p1
    by_cases q : j ≤ 100000 ∧ -100000 ≤ j
    · rw [if_pos q] at p1
      exact ⟨j, rfl, ⟨by omega, by omega, by omega, by omega, by omega⟩, B1, ρ1, S1, w1, p1⟩
    · rw [if_neg q] at p1
      exact p1.elim
  cases t with
  | true =>
    refine weakE (pe_tupRg hc hg2 hm2 (prg_1 hg hm (frzE he) hs1) hs2) fun σ H Q h => ?_
    obtain ⟨B, ρ, S, w, p⟩ := key h
    refine ⟨B, ρ, S, w, ?_⟩
    cases ef : fe ρ S with
    | bad => rw [ef] at p; exact p
    | exc c fs S' => rw [ef] at p; exact p
    | ok a ρ' S' =>
      rw [ef] at p
      intro v B' H' st w' r
      obtain ⟨n, ev, ok, B2, ρ2, S2, w2, p2⟩ := p v B' H' st w' r
      exact ⟨n, ev, ok, fun q hq => Post.tupN p2 w2 (reps _ _) hq⟩
  | false =>
    refine weakE (pe_listRg hc hg2 hm2 (prg_1 hg hm (frzE he) hs1) hs2) fun σ H Q h => ?_
    obtain ⟨B, ρ, S, w, p⟩ := key h
    refine ⟨B, ρ, S, w, ?_⟩
    cases ef : fe ρ S with
    | bad => rw [ef] at p; exact p
    | exc c fs S' => rw [ef] at p; exact p
    | ok a ρ' S' =>
      rw [ef] at p
      intro v B' H' st w' r
      obtain ⟨n, ev, ok, B2, ρ2, S2, w2, p2⟩ := p v B' H' st w' r
      exact ⟨n, ev, ok, fun q hq => Post.lstN p2 w2 (reps _ _) hq⟩
end

/-! ### dict displays, stores by key -/
section
variable {X : Cx} {G : Glo} {E : XK} {B H : Hp} {σ : L2.St} {ρ : Rho} {S : PenSt} {D_ : Ends} {e a : Expr} {fe : M SV} {pos p1 p2 p3 p4 : Pos} {i : Nat} {x : Str}
theorem putK_new {κ : Type} [DecidableEq κ] {kvs : List (κ × V)} {k : κ} {v : V} (h : ∀ p ∈ kvs, p.1 ≠ k) : putK kvs k v = kvs ++ [(k, v)] := by
  unfold putK
  rw [if_neg]
  intro z
  rw [List.any_eq_true] at z
  obtain ⟨p, hp, e⟩ := z
  exact h p hp (of_decide_eq_true e)
theorem mergeK_nodup : ∀ (more kvs : List (Key × V)), (kvs.map (·.1) ++ more.map (·.1)).Nodup → mergeK kvs more = kvs ++ more
  | [], kvs, _ => by simp [mergeK]
  | p :: r, kvs, h => by
    have h1 : ∀ q ∈ kvs, q.1 ≠ p.1 := fun q hq e => by
      rw [List.map_cons] at h
      have := (List.nodup_append.mp h).2.2 q.1 (List.mem_map_of_mem hq) p.1 (List.mem_cons_self ..)
      exact this e
    show mergeK (putK kvs p.1 p.2) r = _
    rw [putK_new h1, mergeK_nodup r _ (by simpa using h)]
    simp
/-- the readings of a display's pairs -/
def dTrs (G : Glo) (E : XK) : List Nat → List IE → List (TE × TE)
  | k :: ks, ie :: ies => (tC (.str (G.kS k)), LD G E (evE ie)) :: dTrs G E ks ies
  | _, _ => []
def kPairs (G : Glo) (ks : List Nat) (vs : List V) : List (V × V) := (ks.zip vs).map fun p => (V.str (G.kS p.1), p.2)
theorem pairs_ok : ∀ (ks : List Nat) (ies : List IE) {σ : L2.St} {H : Hp} {K : List V → Hp → Prop} {Q : List (V × V) → Hp → Prop}, ks.length = ies.length → (∀ vs H', K vs H' → Q (kPairs G ks vs) H') → LDs G E (evEs ies) σ H K → tPairs (dTrs G E ks ies) σ H Q
  | [], [], σ, H, K, Q, _, hQ, ⟨B, ρ, S, w, p⟩ => hQ [] H (p [] B H (Stp.refl w) w .nil)
  | [], _ :: _, _, _, _, _, h, _, _ => by cases h
  | _ :: _, [], _, _, _, _, h, _, _ => by cases h
  | k :: ks, ie :: ies, σ, H, K, Q, hl, hQ, ⟨B, ρ, S, w, p⟩ => by
    show LD G E (evE ie) σ H fun y H2 => tPairs (dTrs G E ks ies) σ H2 fun ps H3 => Q ((V.str (G.kS k), y) :: ps) H3
    have p : Post (rDs G) G E σ B H ρ (M.bnd (evE ie) (fun x => M.bnd (evEs ies) fun xs => M.ret (x :: xs)) ρ S) K := p
    refine Post.bnd (rel := rD G) w p fun v a B1 H1 ρ1 S1 st w1 r p1 => ?_
    refine pairs_ok ks ies (K := fun vs H' => K (v :: vs) H') (by simpa using hl) (fun vs H' q => hQ (v :: vs) H' q) ?_
    refine Post.bnd (rel := rDs G) w1 p1 fun vs as B2 H2 ρ2 S2 st2 w2 rs p2 => ?_
    exact p2 (v :: vs) B2 H2 (Stp.refl w2) w2 (.cons (Rep.mono st2.b r) rs)
inductive KeysAre (G : Glo) : List (Option Expr) → List Nat → Prop
  | nil : KeysAre G [] []
  | cons {k j : Nat} {p : Pos} {ks : List (Option Expr)} {is : List Nat} : KeysAre G ks is → KeysAre G (some (.Constant (.str (G.kS k)) j p) :: ks) (k :: is)
theorem pps_of {ks : List (Option Expr)} {is : List Nat} (hk : KeysAre G ks is) : ∀ {vs : List Expr} {ies : List IE}, vs.length = ies.length → is.length = ies.length → (∀ (j : Nat) (e : Expr) (ie : IE), vs[j]? = some e → ies[j]? = some ie → PE X e (LE G E (evE ie))) → PPs X pos ks vs (dTrs G E is ies) ∧ ks.all (·.isSome) = true ∧ ks.length = is.length := by
  induction hk with
  | nil =>
    intro vs ies h1 h2 _
    cases ies with
    | cons => cases h2
    | nil =>
      cases vs with
      | cons => cases h1
      | nil => exact ⟨pps_nil, rfl, rfl⟩
  | cons _ ih =>
    intro vs ies h1 h2 h
    cases ies with
    | nil => cases h2
    | cons ie ies =>
      cases vs with
      | nil => cases h1
      | cons v vs =>
        obtain ⟨q1, q2, q3⟩ := ih (vs := vs) (ies := ies) (by simpa using h1) (by simpa using h2) fun j e ie a b => h (j + 1) e ie (by simpa using a) (by simpa using b)
        exact ⟨pps_cons pe_str (frzE (h 0 _ _ rfl rfl)) q1, by rw [List.all_cons, q2]; rfl, by rw [List.length_cons, List.length_cons, q3]⟩
theorem d_dct (ko : KeysOk G) {keys : List (Option Expr)} {values : List Expr} {is : List Nat} {ies : List IE} (hk : KeysAre G keys is) (h1 : values.length = ies.length) (h2 : is.length = ies.length) (h : ∀ (j : Nat) (e : Expr) (ie : IE), values[j]? = some e → ies[j]? = some ie → PE X e (LE G E (evE ie))) (h0 : keys ≠ []) (h15 : is.length ≤ 15) :
    PE X (.Dict keys values pos) (LE G E (M.bnd (evEs ies) fun svs => if is.length = svs.length ∧ svs.length ≤ 15 ∧ is.Nodup then M.ret (.od (is.zip (svs.map SV.d))) else M.bad)) := by
  obtain ⟨q1, q2, q3⟩ := pps_of (X := X) (E := E) (pos := pos) hk h1 h2 h
  refine weakE (pe_disp q1 q2 (by omega) h0 (by omega)) fun σ H Q ⟨B, ρ, S, w, p⟩ => ?_
  intro A hA
  obtain ⟨w0, st0⟩ := w.newO hA (.dK [])
  refine pairs_ok (K := fun vs H2 => H2 A = some (.dK []) ∧ ∃ kvs : List (Key × V), kPairs G is vs = kvs.map (fun kv => (kV kv.1, kv.2)) ∧ kvs.length ≤ 15 ∧ Q (.ref A) (upd H2 A (.dK (mergeK [] kvs)))) is ies h2 (fun vs H' q => q) ?_
  refine Post.step (rel := rDs G) w0 st0 p fun vs svs B2 H2 ρ2 S2 st2 w2 rs p2 => ?_
  have rs : Reps G B2 vs (svs.map SV.d) := rs
  by_cases q : is.length = svs.length ∧ svs.length ≤ 15 ∧ is.Nodup
  · rw [if_pos q] at p2
    obtain ⟨c1, c2, c3⟩ := q
    have lv := rs.length
    rw [List.length_map] at lv
    have nP := w.neP hA
    have nO : ¬ Own σ ρ A := w.notOwn hA
    have at2 : H2 A = some (.dK []) := st2.h A _ upd_same nP nO
    have nB : B2 A = none := by
      cases z : B2 A with
      | none => rfl
      | some o =>
        rcases st2.n A o z (w.Bn hA) with y | y
        · rw [upd_same] at y; cases y
        · exact absurd y nO
    have nO2 : ¬ Own σ ρ2 A := fun z => by
      rcases (st2.o A z).2 with y | y
      · exact nO y
      · rw [upd_same] at y; cases y
    refine ⟨at2, (is.zip vs).map (fun p => (Sum.inr (G.kS p.1), p.2)), ?_, by rw [List.length_map, List.length_zip]; omega, ?_⟩
    · unfold kPairs
      rw [List.map_map]
      rfl
    · have nd : (((is.zip vs).map (fun p => ((Sum.inr (G.kS p.1) : Key), p.2))).map (·.1)).Nodup := by
        rw [List.map_map]
        have e : ((is.zip vs).map ((fun x : Key × V => x.1) ∘ fun p => ((Sum.inr (G.kS p.1) : Key), p.2))) = ((is.zip vs).map (·.1)).map (fun k => (Sum.inr (G.kS k) : Key)) := by rw [List.map_map]; rfl
        rw [e, ← List.unzip_fst, List.unzip_zip_left (by omega)]
        exact List.Pairwise.map _ (fun a b h z => h (ko a b (Sum.inr.inj z))) c3
      rw [mergeK_nodup _ [] (by simpa using nd), List.nil_append]
      have w3 := w2.loose nB nP nO2 (.dK ((is.zip vs).map (fun p => ((Sum.inr (G.kS p.1) : Key), p.2))))
      have st3 := st0.trans st2
      refine p2 (.ref A) B2 _ ⟨st3.b, fun b o hb hp ho => ?_, st3.n, st3.p, fun b hb => st3.t b ?_, st3.o⟩ w3 ⟨⟨A, (is.map fun k => Sum.inr (G.kS k)), vs, rfl, nB, nP, ?_, ?_, ?_⟩, fun _ => ⟨A, rfl, nO2, hA⟩⟩
      · rw [upd_ne (fun e => by rw [e, hA] at hb; cases hb)]
        exact st3.h b o hb hp ho
      · by_cases e : b = A
        · rw [e, upd_same] at hb; cases hb
        · rwa [upd_ne e] at hb
      · rw [upd_same, List.zip_map_left]
        rfl
      · have e : (is.zip (svs.map SV.d)).map (·.1) = is := by rw [← List.unzip_fst, List.unzip_zip_left (by rw [List.length_map]; omega)]
        rw [e]
      · have e : (is.zip (svs.map SV.d)).map (·.2) = svs.map SV.d := by rw [← List.unzip_snd, List.unzip_zip_right (by rw [List.length_map]; omega)]
        rw [e]
        exact rs
  · rw [if_neg q] at p2
    exact p2.elim
end

section
variable {X : Cx} {G : Glo} {E : XK} {B H : Hp} {σ : L2.St} {ρ : Rho} {S : PenSt} {D_ : Ends} {e a : Expr} {fe : M SV} {pos p1 p2 p3 p4 : Pos} {i : Nat} {x : Str}
def kKeys (G : Glo) (kvs : List (Nat × D)) : List Key := (kvs.map (·.1)).map (fun k => Sum.inr (G.kS k))
theorem put_map (ko : KeysOk G) {k : Nat} {v : V} {d : D} (rv : Rep G B v d) : ∀ {kvs : List (Nat × D)} {vs : List V}, Reps G B vs (kvs.map (·.2)) →
    ∃ vs', ((kKeys G kvs).zip vs).map (fun kv => if kv.1 = (Sum.inr (G.kS k) : Key) then (kv.1, v) else kv) = (kKeys G kvs).zip vs' ∧ Reps G B vs' ((kvs.map fun p => if p.1 = k then (p.1, d) else p).map (·.2))
  | [], _, r => by
    cases r
    exact ⟨[], rfl, .nil⟩
  | p :: kvs, _, r => by
    cases r with
    | @cons v0 vs d0 ds r rr =>
      obtain ⟨vs', e1, e2⟩ := put_map ko rv rr
      by_cases q : p.1 = k
      · refine ⟨v :: vs', ?_, ?_⟩
        · show ((Sum.inr (G.kS p.1), v0) :: (kKeys G kvs).zip vs).map _ = (Sum.inr (G.kS p.1), v) :: (kKeys G kvs).zip vs'
          rw [List.map_cons, e1, if_pos (by rw [q])]
        · rw [List.map_cons, List.map_cons, if_pos q]
          exact .cons rv e2
      · refine ⟨v0 :: vs', ?_, ?_⟩
        · show ((Sum.inr (G.kS p.1), v0) :: (kKeys G kvs).zip vs).map _ = (Sum.inr (G.kS p.1), v0) :: (kKeys G kvs).zip vs'
          rw [List.map_cons, e1, if_neg (fun z => q (ko _ _ (Sum.inr.inj z)))]
        · rw [List.map_cons, List.map_cons, if_neg q]
          exact .cons r e2
theorem any_keys {k : Nat} : ∀ {kvs : List (Nat × D)} {vs : List V}, vs.length = kvs.length → (kvs.any fun p => decide (p.1 = k)) = true → (((kKeys G kvs).zip vs).any fun kv => decide (kv.1 = (Sum.inr (G.kS k) : Key))) = true
  | [], _, _, h => by cases h
  | p :: kvs, [], hl, _ => by cases hl
  | p :: kvs, v :: vs, hl, h => by
    show (decide ((Sum.inr (G.kS p.1) : Key) = Sum.inr (G.kS k)) || ((kKeys G kvs).zip vs).any _) = true
    rw [List.any_cons, Bool.or_eq_true] at h
    rw [Bool.or_eq_true]
    rcases h with h | h
    · have h := of_decide_eq_true h
      exact .inl (decide_eq_true (by rw [h]))
    · exact .inr (any_keys (by simpa using hl) h)
theorem kKeys_map {k : Nat} {d : D} (kvs : List (Nat × D)) : kKeys G (kvs.map fun p => if p.1 = k then (p.1, d) else p) = kKeys G kvs := by
  unfold kKeys
  rw [List.map_map, List.map_map, List.map_map]
  apply List.map_congr_left
  intro p _
  by_cases q : p.1 = k
  · simp [q]
  · simp [q]
/-- a key of an own dict is stored -/
theorem stk_ok (ko : KeysOk G) (w : Wld G B H σ ρ S) {k : Nat} {v : V} {d : D} (rv : Rep G B v d) {r : R Flow'} (h : stkM i k d ρ S = r) (hr : r ≠ .bad) : ∃ (p : Addr) (ρ' : Rho) (H' : Hp), r = .ok .nx ρ' S ∧ σ[i]? = some (some (V.ref p)) ∧ DPut H p (kV (Sum.inr (G.kS k))) v H' ∧ Wld G B H' σ ρ' S ∧ Stp G B H σ ρ B H' σ ρ' := by
  unfold stkM at h
  split at h
  · rename_i kvs hx
    split at h
    · rename_i q
      obtain ⟨p, ks, vs, e1, nB, nP, hh, eks, rr⟩ := w.owd hx
      have lv := rr.length
      rw [List.length_map] at lv
      obtain ⟨vs', m1, m2⟩ := put_map ko rv rr
      have hk : ks = kKeys G kvs := eks
      subst hk
      have hz : ((kKeys G kvs).zip vs).length < sizeLine := by
        have l1 : ((kKeys G kvs).zip vs).length ≤ vs.length := by rw [List.length_zip]; exact Nat.min_le_right _ _
        have := sizeL (n := 1000) (by omega)
        omega
      have put := DPut.k (k := Sum.inr (G.kS k)) (v := v) hh hz
      have e2 : putK ((kKeys G kvs).zip vs) (Sum.inr (G.kS k)) v = (kKeys G kvs).zip vs' := by
        unfold putK
        rw [if_pos (any_keys (by omega) q.1), m1]
      rw [e2] at put
      have lv' := m2.length
      obtain ⟨w2, st2⟩ := w.wr (sv' := .od (kvs.map fun p => if p.1 = k then (p.1, d) else p)) (o := .dK ((kKeys G kvs).zip vs')) hx rfl e1 rfl ⟨p, kKeys G kvs, vs', rfl, nB, nP, upd_same, (kKeys_map kvs).symm, m2⟩
      exact ⟨p, _, _, h.symm, e1, put, w2, st2⟩
    · exact absurd h.symm hr
  · exact absurd h.symm hr
theorem s_stk (ko : KeysOk G) (hu : X.A.units + 1 < cLine) {k j : Nat} {pt : Pos} (l : VarOk X x i) (he : PE X e (LE G E fe)) (hs : swapsWithSole [.Subscript (.Name x p1) (.Constant (.str (G.kS k)) j p2) pt] e pos.line X.env = pure false) (hw : swappedStores [.Subscript (.Name x p1) (.Constant (.str (G.kS k)) j p2) pt] e X.env = pure none) :
    PS X (.Assign [.Subscript (.Name x p1) (.Constant (.str (G.kS k)) j p2) pt] e pos) (LS G E (M.bnd fe fun y => fun ρ S => stkM i k y.d ρ S)) := by
  refine weakSS (ps_asg (frzE he) (pg_sub (pe_var l.at_ l.vis l.db l.cd) pe_str (set_dict hu) (fun _ => rfl)) hs hw rfl) fun D_ σ B H ρ S w p => ?_
  refine PostS.bndK (rel := rD G) w p fun v y B1 H1 ρ1 S1 st w1 r1 p1 => ?_
  have r1 : Rep G B1 v y.d := r1
  have nb : stkM i k y.d ρ1 S1 ≠ .bad := fun z => by rw [z] at p1; exact p1
  obtain ⟨q, ρ', H', e1, e2, put, w2, st2⟩ := stk_ok ko w1 r1 rfl nb
  rw [e1] at p1
  exact ⟨_, e2, q, H', rfl, put, p1.nx (st.trans st2) w2⟩
/-! ### several keys at once -/
inductive KeyTs (G : Glo) (x : Str) : List Expr → List Nat → Prop
  | nil : KeyTs G x [] []
  | cons {k j : Nat} {p p2 pt : Pos} {ts : List Expr} {is : List Nat} : KeyTs G x ts is → KeyTs G x (.Subscript (.Name x p) (.Constant (.str (G.kS k)) j p2) pt :: ts) (k :: is)
def LKs (G : Glo) (i : Nat) (ks : List Nat) : TGs := fun xs σ H K => ∃ (B : Hp) (ρ : Rho) (S : PenSt) (ds : List D) (ρ' : Rho), Wld G B H σ ρ S ∧ Reps G B xs ds ∧ stksM i ks ds ρ S = .ok .nx ρ' S ∧
  ∀ H', Wld G B H' σ ρ' S → Stp G B H σ ρ B H' σ ρ' → K σ H'
theorem gks_ok (ko : KeysOk G) (hu : X.A.units + 1 < cLine) (l : VarOk X x i) {ts : List Expr} {is : List Nat} (h : KeyTs G x ts is) : PGs X ts (LKs G i is) ∧ (assignEach ts X.env).length = is.length ∧ (assignEach ts X.env).findIdx? (·.1) = none := by
  induction h with
  | nil =>
    refine ⟨weakGs pgs_nil fun xs σ H K ⟨B, ρ, S, ds, ρ', w, r, e, k⟩ => ?_, rfl, rfl⟩
    cases r with
    | nil =>
      cases e
      exact ⟨rfl, k H w (Stp.refl w)⟩
    | cons => cases e
  | @cons k j p p2 pt ts is _ ih =>
    obtain ⟨q1, q2, q3⟩ := ih
    refine ⟨weakGs (pgs_cons (pg_sub (pe_var l.at_ l.vis l.db l.cd) pe_str (set_dict hu) (fun _ => rfl)) q1 rfl) fun xs σ H K ⟨B, ρ, S, ds, ρ', w, r, e, kk⟩ => ?_, ?_, ?_⟩
    · cases r with
      | nil => cases e
      | @cons v vs d ds r rr =>
        have e : M.bnd (stkM i k d) (fun _ => stksM i is ds) ρ S = .ok .nx ρ' S := e
        have nb : stkM i k d ρ S ≠ .bad := fun z => by
          unfold M.bnd at e
          rw [z] at e
          cases e
        obtain ⟨a, ρ1, H1, e1, e2, put, w1, st1⟩ := stk_ok ko w r rfl nb
        unfold M.bnd at e
        rw [e1] at e
        exact ⟨v, vs, rfl, _, e2, a, H1, rfl, put, B, ρ1, S, ds, ρ', w1, rr, e, fun H' w' st' => kk H' w' (st1.trans st')⟩
    · show _ + 1 = _ + 1
      rw [q2]
    · show List.findIdx? _ ((false, _) :: assignEach ts X.env) = none
      rw [List.findIdx?_cons]
      simp only [Bool.false_eq_true, if_false, q3]
      rfl
theorem stksM_end : ∀ (ks : List Nat) (ds : List D) {ρ : Rho} {S : PenSt} {r : R Flow'}, stksM i ks ds ρ S = r → r = .bad ∨ ∃ ρ', r = .ok .nx ρ' S
  | [], [], ρ, S, r, h => .inr ⟨ρ, h.symm⟩
  | [], _ :: _, _, _, _, h => .inl h.symm
  | _ :: _, [], _, _, _, h => .inl h.symm
  | k :: ks, d :: ds, ρ, S, r, h => by
    have h : M.bnd (stkM i k d) (fun _ => stksM i ks ds) ρ S = r := h
    have one : stkM i k d ρ S = .bad ∨ ∃ ρ1, stkM i k d ρ S = .ok .nx ρ1 S := by
      unfold stkM
      split
      · split
        · exact .inr ⟨_, rfl⟩
        · exact .inl rfl
      · exact .inl rfl
    unfold M.bnd at h
    rcases one with e | ⟨ρ1, e⟩
    · rw [e] at h
      exact .inl h.symm
    · rw [e] at h
      exact stksM_end ks ds h
theorem stksM_len : ∀ (ks : List Nat) (ds : List D) {ρ ρ' : Rho} {S S' : PenSt} {f : Flow'}, stksM i ks ds ρ S = .ok f ρ' S' → ks.length = ds.length
  | [], [], _, _, _, _, _, _ => rfl
  | [], _ :: _, _, _, _, _, _, h => by cases h
  | _ :: _, [], _, _, _, _, _, h => by cases h
  | k :: ks, d :: ds, ρ, ρ', S, S', f, h => by
    have h : M.bnd (stkM i k d) (fun _ => stksM i ks ds) ρ S = .ok f ρ' S' := h
    unfold M.bnd at h
    split at h
    · rw [List.length_cons, List.length_cons, stksM_len ks ds h]
    · cases h
    · cases h
theorem s_stks (hK : X.K = G.K) (hc : X.calm = true) (ko : KeysOk G) (hu : X.A.units + 1 < cLine) (l : VarOk X x i) {ts es : List Expr} {is : List Nat} {ies : List IE} {k k2 : Nat} {p p2 : Pos} (h : KeyTs G x ts is) (he : PA X es (LDs G E (evEs ies))) (hlen : ies.length ≤ 100000)
    (hw : swappedStores [.Tuple ts k p] (.Tuple es k2 p2) X.env = pure none) : PS X (.Assign [.Tuple ts k p] (.Tuple es k2 p2) pos) (LS G E (M.bnd (evEs ies) fun svs => stksM i is (svs.map SV.d))) := by
  obtain ⟨q1, q2, q3⟩ := gks_ok (X := X) ko hu l h
  refine weakSS (ps_asg (frzE (d_tup he hlen)) (pg_tup hc q1 q2 q3) rfl hw rfl) fun D_ σ B H ρ S w p => ?_
  have p' : PostS G E σ B H ρ (M.bnd (M.bnd (evEs ies) fun svs => M.ret (SV.im (.tup (svs.map SV.d)))) (fun sv => match sv.d with
    | .tup ds => stksM i is ds
    | _ => M.bad) ρ S) D_ := by
    have e : M.bnd (M.bnd (evEs ies) fun svs => M.ret (SV.im (.tup (svs.map SV.d)))) (fun sv => match sv.d with
      | .tup ds => stksM i is ds
      | _ => M.bad) ρ S = M.bnd (evEs ies) (fun svs => stksM i is (svs.map SV.d)) ρ S := by
      unfold M.bnd M.ret
      cases evEs ies ρ S <;> rfl
    rw [e]
    exact p
  refine PostS.bndK (rel := rD G) w p' fun v sv B1 H1 ρ1 S1 st w1 r1 p1 => ?_
  have r1 : Rep G B1 v sv.d := r1
  cases hd : sv.d with
  | tup ds =>
    rw [hd] at r1
    cases r1 with
    | tup s r =>
      have p1 : PostS G E σ B H ρ (stksM i is ds ρ1 S1) D_ := by
        have p1 := p1
        simp only [hd] at p1
        exact p1
      rcases stksM_end is ds (ρ := ρ1) (S := S1) rfl with e | ⟨ρ', e⟩
      · rw [e] at p1; exact p1.elim
      · rw [e] at p1
        exact ⟨_, _, rfl, hK ▸ ex_t w1.sub s, by rw [r.length, ← stksM_len is ds e], B1, ρ1, S1, ds, ρ', w1, r, e, fun H' w' st' => p1.nx (st.trans st') w'⟩
  | _ =>
    simp only [hd] at p1
    exact p1.elim
end
end Pd
set_option Elab.async false
set_option linter.all false
set_option maxRecDepth 100000
set_option maxHeartbeats 4000000
namespace Pd
open PySem L2 Evl PyProof.Rows PySem.Spec
/-! ### an own dict, lent to a call -/
def dl (B : Hp) (p : Addr) : Hp := fun b => if b = p then none else B b
theorem dl_ne {B : Hp} {p b : Addr} (h : b ≠ p) : dl B p b = B b := if_neg h
theorem dl_same {B : Hp} {p : Addr} : dl B p p = none := if_pos rfl
theorem dl_ex {B : Hp} {p : Addr} : Ex (dl B p) B := fun b o h => by
  by_cases q : b = p
  · rw [q, dl_same] at h; cases h
  · rwa [dl_ne q] at h
section
variable {G : Glo} {B : Hp} {p : Addr} {l : List (Key × V)}
mutual
theorem Rep.del (hp : B p = some (.dK l)) : ∀ {v : V} {d : D}, Rep G B v d → d.plain = true → Rep G (dl B p) v d
  | _, _, .non, _ => .non
  | _, _, .bl b, _ => .bl b
  | _, _, .int i, _ => .int i
  | _, _, .str x, _ => .str x
  | _, _, .tup (a := a) s r, h => by
    refine .tup ?_ (Reps.del hp r h)
    rcases s with (s | ⟨o, s⟩) | s
    · exact .inl (.inl (by rw [dl_ne (fun e => by rw [e, hp] at s; cases s)]; exact s))
    · exact .inl (.inr ⟨o, by rw [dl_ne (fun e => by rw [e, hp] at s; cases s)]; exact s⟩)
    · exact .inr s
  | _, _, .lst s r, h => .lst (by rw [dl_ne (fun e => by rw [e, hp] at s; cases s)]; exact s) (Reps.del hp r h)
  | _, _, .dct .., h => by cases h
  | _, _, .ins t s k v r, h => .ins t (by rw [dl_ne (fun e => by rw [e, hp] at s; cases s)]; exact s) k v (Reps.del hp r h)
  | _, _, .pen, _ => .pen
  | _, _, .fn k, _ => .fn k
theorem Reps.del (hp : B p = some (.dK l)) : ∀ {vs : List V} {ds : List D}, Reps G B vs ds → D.plains ds = true → Reps G (dl B p) vs ds
  | _, _, .nil, _ => .nil
  | _, _, .cons r rr, h => by
    unfold D.plains at h
    rw [Bool.and_eq_true] at h
    exact .cons (Rep.del hp r h.1) (Reps.del hp rr h.2)
end
theorem plainBut_at : ∀ {i : Nat} {ρ : Rho} {j : Nat} {o : Option SV}, plainBut i ρ = true → j ≠ i → ρ[j]? = some o → SV.plain o = true
  | _, [], _, _, _, _, h => by simp at h
  | 0, _ :: ρ, 0, _, _, hj, _ => absurd rfl hj
  | 0, _ :: ρ, j + 1, o, h, _, e => by
    have e : ρ[j]? = some o := by simpa using e
    exact List.all_eq_true.mp h o (List.mem_of_getElem? e)
  | i + 1, a :: ρ, 0, o, h, _, e => by
    unfold plainBut at h
    rw [Bool.and_eq_true] at h
    cases e
    exact h.1
  | i + 1, a :: ρ, j + 1, o, h, hj, e => by
    unfold plainBut at h
    rw [Bool.and_eq_true] at h
    exact plainBut_at (i := i) (j := j) h.2 (fun z => hj (congrArg (· + 1) z)) (by simpa using e)
theorem plains_ints : ∀ is : List Int, D.plains (is.map .int) = true
  | [] => rfl
  | _ :: is => plains_ints is
end
section
variable {X : Cx} {G : Glo} {E : XK} {e : Expr} {f : M SV}
theorem d_unf {i : Nat} (h : PE X e (LE G E f)) : PE X e (LE G E (unfM i f)) := by
  refine weakE h fun σ H Q ⟨B, ρ, S, w, p⟩ => ⟨B, ρ, S, w, ?_⟩
  unfold unfM at p
  split at p
  · rename_i kvs0 hx
    obtain ⟨q, ks, vs, e1, nB, nP, hh, eks, rr⟩ := w.owd hx
    cases ef : f ρ S with
    | bad => rw [ef] at p; exact p.elim
    | exc c fs S' => rw [ef] at p; exact p.elim
    | ok sv ρ' S' =>
      rw [ef] at p
      dsimp only at p
      split at p
      · rename_i kvs hx'
        split at p
        · rename_i pl
          rw [Bool.and_eq_true, Bool.and_eq_true] at pl
          obtain ⟨⟨pl1, pl2⟩, pl3⟩ := pl
          intro v B' H' st w' r
          obtain ⟨B2, w2, st2, r2⟩ := w'.freezeT r.1 r.2
          have st3 := st2 st
          have own : Own σ ρ q := ⟨i, _, hx, rfl, e1⟩
          obtain ⟨v0, e2, r0⟩ := w2.sl i _ hx'
          rw [e1] at e2
          cases e2
          have r0 : Rep G B2 (V.ref q) (.dct kvs) := r0
          obtain ⟨l, us, hq, hks, hus, rus⟩ : ∃ (l : List (Key × V)) (us : List V), B2 q = some (.dK l) ∧ l.map (·.1) = (kvs.map (·.1)).map (fun k => Sum.inr (G.kS k)) ∧ l.map (·.2) = us ∧ Reps G B2 us (kvs.map (·.2)) := by
            generalize e : D.dct kvs = d0 at r0
            cases r0 with
            | dct a b c d ll =>
              cases e
              refine ⟨_, _, a, ?_, c, ?_⟩
              · rw [b, Reps.fst ll]
              · rw [← List.unzip_snd, List.unzip_zip_right (by omega)]
                exact d
            | _ => cases e
          have hi : i < ρ'.length := (List.getElem?_eq_some_iff.mp hx').1
          have lu : (l.map (·.1)).zip us = l := by rw [← hus, ← List.unzip_fst, ← List.unzip_snd, List.zip_unzip]
          have newS : RSV G (dl B2 q) H' (V.ref q) (.od kvs) := ⟨q, l.map (·.1), us, rfl, dl_same, nP, by rw [lu]; exact w2.sub _ _ hq, hks, rus.del hq pl3⟩
          have oldS : ∀ {j : Nat} {y : SV} {u : V}, j ≠ i → ρ'[j]? = some (some y) → RSV G B2 H' u y → RSV G (dl B2 q) H' u y := fun {j y u} hj hy ry => by
            have pj := plainBut_at pl2 hj hy
            cases y with
            | im d => exact Rep.del hq ry pj
            | ow xs =>
              obtain ⟨a, ws, e3, b, n, h3, r3⟩ := ry
              exact ⟨a, ws, e3, fresh_back dl_ex b, n, h3, Reps.del hq r3 pj⟩
            | od ys =>
              obtain ⟨a, k3, ws, e3, b, n, h3, k4, r3⟩ := ry
              exact ⟨a, k3, ws, e3, fresh_back dl_ex b, n, h3, k4, Reps.del hq r3 pj⟩
          have pB3 : dl B2 q G.P = none := fresh_back dl_ex w2.pB
          have w3 : Wld G (dl B2 q) H' σ (ρ'.set i (some (.od kvs))) S' := by
            refine ⟨dl_ex.trans w2.sub, pB3, ?_, by rw [List.length_set]; exact w2.len, fun j y hy => ?_, fun j k a b t hj hk ha hb sj sk => ?_⟩
            · obtain ⟨L, h1, h2, h3⟩ := w2.pen
              exact ⟨L, h1, Rep.del hq h2 (plains_ints _), h3⟩
            · by_cases z : i = j
              · subst z
                rw [List.getElem?_set_self hi] at hy
                cases hy
                exact ⟨_, e1, newS⟩
              · rw [List.getElem?_set_ne z] at hy
                obtain ⟨u, e3, r3⟩ := w2.sl j y hy
                exact ⟨u, e3, oldS (fun e => z e.symm) hy r3⟩
            · have no : ∀ {j : Nat} {a : SV}, ρ'[j]? = some (some a) → a.isOwn = true → σ[j]? = some (some (V.ref q)) → False := fun {j a} hj ha sj => by
                have := (w2.own_ne ⟨j, a, hj, ha, sj⟩).2
                rw [hq] at this
                cases this
              by_cases z : i = j
              · by_cases z2 : i = k
                · rw [← z, ← z2]
                · exfalso
                  subst z
                  rw [e1] at sj
                  cases sj
                  rw [List.getElem?_set_ne z2] at hk
                  exact no hk hb sk
              · rw [List.getElem?_set_ne z] at hj
                by_cases z2 : i = k
                · exfalso
                  subst z2
                  rw [e1] at sk
                  cases sk
                  exact no hj ha sj
                · rw [List.getElem?_set_ne z2] at hk
                  exact w2.ap j k a b t hj hk ha hb sj sk
          refine p v (dl B2 q) H' ⟨fun a o h => ?_, st3.h, fun a o h n => st3.n a o (dl_ex _ _ h) n, pB3, st3.t, fun a ⟨j, y, h1, h2, h3⟩ => ?_⟩ w3 ⟨Rep.del hq r2 pl1, fun z => by cases z⟩
          · rw [dl_ne (fun e => by rw [e, nB] at h; cases h)]
            exact st3.b _ _ h
          · by_cases z : i = j
            · subst z
              rw [e1] at h3
              cases h3
              exact ⟨nP, .inl own⟩
            · rw [List.getElem?_set_ne z] at h1
              exact st3.o a ⟨j, y, h1, h2, h3⟩
        · exact p.elim
      · exact p.elim
  · exact p.elim
end
end Pd
set_option Elab.async false
set_option linter.all false
set_option maxRecDepth 100000
set_option maxHeartbeats 4000000
namespace Pd
open PySem L2 Evl PyProof.Rows PySem.Spec
/-! ### the source of numbers -/
def penKeys : List Str := ["cells", "at", "digits", "count", "fold"]
theorem kne {a b : Str} (h : decide (a = b) = false) : ¬ (Sum.inr a : Key) = Sum.inr b := fun z => of_decide_eq_false h (Sum.inr.inj z)
def penL (L : Addr) (S : PenSt) : List (Key × V) := [(.inr "cells", .ref L), (.inr "at", .int S.at_), (.inr "digits", .int S.digits), (.inr "count", .int S.count), (.inr "fold", .int S.fold)]
section
variable {X : Cx} {G : Glo} {E : XK} {B H : Hp} {σ : L2.St} {ρ : Rho} {S S' : PenSt} {D_ : Ends} {e : Expr} {fe : M SV} {pos p1 p2 p3 p4 : Pos} {i k : Nat} {x s : Str}
theorem Wld.penW (w : Wld G B H σ ρ S) {o : HO} (pe : PenAt G B (upd H G.P o) S') : Wld G B (upd H G.P o) σ ρ S' ∧ Stp G B H σ ρ B (upd H G.P o) σ ρ := by
  refine ⟨⟨fun a u h => ?_, w.pB, pe, w.len, fun j y hy => ?_, w.ap⟩, ⟨Ex.refl B, fun a u h hp _ => by rw [upd_ne hp]; exact h, fun a u h n => (by rw [n] at h; cases h), w.pB, fun a h => ?_, fun a q => ⟨(w.own_ne q).1, .inl q⟩⟩⟩
  · rw [upd_ne (fun z => by rw [z, w.pB] at h; cases h)]
    exact w.sub _ _ h
  · obtain ⟨v, e, r⟩ := w.sl j y hy
    refine ⟨v, e, r.stay (Ex.refl B) fun q hq hs => ?_⟩
    obtain ⟨q', u, e', b, n, hh⟩ := r.at hs
    rw [hq] at e'
    cases e'
    exact ⟨b, fun o ho => by rw [upd_ne n]; exact ho⟩
  · by_cases z : a = G.P
    · rw [z, upd_same] at h; cases h
    · rwa [upd_ne z] at h
theorem d_pget (hu : X.A.units + 1 < cLine) (l : VarOk X x i) (hk : penKeys[k]? = some s) {j : Nat} : PE X (.Subscript (.Name x p1) (.Constant (.str s) j p2) pos) (LE G E (pgetM i k)) := by
  refine weakE (pe_dget hu (pe_var l.at_ l.vis l.db l.cd) pe_str (fun _ _ => rfl)) fun σ H Q ⟨B, ρ, S, w, p⟩ => ?_
  unfold pgetM at p
  split at p
  · rename_i hx
    obtain ⟨v, e1, r⟩ := w.sl i _ hx
    have r : Rep G B v .pen := r
    cases r
    obtain ⟨L, h1, h2, h3⟩ := w.pen
    have z := DGet.k (k := Sum.inr s) h1
    refine ⟨_, e1, ?_⟩
    split at p
    · rename_i d hd
      have key : ∃ u, valV (penL L S) (Sum.inr s) = some u ∧ Rep G B u d := by
        match k, hk, hd with
        | 0, hk, hd => cases hk; cases hd; exact ⟨_, valV_pos rfl, h2⟩
        | 1, hk, hd => cases hk; cases hd; exact ⟨_, (valV_neg (kne (by decide +kernel))).trans (valV_pos rfl), .int _⟩
        | 2, hk, hd => cases hk; cases hd; exact ⟨_, (valV_neg (kne (by decide +kernel))).trans ((valV_neg (kne (by decide +kernel))).trans (valV_pos rfl)), .int _⟩
        | 3, hk, hd => cases hk; cases hd; exact ⟨_, (valV_neg (kne (by decide +kernel))).trans ((valV_neg (kne (by decide +kernel))).trans ((valV_neg (kne (by decide +kernel))).trans (valV_pos rfl))), .int _⟩
        | 4, hk, hd => cases hk; cases hd; exact ⟨_, (valV_neg (kne (by decide +kernel))).trans ((valV_neg (kne (by decide +kernel))).trans ((valV_neg (kne (by decide +kernel))).trans ((valV_neg (kne (by decide +kernel))).trans (valV_pos rfl)))), .int _⟩
        | _ + 5, _, hd => cases hd
      obtain ⟨u, e2, r2⟩ := key
      have e2 : valV [(Sum.inr (Str.ofString "cells"), V.ref L), (Sum.inr (Str.ofString "at"), V.int S.at_), (Sum.inr (Str.ofString "digits"), V.int S.digits), (Sum.inr (Str.ofString "count"), V.int S.count), (Sum.inr (Str.ofString "fold"), V.int S.fold)] (Sum.inr s : Key) = some u := e2
      rw [e2] at z
      exact ⟨_, u, rfl, z, p _ B H (Stp.refl w) w ⟨r2, fun h => by cases h⟩⟩
    · exact p.elim
  · exact p.elim
theorem pen_put {L : Addr} {j : Int} (hk : penKeys[k]? = some s) (hs : penSet S k j = some S') : putK (penL L S) (Sum.inr s : Key) (V.int j) = penL L S' ∧ S'.cells = S.cells ∧ (0 ≤ S.digits → 0 ≤ S'.digits) := by
  have n1 : decide (("cells" : Str) = "at") = false := by decide +kernel
  have n2 : decide (("cells" : Str) = "digits") = false := by decide +kernel
  have n3 : decide (("cells" : Str) = "count") = false := by decide +kernel
  have n4 : decide (("cells" : Str) = "fold") = false := by decide +kernel
  have n5 : decide (("at" : Str) = "digits") = false := by decide +kernel
  have n6 : decide (("at" : Str) = "count") = false := by decide +kernel
  have n7 : decide (("at" : Str) = "fold") = false := by decide +kernel
  have n8 : decide (("digits" : Str) = "count") = false := by decide +kernel
  have n9 : decide (("digits" : Str) = "fold") = false := by decide +kernel
  have n10 : decide (("count" : Str) = "fold") = false := by decide +kernel
  have n1 := of_decide_eq_false n1
  have n2 := of_decide_eq_false n2
  have n3 := of_decide_eq_false n3
  have n4 := of_decide_eq_false n4
  have n5 := of_decide_eq_false n5
  have n6 := of_decide_eq_false n6
  have n7 := of_decide_eq_false n7
  have n8 := of_decide_eq_false n8
  have n9 := of_decide_eq_false n9
  have n10 := of_decide_eq_false n10
  have m1 := Ne.symm n1
  have m5 := Ne.symm n5
  have m6 := Ne.symm n6
  have m7 := Ne.symm n7
  have m8 := Ne.symm n8
  have m9 := Ne.symm n9
  have m10 := Ne.symm n10
  match k, hk, hs with
  | 0, _, hs => cases hs
  | 1, hk, hs =>
    have hk := Option.some.inj hk
    subst hk
    have hs : (if 0 ≤ j then some { S with at_ := j.toNat } else none) = some S' := hs
    by_cases q : 0 ≤ j
    · rw [if_pos q] at hs
      cases hs
      have : ((j.toNat : Nat) : Int) = j := by omega
      exact ⟨by simp [penL, putK, this, n1, m5, m6, m7], rfl, id⟩
    · rw [if_neg q] at hs
      cases hs
  | 2, hk, hs =>
    have hk := Option.some.inj hk
    subst hk
    have hs : (if 0 ≤ j then some { S with digits := j } else none) = some S' := hs
    by_cases q : 0 ≤ j
    · rw [if_pos q] at hs
      cases hs
      exact ⟨by simp [penL, putK, n2, n5, m8, m9], rfl, fun _ => q⟩
    · rw [if_neg q] at hs
      cases hs
  | 3, hk, hs =>
    have hk := Option.some.inj hk
    subst hk
    have hs : (if 0 ≤ j then some { S with count := j.toNat } else none) = some S' := hs
    by_cases q : 0 ≤ j
    · rw [if_pos q] at hs
      cases hs
      have : ((j.toNat : Nat) : Int) = j := by omega
      exact ⟨by simp [penL, putK, this, n3, n6, n8, m10], rfl, id⟩
    · rw [if_neg q] at hs
      cases hs
  | 4, hk, hs =>
    have hk := Option.some.inj hk
    subst hk
    cases hs
    exact ⟨by simp [penL, putK, n4, n7, n9, n10], rfl, id⟩
  | _ + 5, _, hs => cases hs
theorem s_pset (hu : X.A.units + 1 < cLine) (l : VarOk X x i) (hk : penKeys[k]? = some s) {j : Nat} {pt : Pos} (he : PE X e (LE G E fe)) (hs : swapsWithSole [.Subscript (.Name x p1) (.Constant (.str s) j p2) pt] e pos.line X.env = pure false) (hw : swappedStores [.Subscript (.Name x p1) (.Constant (.str s) j p2) pt] e X.env = pure none) :
    PS X (.Assign [.Subscript (.Name x p1) (.Constant (.str s) j p2) pt] e pos) (LS G E (M.bnd fe fun y => psetM i k y.d)) := by
  refine weakSS (ps_asg (frzE he) (pg_sub (pe_var l.at_ l.vis l.db l.cd) pe_str (set_dict hu) (fun _ => rfl)) hs hw rfl) fun D_ σ B H ρ S w p => ?_
  refine PostS.bndK (rel := rD G) w p fun v y B1 H1 ρ1 S1 st w1 r1 p1 => ?_
  have r1 : Rep G B1 v y.d := r1
  have p1 := p1
  generalize y.d = d at r1 p1
  unfold psetM at p1
  split at p1
  · rename_i j' hx
    cases r1
    obtain ⟨v0, e1, r⟩ := w1.sl i _ hx
    have r : Rep G B1 v0 .pen := r
    cases r
    split at p1
    · rename_i S' hS
      obtain ⟨L, h1, h2, h3⟩ := w1.pen
      have h1 : H1 G.P = some (.dK (penL L S1)) := h1
      obtain ⟨q1, q2, q3⟩ := pen_put (L := L) hk hS
      have put := DPut.k (k := Sum.inr s) (v := V.int j') h1 (Nat.lt_of_lt_of_le (show 5 < 1000000 by decide) (sizeL (Nat.le_refl _)))
      rw [q1] at put
      obtain ⟨w2, st2⟩ := w1.penW (o := .dK (penL L S')) (S' := S') ⟨L, upd_same, by rw [q2]; exact h2, q3 h3⟩
      exact ⟨_, e1, G.P, _, rfl, put, p1.nx (st.trans st2) w2⟩
    · exact p1.elim
  · exact p1.elim
end
end Pd
set_option Elab.async false
set_option linter.all false
set_option maxRecDepth 100000
set_option maxHeartbeats 4000000
namespace Pd
open PySem L2 Evl PyProof.Rows PySem.Spec
def pF (F : List D → Option SV) : DFun := fun ds S => match F ds with
  | some sv => .ok sv S
  | none => .bad
theorem reps_ints (G : Glo) (B : Hp) : ∀ l : List Int, Reps G B (l.map V.int) (l.map D.int)
  | [] => .nil
  | z :: l => .cons (.int z) (reps_ints G B l)
/-! ### set(t), t a tuple of ints -/
def rSetT (K : PySem.W.Frag) (w : World) : List V → Hp → VK → Prop := fun vs H Q => ∃ (p : Addr) (ns : List Int), vs = [.ref p] ∧ SqT K H p (ns.map V.int) ∧ ns.length ≤ 1000 ∧ ∀ (a : Addr) (n : Nat), H a = none → n ≤ ns.length → Q (.ref a) (upd H a (SetO w a (fun j => decide (j ∈ ns)) n))
theorem cr_setT {X : Cx} (hc : X.calm = true) : CallR X (.type "set") (rSetT X.K X.w) := by
  intro pins s σ H vs us Q I r h
  obtain ⟨p0, ns, rfl, hq, hl, q⟩ := h
  rw [Vals.ref1 r]
  obtain ⟨its, rv, pt, hz⟩ := I.tuple hq
  have hi : IntsAre its.toArray.toList ns := ints_of_vals rv
  refine call_set_tupI ns (I.ok.hd hc) (show s.heap.IsTuple p0 its.toArray from pt) hi (by unfold scanBound; omega) fun h' tk c R1 hcn k => ?_
  exact ⟨.ref _, _, I.laid (t' := tk) k (Nat.le_refl _) (setO_new R1), rfl, q _ c (I.hok.fresh (Nat.le_refl _)) hcn⟩
/-! ### the members in their order -/
def insI (k : Int) : List Int → List Int
  | [] => [k]
  | x :: xs => if k < x then k :: x :: xs else if k = x then x :: xs else x :: insI k xs
def srtI : List Int → List Int
  | [] => []
  | x :: xs => insI x (srtI xs)
theorem insI_mem (k j : Int) : ∀ l : List Int, j ∈ insI k l ↔ j = k ∨ j ∈ l
  | [] => by simp [insI]
  | x :: xs => by
    unfold insI
    split
    · simp
    · split
      · rename_i e
        subst e
        simp
      · rw [List.mem_cons, insI_mem k j xs, List.mem_cons]
        constructor
        · rintro (h | h | h) <;> simp [h]
        · rintro (h | h | h) <;> simp [h]
theorem insI_srt (k : Int) : ∀ l : List Int, l.Pairwise (· < ·) → (insI k l).Pairwise (· < ·)
  | [], _ => by simp [insI]
  | x :: xs, h => by
    have h' := List.pairwise_cons.mp h
    unfold insI
    split
    · rename_i q
      exact List.pairwise_cons.mpr ⟨fun a ha => by
        rcases List.mem_cons.mp ha with e | e
        · rw [e]; exact q
        · exact Int.lt_trans q (h'.1 a e), h⟩
    · split
      · exact h
      · rename_i q1 q2
        refine List.pairwise_cons.mpr ⟨fun a ha => ?_, insI_srt k xs h'.2⟩
        rcases (insI_mem k a xs).mp ha with e | e
        · omega
        · exact h'.1 a e
theorem srtI_srt : ∀ l : List Int, (srtI l).Pairwise (· < ·)
  | [] => .nil
  | x :: xs => insI_srt x _ (srtI_srt xs)
theorem srtI_mem (j : Int) : ∀ l : List Int, j ∈ srtI l ↔ j ∈ l
  | [] => by simp [srtI]
  | x :: xs => by rw [srtI, insI_mem, srtI_mem j xs, List.mem_cons]
theorem srt_uniq : ∀ {a b : List Int}, a.Pairwise (· < ·) → b.Pairwise (· < ·) → (∀ j, j ∈ a ↔ j ∈ b) → a = b
  | [], [], _, _, _ => rfl
  | [], y :: ys, _, _, h => absurd ((h y).mpr (List.mem_cons_self ..)) (by simp)
  | x :: xs, [], _, _, h => absurd ((h x).mp (List.mem_cons_self ..)) (by simp)
  | x :: xs, y :: ys, ha, hb, h => by
    have ha' := List.pairwise_cons.mp ha
    have hb' := List.pairwise_cons.mp hb
    have e : x = y := by
      rcases List.mem_cons.mp ((h x).mp (List.mem_cons_self ..)) with q | q
      · exact q
      · rcases List.mem_cons.mp ((h y).mpr (List.mem_cons_self ..)) with z | z
        · exact z.symm
        · have := hb'.1 x q
          have := ha'.1 y z
          omega
    subst e
    rw [srt_uniq ha'.2 hb'.2 fun j => ?_]
    have hj := h j
    rw [List.mem_cons, List.mem_cons] at hj
    constructor
    · intro q
      rcases hj.mp (.inr q) with z | z
      · have := ha'.1 j q; omega
      · exact z
    · intro q
      rcases hj.mpr (.inr q) with z | z
      · have := hb'.1 j q; omega
      · exact z
/-! ### tuple(sorted(set(e))), ints -/
def intsD : List D → Option (List Int)
  | [] => some []
  | .int i :: r => (intsD r).map (i :: ·)
  | _ :: _ => none
def fSrt : List D → Option SV
  | [.tup xs] => match intsD xs with
    | some ns => if ns.length < 64 then some (.im (.tup ((srtI ns).map .int))) else none
    | none => none
  | _ => none
theorem intsD_vals {G : Glo} {B : Hp} : ∀ {vs : List V} {ds : List D} {ns : List Int}, Reps G B vs ds → intsD ds = some ns → vs = ns.map V.int
  | [], [], _, _, e => by cases e; rfl
  | v :: vs, d :: ds, ns, r, e => by
    cases r with
    | cons r rr =>
      cases r with
      | int i =>
        simp only [intsD, Option.map_eq_some_iff] at e
        obtain ⟨l, e1, rfl⟩ := e
        rw [intsD_vals rr e1]
        rfl
      | _ => cases e
theorem d_srt {X : Cx} {G : Glo} {E : XK} {e : Expr} {f : M SV} {p1 p2 p3 q1 q2 q3 : Pos} (hc : X.calm = true) (hK : X.K = G.K) (he : PE X e (LE G E f)) (g1 : Gl X "tuple") (g2 : Gl X "sorted") (g3 : Gl X "set") (m1 : X.mg "tuple" = none) (m2 : X.mg "sorted" = none) (m3 : X.mg "set" = none)
    (s1 : starEach [e] X.env = (false, eval e X.env) :: starEach [] X.env) :
    PE X (.Call (.Name "tuple" p1) [.Call (.Name "sorted" p2) [.Call (.Name "set" p3) [e] [] q3] [] q2] [] q1) (LE G E (M.bnd f fun x => M.bnd (M.opt (fSrt [x.d])) M.ret)) := by
  refine weakE (pe_callTy call_tuple_of g1 m1 (by decide +kernel) (pa_cons (pe_callB (cr_sortedSet hc) g2 m2 (by decide +kernel) (pa_cons (pe_callTy (cr_setT hc) g3 m3 (by decide +kernel) (pa_cons (frzE he) pa_nil s1) (by decide) (by decide) s1) pa_nil)) pa_nil)) fun σ H Q ⟨B, ρ, S, w, p⟩ => ?_
  refine Post.bnd (rel := rD G) w p fun v x B1 H1 ρ1 S1 st w1 r p1 => ?_
  obtain ⟨sv, e1, p2⟩ := p1.optB
  have r : Rep G B1 v x.d := r
  generalize x.d = d at r e1
  cases r with
  | @tup a0 vs ds sq rr =>
    simp only [fSrt] at e1
    cases en : intsD ds with
    | none => rw [en] at e1; cases e1
    | some ns =>
      rw [en] at e1
      dsimp only at e1
      split at e1
      · rename_i hl
        cases e1
        have ev := intsD_vals rr en
        subst ev
        refine ⟨a0, ns, rfl, hK ▸ ex_t w1.sub sq, by omega, fun a n ha hn => ?_⟩
        refine ⟨a, _, n, rfl, upd_same, by omega, fun ns' p hs hm hlen hp => ?_⟩
        obtain ⟨w2, s2⟩ := w1.newO ha (SetO X.w a (fun j => decide (j ∈ ns)) n)
        obtain ⟨w3, s3⟩ := w2.newO hp (.lst (ns'.map V.int))
        refine ⟨p, ns'.map V.int, rfl, .inl ⟨SqL.of upd_same, fun t ht => ?_⟩⟩
        obtain ⟨w4, s4⟩ := w3.newB ht (.tup (ns'.map V.int))
        have en' : ns' = srtI ns := srt_uniq hs (srtI_srt ns) fun j => by rw [hm j, srtI_mem, decide_eq_true_eq]
        subst en'
        exact p2 _ _ _ (s2.trans (s3.trans s4)) w4 ⟨.tup (SqT.of upd_same) (reps_ints G _ _), fun h => by cases h⟩
      · cases e1
  | _ => cases e1
theorem srt_read {G : Glo} {E : XK} {y : IE} {σ : L2.St} {H : Hp} {Q : VK} (h : LE G E (evE (.call (pF fSrt) [y])) σ H Q) : LE G E (M.bnd (evE y) fun x => M.bnd (M.opt (fSrt [x.d])) M.ret) σ H Q := by
  have e : evE (.call (pF fSrt) [y]) = M.bnd (evE y) fun x => M.bnd (M.opt (fSrt [x.d])) M.ret := by
    funext ρ S
    show M.bnd (M.bnd (evE y) fun x => M.bnd (M.ret []) fun xs => M.ret (x :: xs)) (fun svs => callM (pF fSrt) (svs.map SV.d)) ρ S = _
    unfold M.bnd
    cases evE y ρ S with
    | ok x ρ1 S1 =>
      show callM (pF fSrt) [x.d] ρ1 S1 = _
      unfold callM pF
      dsimp only
      generalize fSrt [x.d] = z
      cases z <;> rfl
    | exc c fs S1 => rfl
    | bad => rfl
  rw [e] at h
  exact h
end Pd
set_option Elab.async false
set_option linter.all false
set_option maxRecDepth 100000
set_option maxHeartbeats 4000000
namespace Pd
open PySem L2 Evl PyProof.Rows PySem.Spec

/-! ### from the text to the small language -/
/-- what is known of a law's names -/
structure Tb where
  calls : List (Str × DFun)
  globs : List (Str × D)
  flds : List (Str × List (Nat × Nat))
  tys : List (Str × Ty)
  keys : List Str
  excs : List (Str × (Nat × Nat))
  ops : List ((Bool × Nat) × DFun) := []
/-- where the text stands -/
structure Cc where
  N : List Str
  sc : Scope
  ows : List Nat
  bor : List Nat
  co : Option Scope
  pen : List Nat
/-- the names that may be stored in cells -/
def cellB (c : Cc) (x : Str) : Bool := match c.co with
  | none => true
  | some s => s.names.lookup x == some .cell
structure Amb where
  P : Program
  w : World
  K : PySem.W.Frag
  mg : Str → Option Value
  base : Heap
  g : Bool
  k : Nat
structure Bs (A : Amb) (X : Cx) : Prop where
  prog : X.prog = A.P
  w : X.w = A.w
  K : X.K = A.K
  mg : X.mg = A.mg
  base : X.base = A.base
  room : Room A.k X.A
  gd : A.g = true → X.A.guards = some []
  calm : X.calm = true
def bltNames : List Str := ["range", "enumerate", "zip", "len", "isinstance", "list", "tuple", "sorted", "set"]
/-- raise C(e, ..) by its name -/
def RaiseOk (X : Cx) (G : Glo) (E : XK) (x : Str) (c n : Nat) : Prop := ∀ (p pos pos2 : Pos) (e : Expr) (es : List Expr) (fs : M (List SV)), PA X (e :: es) (LDs G E fs) → starEach (e :: es) X.env = (false, eval e X.env) :: starEach es X.env → (backTo pos (starEach es X.env)).any (·.1) = false →
  PS X (.Raise (some (.Call (.Name x p) (e :: es) [] pos)) none pos2) (LS G E (M.bnd fs fun svs => fun ρ S => if svs.length = n ∧ svs.length ≤ 10 then .exc c (svs.map SV.d).reverse S else .bad))
structure GF (A : Amb) (G : Glo) (T : Tb) : Prop where
  hK : A.K = G.K
  ko : KeysOk G
  keyAt : ∀ i k, T.keys[i]? = some k → G.kS i = k
  blt : ∀ x ∈ bltNames, A.mg x = none
  call : ∀ X E x F, Bs A X → TakesE X E → T.calls.lookup x = some F → Gl X x → CallOk X G E x F ∧ CallOk0 X G E x F
  exc : ∀ X E x c n, Bs A X → TakesE X E → T.excs.lookup x = some (c, n) → Gl X x → RaiseOk X G E x c n
  glob : ∀ x d, T.globs.lookup x = some d → ∃ v u, A.mg x = some u ∧ RelV v u ∧ ∀ B, Rep G B v d
  fld : ∀ f ps, T.flds.lookup f = some ps → AtrOk G f ps
  ty : ∀ X x t, Bs A X → T.tys.lookup x = some t → Gl X x → ∃ cv u, ∀ pos, TyOk X G t (.Name x pos) cv u
  rich : ∀ X E n c F, Bs A X → TakesE X E → T.ops.lookup (n, c) = some F → RichOk X G E n c F
structure At (A : Amb) (G : Glo) (T : Tb) (c : Cc) (E : XK) (X : Cx) : Prop where
  bs : Bs A X
  gf : GF A G T
  N : X.N = c.N
  nd : c.N.Nodup
  sc : X.env.scope = c.sc
  tk : TakesE X E
  fn : ∀ x, cellB c x = true → X.fn x = true
theorem takesF {X : Cx} : TakesE X XF := fun _ _ x => by
  obtain ⟨_, _, _, _, _, _, _, _, _, _, _, _, _, _, _, _, w⟩ := x
  exact w.elim
section
variable {A : Amb} {G : Glo} {T : Tb} {c : Cc} {E : XK} {X : Cx} {x : Str}
theorem At.hK (a : At A G T c E X) : X.K = G.K := a.bs.K.trans a.gf.hK
theorem At.un (a : At A G T c E X) : X.A.units + 64 < cLine := by have := a.bs.room.un; omega
theorem At.un1 (a : At A G T c E X) : X.A.units + 1 < cLine := by have := a.bs.room.un; omega
theorem At.blt (a : At A G T c E X) (h : x ∈ bltNames) : X.mg x = none := by rw [a.bs.mg]; exact a.gf.blt x h
def visB (sc : Scope) (x : Str) : Bool := match sc.names.lookup x with
  | some .local => true
  | some .cell => true
  | some .free => true
  | _ => false
def locB (c : Cc) (x : Str) : Bool := match c.sc.names.lookup x with
  | some .local => true
  | some .cell => cellB c x
  | _ => false
def plainB (sc : Scope) (x : Str) : Bool := match sc.names.lookup x with
  | some .local => true
  | _ => false
def glB (sc : Scope) (x : Str) : Bool := match sc.names.lookup x with
  | some .globalImplicit => true
  | _ => false
def nameB (x : Str) : Bool := !(x == ("__debug__" : Str)) && !(x == ("__classdict__" : Str))
def findN (x : Str) : List Str → Option Nat
  | [] => none
  | y :: ys => if y = x then some 0 else (findN x ys).map (· + 1)
theorem findN_at : ∀ {N : List Str} {i : Nat}, findN x N = some i → N[i]? = some x
  | [], _, h => by cases h
  | y :: ys, i, h => by
    unfold findN at h
    split at h
    · rename_i e
      cases h
      rw [e]
      rfl
    · rw [Option.map_eq_some_iff] at h
      obtain ⟨j, h1, h2⟩ := h
      subst h2
      simpa using findN_at h1
theorem glB_ok (h : glB c.sc x = true) (a : At A G T c E X) : Gl X x := by
  unfold glB at h
  show X.env.scope.names.lookup x = _
  rw [a.sc]
  split at h
  · assumption
  · cases h
theorem nameB_ok (h : nameB x = true) : (x == ("__debug__" : Str)) = false ∧ (x == ("__classdict__" : Str)) = false := by
  unfold nameB at h
  rw [Bool.and_eq_true, Bool.not_eq_true', Bool.not_eq_true'] at h
  exact h
theorem At.var (a : At A G T c E X) {i : Nat} (h1 : findN x c.N = some i) (h2 : visB c.sc x = true) (h3 : nameB x = true) : VarOk X x i := by
  refine ⟨by rw [a.N]; exact findN_at h1, ?_, (nameB_ok h3).1, (nameB_ok h3).2⟩
  unfold visB at h2
  unfold Vis
  rw [a.sc]
  split at h2
  · exact .inl (by assumption)
  · exact .inr (.inl (by assumption))
  · exact .inr (.inr (by assumption))
  · cases h2
theorem locB_vis (h : locB c x = true) : visB c.sc x = true := by
  unfold locB at h
  unfold visB
  split at h <;> simp_all
theorem At.loc (a : At A G T c E X) {i : Nat} (h1 : findN x c.N = some i) (h2 : locB c x = true) (h3 : nameB x = true) : LocOk X x i := by
  refine ⟨a.var h1 (locB_vis h2) h3, by rw [a.N]; exact a.nd, ?_, ?_⟩
  · unfold locB at h2
    unfold L2.Loc
    rw [a.sc]
    split at h2
    · exact .inl (by assumption)
    · exact .inr (by assumption)
    · cases h2
  · unfold locB at h2
    rw [a.sc]
    split at h2
    · exact .inr (by assumption)
    · exact .inl (a.fn x h2)
    · cases h2
theorem At.blk (a : At A G T c E X) {s : Shared} {H : Hp} {C : Addr} {cl : List (Str × Addr)} {fp : List Addr} {scope : Scope} : At A G T { c with sc := relS scope c.sc, co := some scope } XF (X.blk s H scope (compEnvC scope cl C X.env) fp) := by
  refine ⟨⟨a.bs.prog, a.bs.w, a.bs.K, a.bs.mg, a.bs.base, a.bs.room, a.bs.gd, a.bs.calm⟩, a.gf, a.N, a.nd, ?_, takesF, fun x h => h⟩
  show relS scope X.env.scope = relS scope c.sc
  rw [a.sc]

/-! ### shapes -/
def notStar : Expr → Bool
  | .Starred .. => false
  | _ => true
theorem star1 {e : Expr} {es : List Expr} {env : Env} (h : notStar e = true) : starEach (e :: es) env = (false, eval e env) :: starEach es env := by
  cases e <;> first | rfl | cases h
def noStars : List Expr → Bool
  | [] => true
  | e :: es => notStar e && noStars es
theorem anyStar {pos : Pos} {env : Env} : ∀ {es : List Expr}, noStars es = true → (backTo pos (starEach es env)).any (·.1) = false
  | [], _ => rfl
  | e :: es, h => by
    unfold noStars at h
    rw [Bool.and_eq_true] at h
    rw [star1 h.1]
    show (false || (backTo pos (starEach es env)).any (·.1)) = false
    rw [anyStar h.2]
    rfl
def notSlice : Expr → Bool
  | .Slice .. => false
  | _ => true
theorem plainIx {e : Expr} (h : notSlice e = true) : PlainIx e := fun o i => by
  cases e <;> first | rfl | cases h
def baseB : Expr → Bool
  | .Call _ [] _ _ => false
  | _ => true
theorem base1 {e : Expr} {env : Env} {f : Str} (h : baseB e = true) : attributeBase e f env (eval e env) = eval e env := by
  cases e with
  | Call g as ks p =>
    cases as with
    | nil => cases h
    | cons a r => unfold attributeBase; cases g <;> rfl
  | _ => rfl
def notSet : Expr → Bool
  | .Set .. => false
  | _ => true
theorem marks {o : CmpOp} {e : Expr} (h : notSet e = true) : behindInMarks o e = false := by
  cases e <;> first | rfl | cases h
theorem folded {e : Expr} {env : Env} (h : notSet e = true) : ∀ x, foldedSetIterable e env x = pure x := fun x => by
  cases e <;> first | rfl | cases h
def testB : Expr → Bool
  | .UnaryOp .. => false
  | .BoolOp .. => false
  | .IfExp .. => false
  | .Compare .. => false
  | _ => true
theorem test1 {e : Expr} {env : Env} (h : testB e = true) : ∀ whole, isTrue e env whole = (do let v ← whole; standAt e.pos; holding [v] (truthy v)) := fun whole => by
  cases e <;> first | rfl | cases h
def notComp : Expr → Bool
  | .ListComp .. => false
  | .SetComp .. => false
  | .DictComp .. => false
  | _ => true
theorem swap0 {e : Expr} {t : Option Expr} {l : Nat} {env : Env} (h : notComp e = true) : swapsWith e t l env = pure false := by
  cases e <;> first | rfl | cases h
end

/-! ### options -/
def oB {α β : Type} (x : Option α) (f : α → Option β) : Option β := match x with
  | some a => f a
  | none => none
def gd {α : Type} (b : Bool) (x : Option α) : Option α := match b with
  | true => x
  | false => none
theorem oB_s {α β : Type} {x : Option α} {f : α → Option β} {b : β} : oB x f = some b ↔ ∃ a, x = some a ∧ f a = some b := by
  cases x with
  | none => exact ⟨fun h => (by cases h), fun ⟨_, h, _⟩ => by cases h⟩
  | some a => exact ⟨fun h => ⟨a, rfl, h⟩, fun ⟨_, h, q⟩ => by cases h; exact q⟩
theorem gd_s {α : Type} {b : Bool} {x : Option α} {a : α} : gd b x = some a ↔ b = true ∧ x = some a := by
  cases b with
  | true => exact ⟨fun h => ⟨rfl, h⟩, fun h => h.2⟩
  | false => exact ⟨fun h => (by cases h), fun h => by cases h.1⟩

/-! ### targets -/
def cGs (r : Expr → Option IT) : List Expr → Option (List IT)
  | [] => some []
  | e :: es => gd (notStar e) (oB (r e) fun x => oB (cGs r es) fun xs => some (x :: xs))
def cG (c : Cc) : Nat → Expr → Option IT
  | 0, _ => none
  | n + 1, e => match e with
    | .Name x _ => gd (locB c x && nameB x) (oB (findN x c.N) fun i => some (.nm i))
    | .Tuple es _ _ => oB (cGs (cG c n) es) fun ts => some (.tp ts)
    | _ => none
section
variable {A : Amb} {G : Glo} {T : Tb} {c : Cc} {E : XK} {X : Cx} {x : Str}
theorem assignEach1 {e : Expr} {es : List Expr} {env : Env} (h : notStar e = true) : assignEach (e :: es) env = (false, assign e env) :: assignEach es env := by
  cases e <;> first | rfl | cases h
theorem cGs_ok {r : Expr → Option IT} (hr : ∀ e t, r e = some t → PG X e (LG G t)) : ∀ {es : List Expr} {ts : List IT}, cGs r es = some ts → PGs X es (LGs G ts) ∧ (assignEach es X.env).length = ts.length ∧ (assignEach es X.env).findIdx? (·.1) = none
  | [], _, h => by
    cases h
    exact ⟨gs_nil, rfl, rfl⟩
  | e :: es, ts, h => by
    unfold cGs at h
    simp only [oB_s, gd_s] at h
    obtain ⟨h1, t, h2, ts', h3, h4⟩ := h
    cases h4
    obtain ⟨q1, q2, q3⟩ := cGs_ok hr h3
    refine ⟨gs_cons (hr _ _ h2) q1 (by rw [assignEach1 h1]; rfl), by rw [assignEach1 h1, List.length_cons, List.length_cons, q2], ?_⟩
    rw [assignEach1 h1, List.findIdx?_cons]
    simp only [Bool.false_eq_true, if_false, q3]
    rfl
theorem cG_ok (a : At A G T c E X) : ∀ (n : Nat) (e : Expr) (t : IT), cG c n e = some t → PG X e (LG G t)
  | 0, _, _, h => by cases h
  | n + 1, e, t, h => by
    unfold cG at h
    split at h
    · simp only [oB_s, gd_s, Bool.and_eq_true] at h
      obtain ⟨⟨h1, h2⟩, i, h3, h4⟩ := h
      cases h4
      have l := a.loc h3 h1 h2
      exact g_name l.nd l.at_ l.loc l.fr
    · simp only [oB_s] at h
      obtain ⟨ts, h1, h2⟩ := h
      cases h2
      obtain ⟨q1, q2, q3⟩ := cGs_ok (cG_ok a n) h1
      exact g_tup a.hK a.bs.calm q1 q2 q3
    · cases h
end
end Pd
set_option Elab.async false
set_option linter.all false
set_option maxRecDepth 100000
set_option maxHeartbeats 4000000
namespace Pd
open PySem L2 Evl PyProof.Rows PySem.Spec

/-! ### expressions -/
def cEs (r : Expr → Option IE) : List Expr → Option (List IE)
  | [] => some []
  | e :: es => gd (notStar e) (oB (r e) fun x => oB (cEs r es) fun xs => some (x :: xs))
def bopOf : Operator → Option BOp
  | .Add => some .add | .Sub => some .sub | .Mult => some .mul | .FloorDiv => some .fdiv | .Mod => some .mod | .Pow => some .pow
  | _ => none
theorem bopOf_ok {o : Operator} {b : BOp} (h : bopOf o = some b) : o = opOf b := by
  cases o <;> cases h <;> rfl
def copOf' : CmpOp → Option COp
  | .Eq => some .eq | .NotEq => some .ne | .Lt => some .lt | .LtE => some .le | .Gt => some .gt | .GtE => some .ge
  | .Is => some .isN | .IsNot => some .notN | .In => some .in_ | .NotIn => some .notIn
theorem copOf'_ok {o : CmpOp} {b : COp} (h : copOf' o = some b) : o = copOf b := by
  cases o <;> cases h <;> rfl
/-- and, or as values -/
def cAO (r : Expr → Option IE) (k : IE → IE → IE) : List Expr → Option IE
  | [] => none
  | [a] => r a
  | a :: b :: rest => oB (r a) fun x => oB (cAO r k (b :: rest)) fun y => some (k x y)
def cTAO (r : Expr → Option IC) (k : IC → IC → IC) : List Expr → Option IC
  | [] => none
  | [a] => r a
  | a :: b :: rest => oB (r a) fun x => oB (cTAO r k (b :: rest)) fun y => some (k x y)
def cO (r : Expr → Option IE) : Option Expr → Option (Option IE)
  | none => some none
  | some e => oB (r e) fun x => some (some x)
def cKey (T : Tb) (s : Str) : Option Nat := findN s T.keys
def cConst : Const → Option D
  | .int i => some (.int i)
  | .bool b => some (.bl b)
  | .str s => some (.str s)
  | .none => some .non
  | _ => none
def cTy (T : Tb) (c : Cc) : Expr → Option Ty
  | .Name x _ => gd (glB c.sc x) (T.tys.lookup x)
  | _ => none
def ownIx (c : Cc) (x : Str) : Option Nat := oB (findN x c.N) fun i => gd (visB c.sc x && nameB x && c.ows.contains i) (some i)
/-- a, the subscript of a name that is a list of its own, or none -/
def ownOf (c : Cc) : Expr → Option Nat
  | .Name x _ => ownIx c x
  | _ => none
/-- the name is the source of numbers -/
def penIx (c : Cc) (x : Str) : Option Nat := oB (findN x c.N) fun i => gd (visB c.sc x && nameB x && c.pen.contains i) (some i)
def penOf (c : Cc) : Expr → Option Nat
  | .Name x _ => penIx c x
  | _ => none
structure Rec where
  e : Cc → Expr → Option IE
  t : Cc → Expr → Option IC
  i : Cc → Expr → Expr → Option II
def ownList (N : List Str) : List (Str × NameKind) → List (Str × Nat)
  | [] => []
  | (n, k) :: r => match k, findN n N with
    | .local, some i => (n, i) :: ownList N r
    | .cell, some i => (n, i) :: ownList N r
    | _, _ => ownList N r
def allIn : List Nat → List Nat → Bool
  | [], _ => true
  | a :: as, bs => bs.contains a && allIn as bs
def cTs (r : Expr → Option IC) : List Expr → Option (List IC)
  | [] => some []
  | [e] => oB (r e) fun t => some [t]
  | _ => none
def cComp (R : Rec) (c : Cc) (n : Nat) (elt tg it : Expr) (ifs : List Expr) (scope : Scope) : Option IE :=
  let own := ownList c.N scope.names
  let c' : Cc := { c with sc := relS scope c.sc, co := some scope }
  gd (blkC c.N c.sc scope own && notSet it) (oB (R.i c tg it) fun ii => oB (cG c' n tg) fun t => gd (allIn t.slots (own.map (·.2))) (oB (cTs (R.t c') ifs) fun ts => oB (R.e c' elt) fun x => some (.cmpr (own.map (·.2)) t ii ts x)))
/-- the first argument that is a dict to be lent -/
def borOf (c : Cc) : List Expr → Option Nat
  | [] => none
  | .Name x _ :: es => (match findN x c.N with
    | some i => if c.bor.contains i then some i else borOf c es
    | none => borOf c es)
  | _ :: es => borOf c es
def lend (b : Option Nat) (e : IE) : IE := match b with
  | some i => .unf i e
  | none => e
theorem lend_ok {X : Cx} {G : Glo} {E : XK} {b : Option Nat} {e : Expr} {ie : IE} (h : PE X e (LE G E (evE ie))) : PE X e (LE G E (evE (lend b ie))) := by
  cases b with
  | none => exact h
  | some i => exact d_unf h
def cKeysE (T : Tb) : List (Option Expr) → Option (List Nat)
  | [] => some []
  | some (.Constant (.str s) _ _) :: ks => oB (cKey T s) fun k => oB (cKeysE T ks) fun is => some (k :: is)
  | _ => none
def cCallN (T : Tb) (R : Rec) (c : Cc) (f : Str) (args : List Expr) : Option IE :=
  gd (glB c.sc f && noStars args) (oB (cEs (R.e c) args) fun xs => oB (T.calls.lookup f) fun F => some (lend (borOf c args) (.call F xs)))
def cIsi (T : Tb) (R : Rec) (c : Cc) (a t : Expr) : Option IE :=
  gd (glB c.sc "isinstance" && notStar a) (oB (R.e c a) fun x => match t with
    | .Tuple [e, e'] _ _ => oB (cTy T c e) fun t1 => oB (cTy T c e') fun t2 => some (.isi x [t1, t2])
    | e => oB (cTy T c e) fun t1 => some (.isi x [t1]))
def cRng (R : Rec) (c : Cc) (t : Bool) (a : Expr) : Option IE :=
  gd (glB c.sc "range" && (glB c.sc (if t then "tuple" else "list")) && notStar a) (oB (R.e c a) fun x => some (.rngL t x))
/-- tuple(sorted(set(e))) -/
def cSrt (R : Rec) (c : Cc) : Expr → Option IE
  | .Call (.Name h _) [e] [] _ => gd (decide (h = "set") && glB c.sc "tuple" && glB c.sc "sorted" && glB c.sc "set" && notStar e) (oB (R.e c e) fun x => some (.call (pF fSrt) [x]))
  | _ => none
/-- == and != of two instances: where the words say so -/
def richW (T : Tb) : Expr → Expr → Option Bool → Bool
  | .Name x _, .Name y _, some _ => decide (x = "self") && decide (y = "other") && !T.ops.isEmpty
  | .Name _ _, .Subscript (.Call (.Name _ _) _ [] _) (.Constant (.int 0) _ _) _, some _ => !T.ops.isEmpty
  | _, _, _ => false
def neOf : COp → Option Bool
  | .eq => some false
  | .ne => some true
  | _ => none
def cCmp (T : Tb) (R : Rec) (c : Cc) (a : Expr) (o : CmpOp) (b : Expr) : Option IE :=
  gd (notSet b) (oB (copOf' o) fun o' => oB (R.e c a) fun x => oB (R.e c b) fun y => if richW T a b (neOf o') then oB (neOf o') fun n => some (.call (richD T.ops n) [x, y]) else some (.cmp o' x y))
def stepE (T : Tb) (R : Rec) (c : Cc) (n : Nat) : Expr → Option IE
  | .Name x _ => match findN x c.N with
    | some i => gd (visB c.sc x && nameB x) (some (.var i))
    | none => gd (glB c.sc x && nameB x) (oB (T.globs.lookup x) fun d => some (.cst d))
  | .Constant v _ _ => oB (cConst v) fun d => some (.cst d)
  | .Tuple es _ _ => oB (cEs (R.e c) es) fun xs => gd (decide (xs.length ≤ 100000)) (some (.tup xs))
  | .List es _ => oB (cEs (R.e c) es) fun xs => gd (decide (xs.length ≤ 100000)) (some (.lst xs))
  | .BinOp a o b _ => oB (bopOf o) fun o' => oB (R.e c a) fun x => oB (R.e c b) fun y => some (.bin o' x y)
  | .UnaryOp .USub a _ => oB (R.e c a) fun x => some (.neg x)
  | .UnaryOp .Not a _ => oB (R.e c a) fun x => some (.not (.tst x))
  | .Compare a [o] [b] _ => cCmp T R c a o b
  | .Compare a [o, o'] [b, b'] _ => gd (notSet b') (oB (copOf' o) fun p => oB (copOf' o') fun p' => oB (R.e c a) fun x => oB (R.e c b) fun y => oB (R.e c b') fun z => some (.chn p p' x y z))
  | .BoolOp .And es _ => cAO (R.e c) .and es
  | .BoolOp .Or es _ => cAO (R.e c) .or es
  | .IfExp t a b _ => oB (R.t c t) fun k => oB (R.e c a) fun x => oB (R.e c b) fun y => some (.ife k x y)
  | .Subscript a (.Slice lo hi none _) _ => oB (R.e c a) fun x => oB (cO (R.e c) lo) fun l => oB (cO (R.e c) hi) fun h => some (.slc x l h)
  | .Subscript a (.Constant (.str s) _ _) _ => match penOf c a with
    | some i => oB (findN s penKeys) fun k => some (.pget i k)
    | none => match ownOf c a with
      | some i => oB (cKey T s) fun k => some (.keyv i k)
      | none => oB (R.e c a) fun x => oB (cKey T s) fun k => some (.key x k)
  | .Subscript a i _ => gd (notSlice i) (match ownOf c a with
    | some j => oB (R.e c i) fun y => some (.ixv j y)
    | none => oB (R.e c a) fun x => oB (R.e c i) fun y => some (.ix x y))
  | .Attribute a f _ => gd (baseB a) (oB (T.flds.lookup f) fun ps => oB (R.e c a) fun x => some (.atr x ps))
  | .Call (.Name f _) args [] _ => match args with
    | [.Name x _] => if f = "len" then (match ownIx c x with
        | some i => gd (glB c.sc f) (some (.lenv i))
        | none => cCallN T R c f args) else cCallN T R c f args
    | [.Call (.Name g _) [a] [] _] => if g = "range" ∧ f = "list" then cRng R c false a else if g = "range" ∧ f = "tuple" then cRng R c true a else if g = "sorted" ∧ f = "tuple" then cSrt R c a else cCallN T R c f args
    | [a, t] => if f = "isinstance" then cIsi T R c a t else cCallN T R c f args
    | _ => cCallN T R c f args
  | .Call (.Attribute a f ap) args [] cp => gd (baseB a && (ap.endLine == cp.line)) (match args with
    | [] => if f = "bit_length" then oB (R.e c a) fun x => some (.bitlen x) else none
    | [e] => if f = "pop" then oB (ownOf c a) fun i => gd (notStar e) (oB (R.e c e) fun x => some (.pop i x)) else none
    | _ => none)
  | .Dict ks vs _ => oB (cKeysE T ks) fun is => oB (cEs (R.e c) vs) fun xs => gd (decide (is.length = xs.length) && decide (is.length ≤ 15) && !ks.isEmpty) (some (.dct is xs))
  | .ListComp elt [⟨tg, it, ifs, a⟩] scope _ => gd (a == 0) (cComp R c n elt tg it ifs scope)
  | _ => none
/-! ### tests -/
def stepT (T : Tb) (R : Rec) (c : Cc) : Expr → Option IC
  | .UnaryOp .Not a _ => oB (R.t c a) fun x => some (.not x)
  | .BoolOp .And es _ => cTAO (R.t c) .and es
  | .BoolOp .Or es _ => cTAO (R.t c) .or es
  | .Compare a [o] [b] _ => oB (cCmp T R c a o b) fun x => some (.tst x)
  | .Compare a [o, o'] [b, b'] _ => gd (notSet b') (oB (copOf' o) fun p => oB (copOf' o') fun p' => oB (R.e c a) fun x => oB (R.e c b) fun y => oB (R.e c b') fun z => some (.tst (.chn p p' x y z)))
  | e => gd (testB e) (oB (R.e c e) fun x => some (.tst x))
/-! ### what is walked -/
def isTup : Expr → Bool
  | .Tuple .. => true
  | _ => false
def stepI (R : Rec) (c : Cc) (tg : Expr) : Expr → Option II
  | .Call (.Name f p) args [] pos =>
    if f = "range" then gd (glB c.sc f && noStars args) (match args with
      | [a] => oB (R.e c a) fun x => some (.rng1 x)
      | [a, b] => oB (R.e c a) fun x => oB (R.e c b) fun y => some (.rng2 x y)
      | _ => none)
    else if f = "enumerate" then gd (glB c.sc f && noStars args && isTup tg) (match args with
      | [a] => oB (R.e c a) fun x => some (.enm x)
      | _ => none)
    else if f = "zip" then gd (glB c.sc f && noStars args && isTup tg) (match args with
      | [a, b] => oB (R.e c a) fun x => oB (R.e c b) fun y => some (.zip2 x y)
      | [a, b, d] => oB (R.e c a) fun x => oB (R.e c b) fun y => oB (R.e c d) fun z => some (.zip3 x y z)
      | _ => none)
    else oB (R.e c (.Call (.Name f p) args [] pos)) fun x => some (.seq x)
  | e => oB (R.e c e) fun x => some (.seq x)
mutual
def cE (T : Tb) : Nat → Cc → Expr → Option IE
  | 0, _, _ => none
  | n + 1, c, e => stepE T ⟨cE T n, cT T n, cI T n⟩ c n e
def cT (T : Tb) : Nat → Cc → Expr → Option IC
  | 0, _, _ => none
  | n + 1, c, e => stepT T ⟨cE T n, cT T n, cI T n⟩ c e
def cI (T : Tb) : Nat → Cc → Expr → Expr → Option II
  | 0, _, _, _ => none
  | n + 1, c, tg, e => stepI ⟨cE T n, cT T n, cI T n⟩ c tg e
end
/-- what the three say -/
structure Snd (A : Amb) (G : Glo) (T : Tb) (R : Rec) : Prop where
  e : ∀ c E X e ie, At A G T c E X → R.e c e = some ie → PE X e (LE G E (evE ie))
  t : ∀ c E X e ic, At A G T c E X → R.t c e = some ic → PT X e (LT G E (evT ic))
  i : ∀ c E X tg e ii, At A G T c E X → R.i c tg e = some ii → PI X tg e (LI G E (evI ii))
section
variable {A : Amb} {G : Glo} {T : Tb} {R : Rec} {c : Cc} {E : XK} {X : Cx} {x : Str}
theorem cEs_ok {r : Expr → Option IE} (hr : ∀ e ie, r e = some ie → PE X e (LE G E (evE ie))) : ∀ {es : List Expr} {ies : List IE}, cEs r es = some ies → PA X es (LDs G E (evEs ies)) ∧ noStars es = true ∧ PA X es (LVs G E (evEs ies)) ∧ ies.length = es.length
  | [], _, h => by cases h; exact ⟨d_nil, rfl, v_nil, rfl⟩
  | e :: es, ies, h => by
    unfold cEs at h
    simp only [oB_s, gd_s] at h
    obtain ⟨h1, y, h2, ys, h3, h4⟩ := h
    cases h4
    obtain ⟨q1, q2, q3, q4⟩ := cEs_ok hr h3
    exact ⟨d_cons (hr _ _ h2) q1 (star1 h1), by unfold noStars; rw [h1, q2]; rfl, v_cons (hr _ _ h2) q3 (star1 h1), by rw [List.length_cons, List.length_cons, q4]⟩
theorem cEs_at {r : Expr → Option IE} (hr : ∀ e ie, r e = some ie → PE X e (LE G E (evE ie))) : ∀ {es : List Expr} {ies : List IE}, cEs r es = some ies → ∀ (j : Nat) (e : Expr) (ie : IE), es[j]? = some e → ies[j]? = some ie → PE X e (LE G E (evE ie))
  | [], _, h, j, e, ie, h1, _ => by simp at h1
  | e :: es, ies, h, j, e', ie, h1, h2 => by
    unfold cEs at h
    simp only [oB_s, gd_s] at h
    obtain ⟨_, y, h3, ys, h4, h5⟩ := h
    cases h5
    cases j with
    | zero =>
      cases h1
      cases h2
      exact hr _ _ h3
    | succ j => exact cEs_at hr h4 j e' ie (by simpa using h1) (by simpa using h2)
theorem cKeysE_ok (a : At A G T c E X) : ∀ {ks : List (Option Expr)} {is : List Nat}, cKeysE T ks = some is → KeysAre G ks is
  | [], _, h => by cases h; exact .nil
  | none :: ks, _, h => by cases h
  | some e :: ks, is, h => by
    cases e <;> try cases h
    rename_i v j p
    cases v <;> try cases h
    rename_i s
    unfold cKeysE at h
    simp only [oB_s] at h
    obtain ⟨k, h1, is', h2, h3⟩ := h
    cases h3
    have e : G.kS k = s := a.gf.keyAt k s (findN_at h1)
    subst e
    exact .cons (cKeysE_ok a h2)
theorem cAnd_ok {r : Expr → Option IE} {pos : Pos} (hr : ∀ e ie, r e = some ie → PE X e (LE G E (evE ie))) : ∀ {es : List Expr} {ie : IE}, cAO r .and es = some ie → PE X (.BoolOp .And es pos) (LE G E (evE ie))
  | [], _, h => by cases h
  | [a], _, h => d_one (hr _ _ h)
  | a :: b :: rest, ie, h => by
    unfold cAO at h
    simp only [oB_s] at h
    obtain ⟨y, h1, z, h2, h3⟩ := h
    cases h3
    exact d_and (hr _ _ h1) (cAnd_ok hr h2)
theorem cOr_ok {r : Expr → Option IE} {pos : Pos} (hr : ∀ e ie, r e = some ie → PE X e (LE G E (evE ie))) : ∀ {es : List Expr} {ie : IE}, cAO r .or es = some ie → PE X (.BoolOp .Or es pos) (LE G E (evE ie))
  | [], _, h => by cases h
  | [a], _, h => d_one (hr _ _ h)
  | a :: b :: rest, ie, h => by
    unfold cAO at h
    simp only [oB_s] at h
    obtain ⟨y, h1, z, h2, h3⟩ := h
    cases h3
    exact d_or (hr _ _ h1) (cOr_ok hr h2)
theorem cTAnd_ok {r : Expr → Option IC} {pos : Pos} (hr : ∀ e ie, r e = some ie → PT X e (LT G E (evT ie))) : ∀ {es : List Expr} {ie : IC}, cTAO r .and es = some ie → PW X (.BoolOp .And es pos) (LT G E (evT ie))
  | [], _, h => by cases h
  | [a], _, h => w_one (hr _ _ h)
  | a :: b :: rest, ie, h => by
    unfold cTAO at h
    simp only [oB_s] at h
    obtain ⟨y, h1, z, h2, h3⟩ := h
    cases h3
    exact w_and (hr _ _ h1) (cTAnd_ok hr h2)
theorem cTOr_ok {r : Expr → Option IC} {pos : Pos} (hr : ∀ e ie, r e = some ie → PT X e (LT G E (evT ie))) : ∀ {es : List Expr} {ie : IC}, cTAO r .or es = some ie → PW X (.BoolOp .Or es pos) (LT G E (evT ie))
  | [], _, h => by cases h
  | [a], _, h => w_one (hr _ _ h)
  | a :: b :: rest, ie, h => by
    unfold cTAO at h
    simp only [oB_s] at h
    obtain ⟨y, h1, z, h2, h3⟩ := h
    cases h3
    exact w_or (hr _ _ h1) (cTOr_ok hr h2)
theorem cO_ok {r : Expr → Option IE} (hr : ∀ e ie, r e = some ie → PE X e (LE G E (evE ie))) {o : Option Expr} {io : Option IE} (h : cO r o = some io) : PO X o (Lf rEq G E (evO io)) := by
  cases o with
  | none => cases h; exact o_none
  | some e =>
    unfold cO at h
    simp only [oB_s] at h
    obtain ⟨y, h1, h2⟩ := h
    cases h2
    exact o_some (hr _ _ h1)
theorem ownIx_ok (a : At A G T c E X) {i : Nat} (h : ownIx c x = some i) : VarOk X x i := by
  unfold ownIx at h
  simp only [oB_s, gd_s, Bool.and_eq_true] at h
  obtain ⟨j, h1, ⟨⟨h2, h3⟩, h4⟩, h5⟩ := h
  cases h5
  exact a.var h1 h2 h3
theorem penIx_ok (a : At A G T c E X) {i : Nat} (h : penIx c x = some i) : VarOk X x i := by
  unfold penIx at h
  simp only [oB_s, gd_s, Bool.and_eq_true] at h
  obtain ⟨j, h1, ⟨⟨h2, h3⟩, h4⟩, h5⟩ := h
  cases h5
  exact a.var h1 h2 h3
theorem penOf_ok (a : At A G T c E X) {e : Expr} {i : Nat} (h : penOf c e = some i) : ∃ x p, e = .Name x p ∧ VarOk X x i := by
  cases e <;> try cases h
  exact ⟨_, _, rfl, penIx_ok a h⟩
theorem ownOf_ok (a : At A G T c E X) {e : Expr} {i : Nat} (h : ownOf c e = some i) : ∃ x p, e = .Name x p ∧ VarOk X x i := by
  cases e <;> try cases h
  exact ⟨_, _, rfl, ownIx_ok a h⟩
theorem cKey_ok (a : At A G T c E X) {s : Str} {k : Nat} (h : cKey T s = some k) : G.kS k = s := a.gf.keyAt k s (findN_at h)
theorem cConst_ok {v : Const} {d : D} {j : Nat} {pos : Pos} (h : cConst v = some d) : PE X (.Constant v j pos) (LE G E (evE (.cst d))) := by
  cases v <;> cases h
  · exact d_non
  · exact d_bl
  · exact d_int
  · exact d_str
theorem cTy_ok (a : At A G T c E X) {e : Expr} {t : Ty} (h : cTy T c e = some t) : (∃ cv u, TyOk X G t e cv u) ∧ notStar e = true := by
  cases e <;> try cases h
  unfold cTy at h
  simp only [gd_s] at h
  obtain ⟨cv, u, q⟩ := a.gf.ty X _ t a.bs h.2 (glB_ok h.1 a)
  exact ⟨⟨cv, u, q _⟩, rfl⟩
theorem allIn_ok : ∀ {as bs : List Nat}, allIn as bs = true → ∀ i ∈ as, i ∈ bs
  | [], _, _, i, hi => by cases hi
  | a :: as, bs, h, i, hi => by
    unfold allIn at h
    rw [Bool.and_eq_true] at h
    rcases List.mem_cons.mp hi with e | e
    · rw [e]; simpa using h.1
    · exact allIn_ok h.2 i e
theorem cTs_ok {r : Expr → Option IC} (hr : ∀ e ie, r e = some ie → PT X e (LT G E (evT ie))) {es : List Expr} {ts : List IC} (h : cTs r es = some ts) : PTs X es (LT G E (evTs ts)) := by
  match es, h with
  | [], h => cases h; exact ts_nil
  | [e], h =>
    unfold cTs at h
    simp only [oB_s] at h
    obtain ⟨t, h1, h2⟩ := h
    cases h2
    exact ts_one (hr _ _ h1)
  | _ :: _ :: _, h => cases h
end
end Pd
set_option Elab.async false
set_option linter.all false
set_option maxRecDepth 100000
set_option maxHeartbeats 4000000
namespace Pd
open PySem L2 Evl PyProof.Rows PySem.Spec

section
variable {A : Amb} {G : Glo} {T : Tb} {R : Rec} {c : Cc} {E : XK} {X : Cx} {x : Str}
theorem neOf_ok {o : COp} {n : Bool} (h : neOf o = some n) : o = neB n := by
  cases o <;> cases h <;> rfl
theorem evEs_two (x y : IE) (F : DFun) : evE (.call F [x, y]) = M.bnd (evE x) fun u => M.bnd (evE y) fun v => callM F [u.d, v.d] := by
  funext ρ S
  show M.bnd (evEs [x, y]) (fun svs => callM F (svs.map SV.d)) ρ S = _
  simp only [evEs]
  unfold M.bnd M.ret
  cases evE x ρ S with
  | ok u ρ1 S1 =>
    dsimp only
    cases evE y ρ1 S1 <;> rfl
  | exc c fs S => rfl
  | bad => rfl
theorem cCmp_ok (S : Snd A G T R) (a : At A G T c E X) {e b : Expr} {o : CmpOp} {pos : Pos} {ie : IE} (h : cCmp T R c e o b = some ie) : PE X (.Compare e [o] [b] pos) (LE G E (evE ie)) ∧ PT X (.Compare e [o] [b] pos) (LT G E (evT (.tst ie))) := by
  have he := fun e ie => S.e c E X e ie a
  unfold cCmp at h
  simp only [oB_s, gd_s] at h
  obtain ⟨h0, o', h1, y, h2, z, h3, h4⟩ := h
  cases copOf'_ok h1
  split at h4
  · simp only [oB_s] at h4
    obtain ⟨n, h5, h6⟩ := h4
    cases h6
    cases neOf_ok h5
    have hall : ∀ c F, T.ops.lookup (n, c) = some F → RichOk X G E n c F := fun c F e => a.gf.rich X E n c F a.bs a.tk e
    have k1 := d_rich (pos := pos) hall (he _ _ h2) (he _ _ h3) (marks h0)
    have k2 := t_rich (pos := pos) hall (he _ _ h2) (he _ _ h3) (marks h0)
    rw [← evEs_two] at k1 k2
    exact ⟨k1, k2⟩
  · cases h4
    exact ⟨d_cmp a.hK a.un (he _ _ h2) (he _ _ h3) (marks h0), t_cmp a.hK a.un (he _ _ h2) (he _ _ h3) (marks h0)⟩
theorem cCallN_ok (S : Snd A G T R) (a : At A G T c E X) {f : Str} {p pos : Pos} {args : List Expr} {ie : IE} (h : cCallN T R c f args = some ie) : PE X (.Call (.Name f p) args [] pos) (LE G E (evE ie)) := by
  unfold cCallN at h
  simp only [oB_s, gd_s, Bool.and_eq_true] at h
  obtain ⟨⟨h1, h2⟩, xs, h3, F, h4, h5⟩ := h
  cases h5
  obtain ⟨k1, k0⟩ := a.gf.call X E f F a.bs a.tk h4 (glB_ok h1 a)
  obtain ⟨q1, _, _, _⟩ := cEs_ok (G := G) (E := E) (X := X) (fun e ie => S.e c E X e ie a) h3
  refine lend_ok ?_
  cases args with
  | nil => cases h3; exact k0 p pos
  | cons e es =>
    unfold noStars at h2
    rw [Bool.and_eq_true] at h2
    exact k1 p pos e es _ q1 (star1 h2.1) (anyStar h2.2)
theorem cIsi_ok (S : Snd A G T R) (a : At A G T c E X) {p pos : Pos} {e t : Expr} {ie : IE} (h : cIsi T R c e t = some ie) : PE X (.Call (.Name "isinstance" p) [e, t] [] pos) (LE G E (evE ie)) := by
  unfold cIsi at h
  simp only [oB_s, gd_s, Bool.and_eq_true] at h
  obtain ⟨⟨h1, h2⟩, y, h3, h⟩ := h
  have hg := glB_ok h1 a
  have hm : X.mg "isinstance" = none := a.blt (by decide +kernel)
  split at h
  · rename_i e1 e2 kk pp
    simp only [oB_s] at h
    obtain ⟨t1, h4, t2, h5, h6⟩ := h
    cases h6
    obtain ⟨⟨cv, u, q⟩, n1⟩ := cTy_ok a h4
    obtain ⟨⟨cv', u', q'⟩, n2⟩ := cTy_ok a h5
    exact d_isi2 a.hK (S.e c E X _ _ a h3) q q' hg hm (star1 h2) (by rfl) (star1 n1) (star1 n2)
  · simp only [oB_s] at h
    obtain ⟨t1, h4, h6⟩ := h
    cases h6
    obtain ⟨⟨cv, u, q⟩, n1⟩ := cTy_ok a h4
    exact d_isi a.hK (S.e c E X _ _ a h3) q hg hm (star1 h2) (star1 n1) (anyStar (by unfold noStars; rw [n1]; rfl))
theorem cRng_ok (S : Snd A G T R) (a : At A G T c E X) {t : Bool} {p1 p2 pr pos : Pos} {e : Expr} {ie : IE} (h : cRng R c t e = some ie) : PE X (.Call (.Name (if t then "tuple" else "list") p2) [.Call (.Name "range" p1) [e] [] pr] [] pos) (LE G E (evE ie)) := by
  unfold cRng at h
  simp only [oB_s, gd_s, Bool.and_eq_true] at h
  obtain ⟨⟨⟨h1, h2⟩, h3⟩, y, h4, h5⟩ := h
  cases h5
  exact d_rngL a.bs.calm (glB_ok h1 a) (a.blt (by decide +kernel)) (glB_ok h2 a) (a.blt (by cases t <;> decide +kernel)) (S.e c E X _ _ a h4) (star1 h3) rfl
theorem cSrt_ok (S : Snd A G T R) (a : At A G T c E X) {p1 p2 q2 pos : Pos} {e : Expr} {ie : IE} (h : cSrt R c e = some ie) : PE X (.Call (.Name "tuple" p1) [.Call (.Name "sorted" p2) [e] [] q2] [] pos) (LE G E (evE ie)) := by
  unfold cSrt at h
  split at h
  · simp only [oB_s, gd_s, Bool.and_eq_true, decide_eq_true_eq] at h
    obtain ⟨⟨⟨⟨⟨h0, h1⟩, h2⟩, h3⟩, h4⟩, y, h5, h6⟩ := h
    cases h6
    subst h0
    refine weakE (d_srt a.bs.calm a.hK (S.e c E X _ _ a h5) (glB_ok h1 a) (glB_ok h2 a) (glB_ok h3 a) (a.blt (by decide +kernel)) (a.blt (by decide +kernel)) (a.blt (by decide +kernel)) (star1 h4)) fun σ H Q h => ?_
    exact srt_read h
  · cases h
theorem cComp_ok (S : Snd A G T R) (a : At A G T c E X) {n : Nat} {elt tg it : Expr} {ifs : List Expr} {scope : Scope} {pos : Pos} {ie : IE} (h : cComp R c n elt tg it ifs scope = some ie) : PE X (.ListComp elt [⟨tg, it, ifs, 0⟩] scope pos) (LE G E (evE ie)) := by
  unfold cComp at h
  simp only [oB_s, gd_s, Bool.and_eq_true] at h
  obtain ⟨⟨h1, h2⟩, ii, h3, t, h4, h5, ts, h6, y, h7, h8⟩ := h
  cases h8
  have ok : BlkOk X.N X.env.scope scope (ownList c.N scope.names) := by
    rw [a.N, a.sc]
    exact blkOk_by h1
  exact d_lc a.hK a.bs.calm (by rw [a.N]; exact a.nd) (S.i c E X _ _ _ a h3) ok (fun s H C cl fp => cG_ok (a.blk) n tg t h4) (fun s H C cl fp => cTs_ok (fun e ic => S.t _ XF _ e ic a.blk) h6) (fun s H C cl fp => S.e _ XF _ _ _ a.blk h7) (allIn_ok h5) (folded h2)
set_option maxHeartbeats 16000000 in
theorem stepE_ok (S : Snd A G T R) (a : At A G T c E X) {n : Nat} {e : Expr} {ie : IE} (h : stepE T R c n e = some ie) : PE X e (LE G E (evE ie)) := by
  have he := fun e ie => S.e c E X e ie a
  unfold stepE at h
  split at h
  · rename_i x p
    split at h
    · rename_i i hi
      simp only [gd_s, Bool.and_eq_true] at h
      obtain ⟨⟨h1, h2⟩, h3⟩ := h
      cases h3
      have l := a.var hi h1 h2
      exact d_var l.at_ l.vis l.db l.cd
    · simp only [oB_s, gd_s, Bool.and_eq_true] at h
      obtain ⟨⟨h1, h2⟩, d, h3, h4⟩ := h
      cases h4
      obtain ⟨v, u, q1, q2, q3⟩ := a.gf.glob x d h3
      exact d_glob (glB_ok h1 a) (by rw [a.bs.mg]; exact q1) q2 q3 (nameB_ok h2).1
  · simp only [oB_s] at h
    obtain ⟨d, h1, h2⟩ := h
    cases h2
    exact cConst_ok h1
  · simp only [oB_s, gd_s, decide_eq_true_eq] at h
    obtain ⟨xs, h1, h2, h3⟩ := h
    cases h3
    exact d_tup (cEs_ok he h1).1 h2
  · simp only [oB_s, gd_s, decide_eq_true_eq] at h
    obtain ⟨xs, h1, h2, h3⟩ := h
    cases h3
    exact d_lst (cEs_ok he h1).1 h2
  · simp only [oB_s] at h
    obtain ⟨o', h1, y, h2, z, h3, h4⟩ := h
    cases h4
    cases bopOf_ok h1
    exact d_bin a.hK (he _ _ h2) (he _ _ h3)
  · simp only [oB_s] at h
    obtain ⟨y, h2, h4⟩ := h
    cases h4
    exact d_neg (he _ _ h2)
  · simp only [oB_s] at h
    obtain ⟨y, h2, h4⟩ := h
    cases h4
    exact d_not a.hK (he _ _ h2)
  · exact (cCmp_ok S a h).1
  · simp only [oB_s, gd_s] at h
    obtain ⟨h0, o', h1, o2, h1', y, h2, z, h3, t, h4, h5⟩ := h
    cases h5
    cases copOf'_ok h1
    cases copOf'_ok h1'
    exact d_chn a.hK a.un (he _ _ h2) (he _ _ h3) (he _ _ h4) (marks h0)
  · exact cAnd_ok he h
  · exact cOr_ok he h
  · simp only [oB_s] at h
    obtain ⟨o', h1, y, h2, z, h3, h4⟩ := h
    cases h4
    exact d_ife (S.t c E X _ _ a h1) (he _ _ h2) (he _ _ h3)
  · simp only [oB_s] at h
    obtain ⟨o', h1, y, h2, z, h3, h4⟩ := h
    cases h4
    exact d_slc a.hK (he _ _ h1) (cO_ok he h2) (cO_ok he h3)
  · split at h
    · rename_i i hi
      simp only [oB_s] at h
      obtain ⟨k, h1, h2⟩ := h
      cases h2
      obtain ⟨x, p, e1, l⟩ := penOf_ok a hi
      subst e1
      exact d_pget a.un1 l (findN_at h1)
    split at h
    · rename_i i hi
      simp only [oB_s] at h
      obtain ⟨k, h1, h2⟩ := h
      cases h2
      obtain ⟨x, p, e1, l⟩ := ownOf_ok a hi
      subst e1
      cases cKey_ok a h1
      exact d_keyv a.gf.ko a.un1 l
    · simp only [oB_s] at h
      obtain ⟨y, h1, k, h2, h3⟩ := h
      cases h3
      cases cKey_ok a h2
      exact d_key a.gf.ko a.un1 (he _ _ h1)
  · simp only [gd_s] at h
    obtain ⟨h0, h⟩ := h
    split at h
    · rename_i i hi
      simp only [oB_s] at h
      obtain ⟨y, h1, h2⟩ := h
      cases h2
      obtain ⟨x, p, e1, l⟩ := ownOf_ok a hi
      subst e1
      exact d_ixv2 a.hK l (he _ _ h1) (plainIx h0)
    · simp only [oB_s] at h
      obtain ⟨y, h1, z, h2, h3⟩ := h
      cases h3
      exact d_ix a.hK (he _ _ h1) (he _ _ h2) (plainIx h0)
  · simp only [oB_s, gd_s] at h
    obtain ⟨h0, ps, h1, y, h2, h3⟩ := h
    cases h3
    exact d_atr a.hK (a.gf.fld _ _ h1) (he _ _ h2) (base1 h0)
  · rename_i f p args pos
    split at h
    · split at h
      · rename_i e1
        subst e1
        split at h
        · rename_i i hi
          simp only [gd_s] at h
          obtain ⟨h1, h2⟩ := h
          cases h2
          exact d_lenv a.hK (ownIx_ok a hi) (glB_ok h1 a) (a.blt (by decide +kernel)) rfl
        · exact cCallN_ok S a h
      · exact cCallN_ok S a h
    · split at h
      · rename_i e1
        obtain ⟨e1, e2⟩ := e1
        subst e1 e2
        exact cRng_ok (t := false) S a h
      · split at h
        · rename_i e1
          obtain ⟨e1, e2⟩ := e1
          subst e1 e2
          exact cRng_ok (t := true) S a h
        · split at h
          · rename_i e1
            obtain ⟨e1, e2⟩ := e1
            subst e1 e2
            exact cSrt_ok S a h
          · exact cCallN_ok S a h
    · split at h
      · rename_i e1
        subst e1
        exact cIsi_ok S a h
      · exact cCallN_ok S a h
    · exact cCallN_ok S a h
  · simp only [gd_s, Bool.and_eq_true] at h
    obtain ⟨⟨h0, h1⟩, h⟩ := h
    split at h
    · split at h
      · rename_i e1
        subst e1
        simp only [oB_s] at h
        obtain ⟨y, h2, h3⟩ := h
        cases h3
        exact d_bitlen (he _ _ h2) (base1 h0) h1
      · cases h
    · split at h
      · rename_i e1
        subst e1
        simp only [oB_s, gd_s] at h
        obtain ⟨i, h2, h3, y, h4, h5⟩ := h
        cases h5
        obtain ⟨x, p, e2, l⟩ := ownOf_ok a h2
        subst e2
        exact d_pop l (he _ _ h4) rfl h1 (star1 h3) (by rw [star1 h3]; rfl)
      · cases h
    · cases h
  · rename_i ks vs pos
    simp only [oB_s, gd_s, Bool.and_eq_true, decide_eq_true_eq, Bool.not_eq_true'] at h
    obtain ⟨is, h1, xs, h2, ⟨⟨h3, h4⟩, h5⟩, h6⟩ := h
    cases h6
    obtain ⟨_, _, _, q4⟩ := cEs_ok (G := G) (E := E) (X := X) he h2
    exact d_dct a.gf.ko (cKeysE_ok a h1) q4.symm h3 (cEs_at he h2) (fun z => by rw [z] at h5; cases h5) h4
  · simp only [gd_s] at h
    obtain ⟨h0, h⟩ := h
    have h0 := eq_of_beq h0
    subst h0
    exact cComp_ok S a h
  · cases h
theorem stepT_ok (S : Snd A G T R) (a : At A G T c E X) {e : Expr} {ic : IC} (h : stepT T R c e = some ic) : PT X e (LT G E (evT ic)) := by
  have he := fun e ie => S.e c E X e ie a
  have ht := fun e ie => S.t c E X e ie a
  unfold stepT at h
  split at h
  · simp only [oB_s] at h
    obtain ⟨y, h1, h2⟩ := h
    cases h2
    exact t_not (ht _ _ h1)
  · exact (cTAnd_ok ht h).pt
  · exact (cTOr_ok ht h).pt
  · simp only [oB_s] at h
    obtain ⟨y, h1, h2⟩ := h
    cases h2
    exact (cCmp_ok S a h1).2
  · simp only [oB_s, gd_s] at h
    obtain ⟨h0, o', h1, o2, h1', y, h2, z, h3, t, h4, h5⟩ := h
    cases h5
    cases copOf'_ok h1
    cases copOf'_ok h1'
    exact t_chn a.hK a.un (he _ _ h2) (he _ _ h3) (he _ _ h4) (marks h0)
  · simp only [oB_s, gd_s] at h
    obtain ⟨h0, y, h1, h2⟩ := h
    cases h2
    exact t_val a.hK (he _ _ h1) (test1 h0)
theorem isTup_ok {tg : Expr} (h : isTup tg = true) : ∃ es k p, tg = .Tuple es k p := by
  cases tg <;> try cases h
  exact ⟨_, _, _, rfl⟩
theorem stepI_ok (S : Snd A G T R) (a : At A G T c E X) {tg e : Expr} {ii : II} (h : stepI R c tg e = some ii) : PI X tg e (LI G E (evI ii)) := by
  have he := fun e ie => S.e c E X e ie a
  unfold stepI at h
  split at h
  · rename_i f p args pos
    split at h
    · rename_i e1
      subst e1
      simp only [gd_s, Bool.and_eq_true] at h
      obtain ⟨⟨h0, h1⟩, h⟩ := h
      have hg := glB_ok h0 a
      have hm : X.mg "range" = none := a.blt (by decide +kernel)
      split at h
      · simp only [oB_s] at h
        obtain ⟨y, h2, h3⟩ := h
        cases h3
        simp only [noStars, Bool.and_eq_true] at h1
        exact i_rng1 hg hm (he _ _ h2) (star1 h1.1)
      · simp only [oB_s] at h
        obtain ⟨y, h2, z, h3, h4⟩ := h
        cases h4
        simp only [noStars, Bool.and_eq_true] at h1
        exact i_rng2 hg hm (he _ _ h2) (he _ _ h3) (star1 h1.1) (star1 h1.2.1)
      · cases h
    · split at h
      · rename_i e1
        subst e1
        simp only [gd_s, Bool.and_eq_true] at h
        obtain ⟨⟨⟨h0, h1⟩, ht⟩, h⟩ := h
        obtain ⟨es, k, p', e2⟩ := isTup_ok ht
        subst e2
        have hg := glB_ok h0 a
        have hm : X.mg "enumerate" = none := a.blt (by decide +kernel)
        split at h
        · simp only [oB_s] at h
          obtain ⟨y, h2, h3⟩ := h
          cases h3
          simp only [noStars, Bool.and_eq_true] at h1
          exact i_enm a.hK hg hm (he _ _ h2) (star1 h1.1)
        · cases h
      · split at h
        · rename_i e1
          subst e1
          simp only [gd_s, Bool.and_eq_true] at h
          obtain ⟨⟨⟨h0, h1⟩, ht⟩, h⟩ := h
          obtain ⟨es, k, p', e2⟩ := isTup_ok ht
          subst e2
          have hg := glB_ok h0 a
          have hm : X.mg "zip" = none := a.blt (by decide +kernel)
          split at h
          · simp only [oB_s] at h
            obtain ⟨y, h2, z, h3, h4⟩ := h
            cases h4
            simp only [noStars, Bool.and_eq_true] at h1
            exact i_zip2 a.hK hg hm (he _ _ h2) (he _ _ h3) (star1 h1.1) (star1 h1.2.1)
          · simp only [oB_s] at h
            obtain ⟨y, h2, z, h3, t, h4, h5⟩ := h
            cases h5
            simp only [noStars, Bool.and_eq_true] at h1
            exact i_zip3 a.hK hg hm (he _ _ h2) (he _ _ h3) (he _ _ h4) (star1 h1.1) (star1 h1.2.1) (star1 h1.2.2.1)
          · cases h
        · simp only [oB_s] at h
          obtain ⟨y, h2, h3⟩ := h
          cases h3
          exact i_seq a.hK (he _ _ h2)
  · simp only [oB_s] at h
    obtain ⟨y, h2, h3⟩ := h
    cases h3
    exact i_seq a.hK (he _ _ h2)
theorem snd (n : Nat) : Snd A G T ⟨cE T n, cT T n, cI T n⟩ := by
  induction n with
  | zero => exact ⟨fun _ _ _ _ _ _ h => (by cases h), fun _ _ _ _ _ _ h => (by cases h), fun _ _ _ _ _ _ _ h => (by cases h)⟩
  | succ n ih => exact ⟨fun c E X e ie a h => stepE_ok ih a (n := n) h, fun c E X e ic a h => stepT_ok ih a h, fun c E X tg e ii a h => stepI_ok ih a h⟩
end
end Pd
set_option Elab.async false
set_option linter.all false
set_option maxRecDepth 100000
set_option maxHeartbeats 4000000
namespace Pd
open PySem L2 Evl PyProof.Rows PySem.Spec

/-! ### stores of a tuple's parts -/
/-- the names that are stored by themselves -/
def swNames (sc : Scope) (line : Nat) : List Expr → List Str
  | [] => []
  | .Name id pos :: ts => if sc.names.lookup id == some .local && pos.line == line then id :: swNames sc line ts else swNames sc line ts
  | _ :: ts => swNames sc line ts
def lineOf (ts : List Expr) : Nat := (ts.head?.map (·.pos.line)).getD 0
theorem swNames_eq {sc : Scope} {env : Env} (h : env.scope = sc) (line : Nat) : ∀ ts : List Expr, (ts.filterMap fun
    | .Name id pos => if env.kindOf id == some .local && pos.line == line then some id else none
    | _ => none) = swNames sc line ts
  | [] => rfl
  | t :: ts => by
    have ih := swNames_eq h line ts
    have hk : ∀ id, env.kindOf id = sc.names.lookup id := fun id => by unfold Env.kindOf; rw [h]
    rw [List.filterMap_cons]
    cases t <;> first
      | (rename_i id pos
         dsimp only
         unfold swNames
         rw [hk]
         by_cases q : (sc.names.lookup id == some NameKind.local && pos.line == line) = true
         · rw [if_pos q, if_pos q]; dsimp only; rw [ih]
         · rw [if_neg q, if_neg q]; dsimp only; rw [ih])
      | (unfold swNames
         exact ih)
/-- none of the short roads -/
def swN (sc : Scope) (ts vs : List Expr) : Bool := !(ts.length == 2 || ts.length == 3) || (swNames sc (lineOf ts) ts).length != ts.length
def sw23 (sc : Scope) (ts vs : List Expr) (ns : List Str) : Bool := (ts.length == 2 || ts.length == 3) && (vs.length == ts.length) && noStars vs && decide (swNames sc (lineOf ts) ts = ns) && (ns.length == ts.length) && (ns.eraseDups.length == ns.length) && !(vs.all (foldedForSure 8)) && !(vs.all (constantsAlone 8))
theorem noStars_any : ∀ {vs : List Expr}, noStars vs = true → (vs.any fun | .Starred .. => true | _ => false) = false
  | [], _ => rfl
  | e :: es, h => by
    unfold noStars at h
    rw [Bool.and_eq_true] at h
    rw [List.any_cons, noStars_any h.2]
    cases e <;> first | rfl | cases h.1
theorem swN_ok {sc : Scope} {env : Env} (hs : env.scope = sc) {ts vs : List Expr} {k k2 : Nat} {p p2 : Pos} (h : swN sc ts vs = true) : swappedStores [.Tuple ts k p] (.Tuple vs k2 p2) env = pure none := by
  unfold swN at h
  rw [Bool.or_eq_true] at h
  unfold swappedStores
  dsimp only
  by_cases q1 : (!(ts.length == 2 || ts.length == 3) || vs.length != ts.length || env.blockKind != .function) = true
  · rw [if_pos q1]
  · rw [if_neg q1]
    rcases h with h | h
    · exfalso
      rw [h] at q1
      exact q1 rfl
    · split
      · rfl
      · have e := swNames_eq hs (lineOf ts) ts
        have h' : ((swNames sc (lineOf ts) ts).length != ts.length || (swNames sc (lineOf ts) ts).eraseDups.length != (swNames sc (lineOf ts) ts).length) = true := by
          rw [h]; rfl
        rw [← e] at h'
        exact if_pos h'
theorem sw23_ok {sc : Scope} {env : Env} (hs : env.scope = sc) (hk : sc.kind = .function) {ts vs : List Expr} {ns : List Str} {k k2 : Nat} {p p2 : Pos} (h : sw23 sc ts vs ns = true) : swappedStores [.Tuple ts k p] (.Tuple vs k2 p2) env = pure (some ns) := by
  unfold sw23 at h
  simp only [Bool.and_eq_true, decide_eq_true_eq, Bool.not_eq_true'] at h
  obtain ⟨⟨⟨⟨⟨⟨⟨h1, h2⟩, h3⟩, h4⟩, h5⟩, h6⟩, h7⟩, h8⟩ := h
  have bk : env.blockKind = .function := by unfold Env.blockKind; rw [hs, hk]; rfl
  unfold swappedStores
  dsimp only
  rw [if_neg (by rw [h1, bk]; rw [eq_of_beq h2]; simp)]
  refine (if_neg (fun z => Bool.false_ne_true ((noStars_any h3).symm.trans z))).trans ?_
  have e := swNames_eq hs (lineOf ts) ts
  have n1 : ¬ ((swNames sc (lineOf ts) ts).length != ts.length || (swNames sc (lineOf ts) ts).eraseDups.length != (swNames sc (lineOf ts) ts).length) = true := by
    rw [h4, eq_of_beq h6]
    have := eq_of_beq h5
    rw [this]
    simp
  rw [← e] at n1
  refine (if_neg n1).trans ?_
  rw [if_neg (by rw [h7]; exact Bool.false_ne_true), if_neg (by rw [h8]; exact Bool.false_ne_true)]
  exact congrArg (fun x => pure (some x)) (e.trans h4)
def notTupE : Expr → Bool
  | .Tuple .. => false
  | _ => true
theorem sw0 {env : Env} {tg e : Expr} (h : notTupE e = true) : swappedStores [tg] e env = pure none := by
  unfold swappedStores
  cases e <;> first | (cases tg <;> rfl) | cases h

/-! ### a comprehension stored on one line -/
section
variable {X : Cx} {G : Glo} {E : XK} {B H : Hp} {σ : L2.St} {ρ : Rho} {S : PenSt} {D_ : Ends}
/-- names = a display, by its tuple -/
def gNames : List Nat → TGs
  | [] => gNil
  | i :: is => gCons (gName i) (gNames is)
theorem gNames_of : ∀ (is : List Nat) (vs : List V) (σ : L2.St) (H : Hp) (Q : L2.St → Hp → Prop), is.length = vs.length → Q ((is.zip vs).foldl (fun s p => s.set p.1 (some p.2)) σ) H → gNames is vs σ H Q
  | [], [], _, _, _, _, q => ⟨rfl, q⟩
  | [], _ :: _, _, _, _, h, _ => by cases h
  | _ :: _, [], _, _, _, h, _ => by cases h
  | i :: is, v :: vs, σ, H, Q, h, q => ⟨v, vs, rfl, gNames_of is vs _ H Q (by simpa using h) q⟩
def nmIx (c : Cc) : List Expr → Option (List Nat)
  | [] => some []
  | .Name x _ :: es => gd (locB c x && nameB x) (oB (findN x c.N) fun i => oB (nmIx c es) fun is => some (i :: is))
  | _ => none
theorem nmIx_ok {A : Amb} {T : Tb} {c : Cc} (a : At A G T c E X) : ∀ {es : List Expr} {is : List Nat}, nmIx c es = some is → PGs X es (gNames is) ∧ (assignEach es X.env).length = is.length ∧ (assignEach es X.env).findIdx? (·.1) = none
  | [], _, h => by
    cases h
    exact ⟨pgs_nil, rfl, rfl⟩
  | e :: es, is, h => by
    cases e <;> try cases h
    unfold nmIx at h
    simp only [oB_s, gd_s, Bool.and_eq_true] at h
    obtain ⟨⟨h1, h2⟩, i, h3, is', h4, h5⟩ := h
    cases h5
    obtain ⟨q1, q2, q3⟩ := nmIx_ok a h4
    have l := a.loc h3 h1 h2
    refine ⟨pgs_cons (pg_name l.nd l.at_ l.loc l.fr) q1 rfl, ?_, ?_⟩
    · show _ + 1 = _ + 1
      rw [q2]
    · show List.findIdx? _ ((false, _) :: assignEach es X.env) = none
      rw [List.findIdx?_cons]
      simp only [Bool.false_eq_true, if_false, q3]
      rfl
theorem s_parG {A : Amb} {T : Tb} {c : Cc} (a : At A G T c E X) {ts es : List Expr} {is : List Nat} {ies : List IE} {k k2 : Nat} {p p2 pos : Pos} (h : nmIx c ts = some is) (he : PA X es (LVs G E (evEs ies))) (hw : swappedStores [.Tuple ts k p] (.Tuple es k2 p2) X.env = pure none) (hlen : ies.length ≤ 100000) :
    PS X (.Assign [.Tuple ts k p] (.Tuple es k2 p2) pos) (LS G E (M.bnd (evEs ies) fun svs => M.bnd (asgs is svs) fun _ => M.ret .nx)) := by
  obtain ⟨q1, q2, q3⟩ := nmIx_ok a h
  refine weakSS (ps_asg (pe_tup he) (pg_tup a.bs.calm q1 q2 q3) rfl hw rfl) fun D_ σ B H ρ S w p => ?_
  have key : LVs G E (evEs ies) σ H (fun vs H1 => vs.length ≤ sizeLine ∧ ∀ q, H1 q = none → is.length = vs.length ∧ D_.nx ((is.zip vs).foldl (fun s p => s.set p.1 (some p.2)) σ) (upd H1 q (.tup vs))) := by
    have w0 := w
    refine ⟨B, ρ, S, w, ?_⟩
    unfold M.bnd at p
    cases e : evEs ies ρ S with
    | bad => rw [e] at p; exact p
    | exc c fs S' => rw [e] at p; exact p
    | ok svs ρ1 S1 =>
      rw [e] at p
      intro vs B1 H1 st w1 r
      have r : SVs G B1 H1 σ ρ1 H vs svs := r
      have lv : vs.length = svs.length := by
        have go : ∀ {vs svs}, SVs G B1 H1 σ ρ1 H vs svs → vs.length = svs.length := fun {vs svs} h => by
          induction h with
          | nil => rfl
          | cons _ _ _ _ ih => rw [List.length_cons, List.length_cons, ih]
        exact go r
      refine ⟨sizeL (by rw [lv, evEs_len ies e]; omega), fun q hq => ?_⟩
      obtain ⟨w2, st2⟩ := w1.newO hq (.tup vs)
      have r2 : SVs G B1 (upd H1 q (.tup vs)) σ ρ1 H vs svs := by
        have go : ∀ {vs' svs'}, SVs G B1 H1 σ ρ1 H vs' svs' → SVs G B1 (upd H1 q (.tup vs)) σ ρ1 H vs' svs' := fun {vs' svs'} h => by
          induction h with
          | nil => exact .nil
          | cons r1 f1 d1 t1 ih =>
            refine .cons (r1.stay (Ex.refl B1) fun p hp hs => ?_) f1 d1 ih
            obtain ⟨q', o, e', b, n, hh⟩ := r1.at hs
            rw [hp] at e'
            cases e'
            exact ⟨b, fun o ho => Ex.new hq _ _ ho⟩
        exact go r
      exact asgs_ok is svs vs w2 (st.trans st2) r2 p
  obtain ⟨B0, ρ0, S0, w0, p0⟩ := key
  refine ⟨B0, ρ0, S0, w0, ?_⟩
  cases e : evEs ies ρ0 S0 with
  | bad => rw [e] at p0; exact p0
  | exc c fs S' => rw [e] at p0; exact p0
  | ok svs ρ1 S1 =>
    rw [e] at p0
    intro vs B1 H1 st w1 r
    obtain ⟨z1, z2⟩ := p0 vs B1 H1 st w1 r
    refine ⟨z1, fun q hq => ?_⟩
    obtain ⟨z3, z4⟩ := z2 q hq
    exact ⟨q, vs, rfl, SqT.of upd_same, z3.symm, gNames_of is vs σ _ _ z3 z4⟩
theorem s_setLc {i : Nat} {x : Str} {py : Pos} {elt tg iter : Expr} {ifs : List Expr} {scope : Scope} {own : List (Str × Nat)} {pos spos : Pos} {fi : M (List D)} {t : IT} {ft : M Bool} {fe : M SV} (l : LocOk X x i) (hyl : X.env.scope.names.lookup x = some .local) (hc : X.calm = true)
    (hsw : swapsWith (.ListComp elt [⟨tg, iter, ifs, 0⟩] scope pos) (some (.Name x py)) spos.line X.env = pure true) (hi : PI X tg iter (LI G E fi)) (ok : BlkOk X.N X.env.scope scope own)
    (hg : ∀ (s : Shared) (H : Hp) (C : Addr) (cl : List (Str × Addr)) (fp : List Addr), PG (X.blk s H scope (compEnvC scope cl C X.env) fp) tg (LG G t)) (ht : ∀ (s : Shared) (H : Hp) (C : Addr) (cl : List (Str × Addr)) (fp : List Addr), PTs (X.blk s H scope (compEnvC scope cl C X.env) fp) ifs (LT G XF ft))
    (he : ∀ (s : Shared) (H : Hp) (C : Addr) (cl : List (Str × Addr)) (fp : List Addr), PE (X.blk s H scope (compEnvC scope cl C X.env) fp) elt (LE G XF fe)) (hsub : ∀ i ∈ t.slots, i ∈ own.map (·.2)) (hs : ∀ x, foldedSetIterable iter X.env x = pure x) :
    PS X (.Assign [.Name x py] (.ListComp elt [⟨tg, iter, ifs, 0⟩] scope pos) spos) (LS G E (M.bnd (M.bnd fi fun items => M.bnd (compLoop (own.map (·.2)) t ft fe items []) fun xs => M.ret (.ow xs)) fun sv => M.bnd (setSV i sv) fun _ => M.ret .nx)) := by
  refine weakSS (ps_setLc hc l.nd l.at_ hyl hsw hi ok hg ht he hs) fun D_ σ B H ρ S w p => ?_
  refine lc_read hsub σ H _ (PostS.bndK (rel := rSV G) w p fun v sv B1 H1 ρ1 S1 st w1 r p1 => ?_)
  obtain ⟨r, fr⟩ := r
  obtain ⟨q, p2⟩ := setSV_ok p1
  obtain ⟨w2, k⟩ := w1.set q r fr
  exact p2.nx (k st) w2
/-- when the list is stored by the comprehension's own end -/
def swLc (sc : Scope) (x : Str) (pl el : Nat) (scope : Scope) : Bool := plainB sc x && (pl == el) && !(scope.names.any fun (n, k) => n == x && (k == .local || k == .cell))
theorem swLc_ok {sc : Scope} {env : Env} (hs : env.scope = sc) (hk : sc.kind = .function) {x : Str} {elt : Expr} {gs : List Comprehension} {scope : Scope} {pos py : Pos} {l : Nat} (h : swLc sc x py.line pos.line scope = true) : swapsWith (.ListComp elt gs scope pos) (some (.Name x py)) l env = pure true := by
  unfold swLc at h
  simp only [Bool.and_eq_true, Bool.not_eq_true'] at h
  obtain ⟨⟨h1, h2⟩, h3⟩ := h
  refine sw_true (by rw [hs]; exact hk) ?_ h2 h3
  rw [hs]
  unfold plainB at h1
  split at h1
  · assumption
  · cases h1
theorem swLc_no {sc : Scope} {env : Env} (hs : env.scope = sc) (hk : sc.kind = .function) {x : Str} {elt : Expr} {gs : List Comprehension} {scope : Scope} {pos py : Pos} {l : Nat} (h : swLc sc x py.line pos.line scope = false) : swapsWith (.ListComp elt gs scope pos) (some (.Name x py)) l env = pure false := by
  have bk : env.blockKind = .function := by unfold Env.blockKind; rw [hs, hk]; rfl
  have kk : (env.kindOf x == some .local) = plainB sc x := by
    unfold Env.kindOf plainB
    rw [hs]
    cases sc.names.lookup x with
    | none => rfl
    | some k => cases k <;> rfl
  unfold swapsWith
  show pure (env.blockKind == .function && env.kindOf x == some .local && py.line == pos.line && !(scope.names.any fun (n, k) => n == x && (k == .local || k == .cell))) = _
  rw [bk, kk]
  show pure (true && plainB sc x && py.line == pos.line && !(scope.names.any fun (n, k) => n == x && (k == .local || k == .cell))) = _
  rw [Bool.true_and]
  exact congrArg pure h
end
end Pd
set_option Elab.async false
set_option linter.all false
set_option maxRecDepth 100000
set_option maxHeartbeats 4000000
namespace Pd
open PySem L2 Evl PyProof.Rows PySem.Spec

/-! ### statements -/
def fuel : Nat := 40
def whlN : Nat := 100000
def isTrueC : Expr → Bool
  | .Constant (.bool true) _ _ => true
  | _ => false
def cSs (r : Stmt → Option IS) : List Stmt → Option (List IS)
  | [] => some []
  | s :: ss => oB (r s) fun x => oB (cSs r ss) fun xs => some (x :: xs)
def kindB (sc : Scope) : Bool := match sc.kind with
  | .function => true
  | _ => false
def cAsgN (T : Tb) (c : Cc) (x : Str) (py : Pos) (e : Expr) : Option IS :=
  gd (locB c x && nameB x) (oB (findN x c.N) fun i => oB (cE T fuel c e) fun y => match e with
    | .ListComp _ gs scope p => gd (kindB c.sc && (match gs with | [⟨_, _, _, 0⟩] => true | _ => false) && (plainB c.sc x || !(swLc c.sc x py.line p.line scope))) (some (.asg (.nm i) y))
    | e => gd (notComp e) (some (.asg (.nm i) y)))
def keyTs (T : Tb) (c : Cc) (i : Nat) (x : Str) : List Expr → Option (List Nat)
  | [] => some []
  | .Subscript (.Name y _) (.Constant (.str s) _ _) _ :: ts => gd (decide (y = x)) (oB (cKey T s) fun k => oB (keyTs T c i x ts) fun is => some (k :: is))
  | _ => none
def firstSub : List Expr → Option Str
  | .Subscript (.Name y _) _ _ :: _ => some y
  | _ => none
def cAsgT (T : Tb) (c : Cc) (ts : List Expr) (k : Nat) (p : Pos) (e : Expr) : Option IS := match e with
  | .Tuple es _ _ => oB (cEs (cE T fuel c) es) fun xs => (match nmIx c ts with
      | some is => gd (kindB c.sc && decide is.Nodup && decide (xs.length ≤ 100000)) (match ts, es with
          | [.Name x _, .Name y _], [_, _] => gd (swN c.sc ts es || (sw23 c.sc ts es [x, y] && plainB c.sc x && plainB c.sc y)) (some (.par is xs))
          | [.Name x _, .Name y _, .Name z _], [_, _, _] => gd (swN c.sc ts es || (sw23 c.sc ts es [x, y, z] && plainB c.sc x && plainB c.sc y && plainB c.sc z)) (some (.par is xs))
          | _, _ => gd (swN c.sc ts es) (some (.par is xs)))
      | none => match firstSub ts with
        | some x => oB (ownIx c x) fun i => oB (keyTs T c i x ts) fun is => gd (swN c.sc ts es && decide (xs.length ≤ 100000)) (some (.stks i is xs))
        | none => gd (swN c.sc ts es) (oB (cG c fuel (.Tuple ts k p)) fun t => match t with
          | .tp ts' => gd (decide (xs.length ≤ 100000)) (some (.asg (.tp ts') (.tup xs)))
          | _ => none))
  | e => gd (notTupE e && notComp e) (oB (cG c fuel (.Tuple ts k p)) fun t => oB (cE T fuel c e) fun y => match t with
      | .tp ts' => some (.asg (.tp ts') y)
      | _ => none)
def stepS (T : Tb) (r : Stmt → Option IS) (c : Cc) : Stmt → Option IS
  | .Assign [.Name x py] e _ => cAsgN T c x py e
  | .Assign [.Tuple ts k p] e _ => cAsgT T c ts k p e
  | .Assign [.Subscript (.Name x _) (.Constant (.str s) _ _) _] e _ => match penIx c x with
    | some i => gd (notTupE e) (oB (findN s penKeys) fun k => oB (cE T fuel c e) fun y => some (.pset i k y))
    | none => oB (ownIx c x) fun i => oB (cKey T s) fun k => gd (notTupE e && notComp e || (notTupE e && (match e with | .ListComp .. => true | _ => false))) (oB (cE T fuel c e) fun y => some (.stk i k y))
  | .Assign [.Subscript (.Name x _) ek _] e _ => oB (ownIx c x) fun i => gd (notTupE e && notComp e && (match ek with | .Slice .. => false | _ => true)) (oB (cE T fuel c e) fun y => oB (cE T fuel c ek) fun z => some (.sto i z y))
  | .AugAssign (.Name x _) .Add e _ => gd (locB c x && nameB x) (oB (findN x c.N) fun i => oB (cE T fuel c e) fun y => some (.aug i y))
  | .Expr (.Constant (.str _) _ _) _ => some .pass
  | .Expr (.Call (.Attribute (.Name x p1) "append" p2) [e] [] p3) _ => gd (notStar e && (p2.endLine == p3.line)) (oB (ownIx c x) fun i => oB (cE T fuel c e) fun y => some (.app i y))
  | .Expr e _ => gd (notComp e) (oB (cE T fuel c e) fun y => some (.drop y))
  | .Return none _ => some .retN
  | .Return (some (.Name x p)) _ => match ownIx c x with
    | some i => some (.retv i)
    | none => oB (cE T fuel c (.Name x p)) fun y => some (.ret y)
  | .Return (some e) _ => oB (cE T fuel c e) fun y => some (.ret y)
  | .If t a b _ => oB (cT T fuel c t) fun k => oB (cSs r a) fun x => oB (cSs r b) fun y => some (.ite k x y)
  | .For tg it body [] _ => gd (notSet it) (oB (cG c fuel tg) fun t => oB (cI T fuel c tg it) fun ii => oB (cSs r body) fun b => some (.for_ t ii b))
  | .While t body [] _ => gd (isTrueC t) (oB (cSs r body) fun b => some (.whl whlN b))
  | .Raise (some (.Call (.Name x _) es [] _)) none _ => gd (glB c.sc x && noStars es && (match es with | [] => false | _ => true)) (oB (T.excs.lookup x) fun cn => oB (cEs (cE T fuel c) es) fun xs => some (.rs cn.1 cn.2 xs))
  | .Break _ => some .brk
  | .Continue _ => some .cnt
  | .Pass _ => some .pass
  | _ => none
def cS (T : Tb) : Nat → Cc → Stmt → Option IS
  | 0, _, _ => none
  | n + 1, c, s => stepS T (cS T n c) c s
/-- a def's body -/
def cB (T : Tb) (c : Cc) (body : List Stmt) : Option (List IS) := cSs (cS T fuel c) body
section
variable {A : Amb} {G : Glo} {T : Tb} {c : Cc} {E : XK} {X : Cx} {x : Str}
theorem cSs_ok {r : Stmt → Option IS} (hr : ∀ s is, r s = some is → PS X s (LS G E (evS is))) : ∀ {ss : List Stmt} {iss : List IS}, cSs r ss = some iss → PSs X ss (LS G E (evSs iss))
  | [], _, h => by cases h; exact ss_nil
  | s :: ss, iss, h => by
    unfold cSs at h
    simp only [oB_s] at h
    obtain ⟨y, h1, ys, h2, h3⟩ := h
    cases h3
    exact ss_cons (hr _ _ h1) (cSs_ok hr h2)
theorem kindB_ok {sc : Scope} (h : kindB sc = true) : sc.kind = .function := by
  unfold kindB at h
  split at h
  · assumption
  · cases h
theorem At.e (a : At A G T c E X) {e : Expr} {ie : IE} (h : cE T fuel c e = some ie) : PE X e (LE G E (evE ie)) := (snd (A := A) (G := G) (T := T) fuel).e c E X e ie a h
theorem At.t (a : At A G T c E X) {e : Expr} {ic : IC} (h : cT T fuel c e = some ic) : PT X e (LT G E (evT ic)) := (snd (A := A) (G := G) (T := T) fuel).t c E X e ic a h
theorem At.i (a : At A G T c E X) {tg e : Expr} {ii : II} (h : cI T fuel c tg e = some ii) : PI X tg e (LI G E (evI ii)) := (snd (A := A) (G := G) (T := T) fuel).i c E X tg e ii a h
theorem plainB_ok {sc : Scope} {y : Str} (h : plainB sc y = true) : sc.names.lookup y = some .local := by
  unfold plainB at h
  split at h
  · assumption
  · cases h
theorem comp_parts (a : At A G T c E X) {n : Nat} {elt tg it : Expr} {ifs : List Expr} {scope : Scope} {pos : Pos} {ie : IE} (h : cE T (n + 1) c (.ListComp elt [⟨tg, it, ifs, 0⟩] scope pos) = some ie) : cComp ⟨cE T n, cT T n, cI T n⟩ c n elt tg it ifs scope = some ie := by
  have h' : gd ((0 : Nat) == 0) (cComp ⟨cE T n, cT T n, cI T n⟩ c n elt tg it ifs scope) = some ie := h
  simpa [gd_s] using h'
theorem cAsgN_ok (a : At A G T c E X) {py pos : Pos} {e : Expr} {is : IS} (h : cAsgN T c x py e = some is) : PS X (.Assign [.Name x py] e pos) (LS G E (evS is)) := by
  unfold cAsgN at h
  simp only [oB_s, gd_s, Bool.and_eq_true] at h
  obtain ⟨⟨h1, h2⟩, i, h3, y, h4, h⟩ := h
  have l := a.loc h3 h1 h2
  split at h
  · rename_i elt gs scope p
    simp only [gd_s, Bool.and_eq_true] at h
    obtain ⟨⟨⟨h5, h6⟩, h7⟩, h8⟩ := h
    cases h8
    cases sw : swLc c.sc x py.line p.line scope with
    | false => exact s_set l (a.e h4) (swLc_no a.sc (kindB_ok h5) sw)
    | true =>
      rw [sw] at h7
      split at h6
      · rename_i tg it ifs
        have hc := comp_parts (n := 39) a h4
        have S := snd (A := A) (G := G) (T := T) 39
        unfold cComp at hc
        simp only [oB_s, gd_s, Bool.and_eq_true] at hc
        obtain ⟨⟨k1, k2⟩, ii, k3, t, k4, k5, ts, k6, z, k7, k8⟩ := hc
        cases k8
        have ok : BlkOk X.N X.env.scope scope (ownList c.N scope.names) := by
          rw [a.N, a.sc]
          exact blkOk_by k1
        have pl : plainB c.sc x = true := by simpa using h7
        exact s_setLc l (by rw [a.sc]; exact plainB_ok pl) a.bs.calm (swLc_ok a.sc (kindB_ok h5) sw) (S.i c E X _ _ _ a k3) ok (fun s H C cl fp => cG_ok (a.blk) 39 tg t k4) (fun s H C cl fp => cTs_ok (fun e ic => S.t _ XF _ e ic a.blk) k6) (fun s H C cl fp => S.e _ XF _ _ _ a.blk k7) (allIn_ok k5) (folded k2)
      · cases h6
  · simp only [gd_s] at h
    obtain ⟨h5, h6⟩ := h
    cases h6
    exact s_set l (a.e h4) (swap0 h5)
theorem swapSole {tg e : Expr} {l : Nat} {env : Env} (h : notComp e = true) : swapsWithSole [tg] e l env = pure false := swap0 h
theorem swapSub {o i : Expr} {p : Pos} {e : Expr} {l : Nat} {env : Env} : swapsWithSole [.Subscript o i p] e l env = pure false := by
  show swapsWith e (some (.Subscript o i p)) l env = pure false
  unfold swapsWith
  cases e <;> rfl
theorem keyTs_ok (a : At A G T c E X) {i : Nat} : ∀ {ts : List Expr} {is : List Nat}, keyTs T c i x ts = some is → KeyTs G x ts is
  | [], _, h => by cases h; exact .nil
  | t :: ts, is, h => by
    cases t <;> try cases h
    rename_i o k p
    cases o <;> try cases h
    cases k <;> try cases h
    rename_i v j p2
    cases v <;> try cases h
    unfold keyTs at h
    simp only [oB_s, gd_s, decide_eq_true_eq] at h
    obtain ⟨h0, k, h1, is', h2, h3⟩ := h
    cases h3
    have ih := keyTs_ok a h2
    subst h0
    cases cKey_ok a h1
    exact .cons ih
theorem nd2 {i j : Nat} (h : [i, j].Nodup) : i ≠ j := by simpa using h
theorem nd3 {i j k : Nat} (h : [i, j, k].Nodup) : i ≠ j ∧ i ≠ k ∧ j ≠ k := by
  simp at h
  omega
theorem cAsgT_ok (a : At A G T c E X) {ts : List Expr} {k : Nat} {p pos : Pos} {e : Expr} {is : IS} (h : cAsgT T c ts k p e = some is) : PS X (.Assign [.Tuple ts k p] e pos) (LS G E (evS is)) := by
  unfold cAsgT at h
  split at h
  · rename_i es k2 p2
    simp only [oB_s] at h
    obtain ⟨xs, h1, h⟩ := h
    obtain ⟨q1, q2, q3, q4⟩ := cEs_ok (G := G) (E := E) (X := X) (fun e ie => a.e) h1
    split at h
    · rename_i is' hi
      simp only [gd_s, Bool.and_eq_true, decide_eq_true_eq] at h
      obtain ⟨⟨⟨h5, h6⟩, h7⟩, h⟩ := h
      split at h
      · rename_i x px y py e1 e2
        simp only [gd_s, Bool.or_eq_true, Bool.and_eq_true] at h
        obtain ⟨h8, h9⟩ := h
        cases h9
        rcases h8 with h8 | ⟨⟨h8, h9⟩, h10⟩
        · exact s_parG a hi q3 (swN_ok a.sc h8) h7
        · have hi' := hi
          simp only [nmIx, oB_s, gd_s, Bool.and_eq_true] at hi'
          obtain ⟨⟨a1, a2⟩, i, a3, is1, ⟨⟨b1, b2⟩, j, b3, is2, b4, b5⟩, a5⟩ := hi'
          cases b4
          cases b5
          cases a5
          exact s_par2 (a.loc a3 a1 a2) (a.loc b3 b1 b2) (nd2 h6) a.bs.calm (by rw [a.sc]; exact plainB_ok h9) (by rw [a.sc]; exact plainB_ok h10) q3 (sw23_ok a.sc (kindB_ok h5) h8) rfl
      · rename_i x px y py z pz e1 e2 e3
        simp only [gd_s, Bool.or_eq_true, Bool.and_eq_true] at h
        obtain ⟨h8, h9⟩ := h
        cases h9
        rcases h8 with h8 | ⟨⟨⟨h8, h9⟩, h10⟩, h11⟩
        · exact s_parG a hi q3 (swN_ok a.sc h8) h7
        · have hi' := hi
          simp only [nmIx, oB_s, gd_s, Bool.and_eq_true] at hi'
          obtain ⟨⟨a1, a2⟩, i, a3, is1, ⟨⟨b1, b2⟩, j, b3, is2, ⟨⟨c1, c2⟩, l, c3, is3, c4, c5⟩, b5⟩, a5⟩ := hi'
          cases c4
          cases c5
          cases b5
          cases a5
          obtain ⟨n1, n2, n3⟩ := nd3 h6
          exact s_par3 (a.loc a3 a1 a2) (a.loc b3 b1 b2) (a.loc c3 c1 c2) n1 n2 n3 a.bs.calm (by rw [a.sc]; exact plainB_ok h9) (by rw [a.sc]; exact plainB_ok h10) (by rw [a.sc]; exact plainB_ok h11) q3 (sw23_ok a.sc (kindB_ok h5) h8) rfl
      · simp only [gd_s] at h
        obtain ⟨h8, h9⟩ := h
        cases h9
        exact s_parG a hi q3 (swN_ok a.sc h8) h7
    · split at h
      · simp only [oB_s, gd_s, Bool.and_eq_true, decide_eq_true_eq] at h
        obtain ⟨i, h5, is', h6, ⟨h7, h8⟩, h9⟩ := h
        cases h9
        exact s_stks a.hK a.bs.calm a.gf.ko a.un1 (ownIx_ok a h5) (keyTs_ok a h6) q1 h8 (swN_ok a.sc h7)
      simp only [oB_s, gd_s] at h
      obtain ⟨h8, t, h9, h⟩ := h
      split at h
      · simp only [gd_s, decide_eq_true_eq] at h
        obtain ⟨h10, h11⟩ := h
        cases h11
        exact s_asgT (cG_ok a _ _ _ h9) (d_tup q1 h10) rfl (swN_ok a.sc h8) rfl
      · cases h
  · simp only [oB_s, gd_s, Bool.and_eq_true] at h
    obtain ⟨⟨h0, h1⟩, t, h2, y, h3, h⟩ := h
    split at h
    · cases h
      exact s_asgT (cG_ok a _ _ _ h2) (a.e h3) (swapSole h1) (sw0 h0) rfl
    · cases h
theorem stepS_ok (a : At A G T c E X) (hp : PassesOwn (model X.prog X.w) X.A X.env X.xe) {r : Stmt → Option IS} (hr : ∀ s is, r s = some is → PS X s (LS G E (evS is))) {s : Stmt} {is : IS} (h : stepS T r c s = some is) : PS X s (LS G E (evS is)) := by
  unfold stepS at h
  split at h
  · exact cAsgN_ok a h
  · exact cAsgT_ok a h
  · rename_i x p1 s j p2 pt e pos
    split at h
    · rename_i i hi
      simp only [oB_s, gd_s] at h
      obtain ⟨h0, k, h1, y, h2, h3⟩ := h
      cases h3
      exact s_pset a.un1 (penIx_ok a hi) (findN_at h1) (a.e h2) swapSub (sw0 h0)
    simp only [oB_s, gd_s, Bool.or_eq_true, Bool.and_eq_true] at h
    obtain ⟨i, h1, k, h2, h3, y, h4, h5⟩ := h
    cases h5
    cases cKey_ok a h2
    exact s_stk a.gf.ko a.un1 (ownIx_ok a h1) (a.e h4) swapSub (sw0 (by rcases h3 with h3 | h3 <;> exact h3.1))
  · rename_i x p1 ek pt e pos hne
    simp only [oB_s, gd_s, Bool.and_eq_true] at h
    obtain ⟨i, h1, ⟨⟨h2, h3⟩, h4⟩, y, h5, z, h6, h7⟩ := h
    cases h7
    exact s_sto (ownIx_ok a h1) (a.e h5) (a.e h6) (fun v => by cases ek <;> first | rfl | cases h4) (swapSole h3) (sw0 h2) rfl
  · rename_i x p1 e pos
    simp only [oB_s, gd_s, Bool.and_eq_true] at h
    obtain ⟨⟨h1, h2⟩, i, h3, y, h4, h5⟩ := h
    cases h5
    exact s_aug (a.loc h3 h1 h2) (a.e h4)
  · cases h
    exact s_doc
  · rename_i x p1 p2 e p3 pos
    simp only [oB_s, gd_s, Bool.and_eq_true] at h
    obtain ⟨⟨h1, h2⟩, i, h3, y, h4, h5⟩ := h
    cases h5
    exact s_app (ownIx_ok a h3) (a.e h4) rfl h2 (star1 h1) rfl (by rw [star1 h1]; rfl)
  · simp only [oB_s, gd_s] at h
    obtain ⟨h1, y, h2, h3⟩ := h
    cases h3
    exact s_drop (a.e h2) (swap0 h1)
  · cases h
    exact s_retN
  · split at h
    · rename_i i hi
      cases h
      exact s_retv (ownIx_ok a hi)
    · simp only [oB_s] at h
      obtain ⟨y, h2, h3⟩ := h
      cases h3
      exact s_ret (a.e h2)
  · simp only [oB_s] at h
    obtain ⟨y, h2, h3⟩ := h
    cases h3
    exact s_ret (a.e h2)
  · simp only [oB_s] at h
    obtain ⟨k, h1, y, h2, z, h3, h4⟩ := h
    cases h4
    exact s_if (a.t h1) (cSs_ok hr h2) (cSs_ok hr h3)
  · simp only [oB_s, gd_s] at h
    obtain ⟨h0, t, h1, ii, h2, b, h3, h4⟩ := h
    cases h4
    exact s_for hp a.bs.calm (a.i h2) (cG_ok a _ _ _ h1) (cSs_ok hr h3) (folded h0)
  · rename_i t body pos
    simp only [oB_s, gd_s] at h
    obtain ⟨h0, b, h3, h4⟩ := h
    cases h4
    refine s_whl hp ?_ (cSs_ok hr h3)
    unfold isTrueC at h0
    split at h0
    · exact t_val a.hK d_bl (fun _ => rfl)
    · cases h0
  · rename_i x p es pos pos2
    simp only [oB_s, gd_s, Bool.and_eq_true] at h
    obtain ⟨⟨⟨h1, h2⟩, h3⟩, cn, h4, xs, h5, h6⟩ := h
    cases h6
    obtain ⟨q1, _, _, _⟩ := cEs_ok (G := G) (E := E) (X := X) (fun e ie => a.e) h5
    cases es with
    | nil => cases h3
    | cons e es =>
      unfold noStars at h2
      rw [Bool.and_eq_true] at h2
      exact a.gf.exc X E x cn.1 cn.2 a.bs a.tk h4 (glB_ok h1 a) p pos pos2 e es _ q1 (star1 h2.1) (anyStar h2.2)
  · cases h
    exact s_brk
  · cases h
    exact s_cnt
  · cases h
    exact s_pass
  · cases h
theorem cS_ok (a : At A G T c E X) (hp : PassesOwn (model X.prog X.w) X.A X.env X.xe) : ∀ (n : Nat) (s : Stmt) (is : IS), cS T n c s = some is → PS X s (LS G E (evS is))
  | 0, _, _, h => by cases h
  | n + 1, s, is, h => stepS_ok a hp (cS_ok a hp n) h
theorem cB_ok (a : At A G T c E X) (hp : PassesOwn (model X.prog X.w) X.A X.env X.xe) {body : List Stmt} {iss : List IS} (h : cB T c body = some iss) : PSs X body (LS G E (evSs iss)) := cSs_ok (cS_ok a hp fuel) h
end
end Pd
set_option Elab.async false
set_option linter.all false
set_option maxRecDepth 100000
set_option maxHeartbeats 4000000
namespace Pd
open PySem L2 Evl PyProof.Rows PySem.Spec

/-- a def's function: n parameters, N names -/
def evD (n N : Nat) (body : List IS) : DFun := fun ds S => if ds.length = n then evF N body ds S else .bad
theorem evD_len {n N : Nat} {body : List IS} (ds : List D) (S : PenSt) (h : evD n N body ds S ≠ .bad) : ds.length = n := by
  unfold evD at h
  split at h
  · assumption
  · exact absurd rfl h
theorem start_get (N : List Str) (vs : List V) (i : Nat) (v : V) (h : vs[i]? = some v) : (L2.start N vs)[i]? = some (some v) := by
  unfold L2.start
  rw [List.getElem?_append_left (by rw [List.length_map]; exact (List.getElem?_eq_some_iff.mp h).1), List.getElem?_map, h]
  rfl
/-- a def's start -/
theorem wld_start {G : Glo} {B H : Hp} {S : PenSt} {N : List Str} {vs : List V} {ds : List D} (b : Bas G B H) (pe : PenAt G B H S) (r : Reps G B vs ds) (hl : vs.length ≤ N.length) :
    Wld G B H (L2.start N vs) (ds.map (fun d => some (SV.im d)) ++ List.replicate (N.length - ds.length) none) S ∧ ∀ a, ¬ Own (L2.start N vs) (ds.map (fun d => some (SV.im d)) ++ List.replicate (N.length - ds.length) none) a := by
  have l := r.length
  have key : ∀ (i : Nat) (sv : SV), (ds.map (fun d => some (SV.im d)) ++ List.replicate (N.length - ds.length) none)[i]? = some (some sv) → ∃ d, ds[i]? = some d ∧ sv = .im d := fun i sv h => by
    by_cases q : i < ds.length
    · rw [List.getElem?_append_left (by rw [List.length_map]; exact q), List.getElem?_map, Option.map_eq_some_iff] at h
      obtain ⟨d, h1, h2⟩ := h
      exact ⟨d, h1, (Option.some.inj h2).symm⟩
    · rw [List.getElem?_append_right (by rw [List.length_map]; omega), List.getElem?_replicate] at h
      split at h <;> cases h
  refine ⟨⟨b.sub, b.pB, pe, ?_, fun i sv h => ?_, fun i j x y p i1 j1 ix jy is js => ?_⟩, fun a ⟨i, sv, h1, h2, _⟩ => ?_⟩
  · unfold L2.start
    simp only [List.length_append, List.length_map, List.length_replicate]
    omega
  · obtain ⟨d, h1, h2⟩ := key i sv h
    obtain ⟨v, e1, e2⟩ := r.get h1
    subst h2
    exact ⟨v, start_get N vs i v e1, e2⟩
  · obtain ⟨d, _, h2⟩ := key i x i1
    subst h2
    cases ix
  · obtain ⟨d, _, e⟩ := key i sv h1
    subst e
    cases h2
theorem evF_end {G : Glo} {E : XK} {B H : Hp} {S : PenSt} {N : List Str} {vs : List V} {ds : List D} {body : List IS} {Q : VK} (b : Bas G B H) (pe : PenAt G B H S) (r : Reps G B vs ds) (hl : vs.length ≤ N.length)
    (h : match evF N.length body ds S with
      | .ok sv S' => ∀ v B' H', Ret G B H B' H' → PenAt G B' H' S' → RSV G B' H' v sv → (sv.isOwn = true → ∃ p : Addr, v = V.ref p ∧ H p = none) → Q v H'
      | .exc c fs S' => ∀ B' H' dd ws, Ret G B H B' H' → PenAt G B' H' S' → H' dd = some (.xd ((G.cF c).zip ws)) → Reps G B' ws fs → E (.ref (G.cA c)) (some dd) H'
      | .bad => False) : LS G E (evSs body) { nx := fun _ H' => Q .non H', rt := Q } (L2.start N vs) H := by
  obtain ⟨w, no⟩ := wld_start b pe r hl
  refine ⟨B, _, S, w, ?_⟩
  unfold evF at h
  have rets : ∀ {B' H' : Hp}, StpX G B H (L2.start N vs) (ds.map (fun d => some (SV.im d)) ++ List.replicate (N.length - ds.length) none) B' H' → Ex B' H' → Ret G B H B' H' := fun {B' H'} st ex =>
    ⟨st.b, fun a o h hp => st.h a o h hp (no a), fun a o h n => (st.n a o h n).resolve_right (no a), ex, st.p, st.t⟩
  cases e : evSs body (ds.map (fun d => some (SV.im d)) ++ List.replicate (N.length - ds.length) none) S with
  | bad => rw [e] at h; exact h
  | exc c fs S' =>
    rw [e] at h
    exact fun B' H' dd ws st pe' ex hd r' => h B' H' dd ws (rets st ex) pe' hd r'
  | ok f ρ' S' =>
    rw [e] at h
    cases f with
    | nx => exact fun σ' B' H' st w' => h .non B' H' (rets st.x w'.sub) w'.pen .non fun z => by cases z
    | brk => exact h.elim
    | cnt => exact h.elim
    | ret sv =>
      intro v B' H' st pe' ex r' f
      exact h v B' H' (rets st ex) pe' r' fun z => let ⟨p, e, q⟩ := f z; ⟨p, e, q.resolve_right (no p)⟩

/-- what holds where a def's body runs -/
theorem fnP_of {P : Program} {w : World} {K : PySem.W.Frag} {mg : Str → Option Value} {base : Heap} {g : Bool} {k : Nat} {G : Glo} {T : Tb} {f : Addr} {x qual : Str} {st : Stmt} {fd : FuncData} {N ps : List Str} {ows bor pen : List Nat} {body : List IS}
    (F : Fun K x qual st f fd) (S : FnScope N ps (defScope st)) (gf : GF ⟨P, w, K, mg, base, g, k⟩ G T) (hB : cB T ⟨N, defScope st, ows, bor, none, pen⟩ (defBody st) = some body) (hn : ps.length ≤ N.length) :
    FnP P w K mg base g (k + 1) f fd ps (spD G ps.length (evD ps.length N.length body)) := by
  obtain ⟨oc, od, kV, doc, pm, an, cdv, ct, osl, rfl, lk, hcd⟩ := F.ex
  refine ⟨fun vs H Q E h => h.1, fun A outer s H args us vs Q E hr gd e0 hb rv sp => ?_⟩
  obtain ⟨hl, B, ds, Sp, bas, pe, rs, h⟩ := sp
  refine LamX.run_ofS (CX := L2.CX P w) lk hcd S hr e0 hb rv hl fun room => ?_
  have bs : Bs ⟨P, w, K, mg, base, g, k⟩ (cxOf (L2.CX P w) P w K mg base N qual (defScope st) f cdv A outer s H E) := ⟨rfl, rfl, rfl, rfl, rfl, room, gd, rfl⟩
  have at_ : At ⟨P, w, K, mg, base, g, k⟩ G T ⟨N, defScope st, ows, bor, none, pen⟩ E (cxOf (L2.CX P w) P w K mg base N qual (defScope st) f cdv A outer s H E) :=
    ⟨bs, gf, rfl, S.nd, rfl, takes_of rfl rfl rfl rfl, fun _ _ => rfl⟩
  have hd : ds.length = ps.length := by rw [← rs.length, hl]
  unfold evD at h
  rw [if_pos hd] at h
  exact ⟨_, cB_ok at_ (passes_of rfl) hB, evF_end bas pe rs (by rw [hl]; exact hn) h⟩
/-! ### a table grows -/
def Tb.add (T : Tb) (x : Str) (F : DFun) : Tb := { T with calls := (x, F) :: T.calls }
theorem Bs.down {P : Program} {w : World} {K : PySem.W.Frag} {mg : Str → Option Value} {base : Heap} {g : Bool} {k : Nat} {X : Cx} (b : Bs ⟨P, w, K, mg, base, g, k + 1⟩ X) : Bs ⟨P, w, K, mg, base, g, k⟩ X := ⟨b.prog, b.w, b.K, b.mg, b.base, b.room.mono (Nat.le_succ k), b.gd, b.calm⟩
/-- one more name -/
theorem gf_add {P : Program} {w : World} {K : PySem.W.Frag} {mg : Str → Option Value} {base : Heap} {g : Bool} {k : Nat} {G : Glo} {T : Tb} {x : Str} {F : DFun} (gf : GF ⟨P, w, K, mg, base, g, k⟩ G T)
    (h : ∀ X E, Bs ⟨P, w, K, mg, base, g, k + 1⟩ X → TakesE X E → Gl X x → CallOk X G E x F ∧ CallOk0 X G E x F) : GF ⟨P, w, K, mg, base, g, k + 1⟩ G (T.add x F) := by
  refine ⟨gf.hK, gf.ko, gf.keyAt, gf.blt, fun X E y F' b tk e hg => ?_, fun X E y c n b tk e hg => gf.exc X E y c n b.down tk e hg, gf.glob, gf.fld, fun X y t b e g => gf.ty X y t b.down e g, fun X E n c F b tk e => gf.rich X E n c F b.down tk e⟩
  have e' : List.lookup y ((x, F) :: T.calls) = some F' := e
  rw [List.lookup_cons] at e'
  split at e'
  · rename_i q
    cases e'
    have q := eq_of_beq q
    subst q
    exact h X E b tk hg
  · exact gf.call X E y F' b.down tk e' hg
/-- one more def -/
theorem gf_def {P : Program} {w : World} {K : PySem.W.Frag} {mg : Str → Option Value} {base : Heap} {g : Bool} {k : Nat} {G : Glo} {T : Tb} {f : Addr} {x qual : Str} {st : Stmt} {fd : FuncData} {N ps : List Str} {ows bor pen : List Nat} {body : List IS}
    (gf : GF ⟨P, w, K, mg, base, g, k⟩ G T) (F : Fun K x qual st f fd) (hm : mg x = some (.ref f)) (bi : L2.Binds K fd ps []) (S : FnScope N ps (defScope st)) (hB : cB T ⟨N, defScope st, ows, bor, none, pen⟩ (defBody st) = some body) (hn : ps.length ≤ N.length) (hx : (x == ("__debug__" : Str)) = false) :
    GF ⟨P, w, K, mg, base, g, k + 1⟩ G (T.add x (evD ps.length N.length body)) := by
  have fp := fnP_of F S gf hB hn
  refine gf_add gf fun X E b tk hg => ?_
  have fp' : FnP X.prog X.w X.K X.mg X.base g (k + 1) f fd ps (spD G ps.length (evD ps.length N.length body)) := by
    rw [b.prog, b.w, b.K, b.mg, b.base]
    exact fp
  have kp : PySem.W.keepIn X.K (.ref f) = true := by rw [b.K]; exact F.kp
  have bi' : L2.Binds X.K fd ps [] := by rw [b.K]; exact bi
  exact ⟨callOk_of fp' b.room b.gd hg (by rw [b.mg]; exact hm) kp bi' tk hx evD_len, callOk0_of fp' b.room b.gd hg (by rw [b.mg]; exact hm) kp bi' tk hx evD_len⟩
/-! ### own == and != -/
def Tb.addO (T : Tb) (n : Bool) (c : Nat) (F : DFun) : Tb := { T with ops := ((n, c), F) :: T.ops }
theorem gf_addO {P : Program} {w : World} {K : PySem.W.Frag} {mg : Str → Option Value} {base : Heap} {g : Bool} {k : Nat} {G : Glo} {T : Tb} {n : Bool} {c : Nat} {F : DFun} (gf : GF ⟨P, w, K, mg, base, g, k⟩ G T)
    (h : ∀ X E, Bs ⟨P, w, K, mg, base, g, k + 1⟩ X → TakesE X E → RichOk X G E n c F) : GF ⟨P, w, K, mg, base, g, k + 1⟩ G (T.addO n c F) := by
  refine ⟨gf.hK, gf.ko, gf.keyAt, gf.blt, fun X E y F' b tk e hg => gf.call X E y F' b.down tk e hg, fun X E y c n b tk e hg => gf.exc X E y c n b.down tk e hg, gf.glob, gf.fld, fun X y t b e g => gf.ty X y t b.down e g, fun X E n' c' F' b tk e => ?_⟩
  have e' : List.lookup (n', c') (((n, c), F) :: T.ops) = some F' := e
  rw [List.lookup_cons] at e'
  split at e'
  · rename_i q
    cases e'
    have q := eq_of_beq q
    cases q
    exact h X E b tk
  · exact gf.rich X E n' c' F' b.down tk e'
theorem gf_rich {P : Program} {w : World} {K : PySem.W.Frag} {mg : Str → Option Value} {base : Heap} {g : Bool} {k : Nat} {G : Glo} {T : Tb} {f : Addr} {x qual : Str} {st : Stmt} {fd : FuncData} {N ps : List Str} {body : List IS} {n : Bool} {c : Nat}
    (gf : GF ⟨P, w, K, mg, base, g, k⟩ G T) (F : Fun K x qual st f fd) (hs : PySem.W.findIn K (.ref (G.cA c)) (if n then "__ne__" else "__eq__") = some (some (.ref f))) (hfn : PySem.W.isFn K (.ref f) = true) (bi : L2.Binds K fd ps []) (S : FnScope N ps (defScope st)) (hB : cB T ⟨N, defScope st, [], [], none, []⟩ (defBody st) = some body) (hn : ps.length ≤ N.length) (h2 : ps.length = 2) :
    GF ⟨P, w, K, mg, base, g, k + 1⟩ G (T.addO n c (evD 2 N.length body)) := by
  have fp := fnP_of F S gf hB hn
  rw [h2] at fp
  refine gf_addO gf fun X E b tk => ?_
  have hK : X.K = G.K := by rw [b.K]; exact gf.hK
  obtain ⟨p, w', K', mg', base', room, gd, calm⟩ := b
  dsimp only at p w' K' mg' base'
  subst p w' K' mg' base'
  exact rich_of hK fp room gd bi tk hs hfn
end Pd
set_option Elab.async false
set_option linter.all false
set_option maxRecDepth 100000
set_option maxHeartbeats 4000000
namespace Pd
open PySem L2 Evl PyProof.Rows PySem.Spec

/-! ### builtins on data -/
def rPure (G : Glo) (F : List D → Option SV) : List V → Hp → VK → Prop := fun vs H Q => ∃ (B : Hp) (ds : List D) (sv : SV), Bas G B H ∧ Reps G B vs ds ∧ F ds = some sv ∧ New G B H sv Q
def fLen : List D → Option SV
  | [.tup xs] => some (.im (.int xs.length))
  | [.lst xs] => some (.im (.int xs.length))
  | _ => none
def fTuple : List D → Option SV
  | [.tup xs] => some (.im (.tup xs))
  | [.lst xs] => some (.im (.tup xs))
  | _ => none
def fList : List D → Option SV
  | [.tup xs] => some (.ow xs)
  | [.lst xs] => some (.ow xs)
  | _ => none
def blsD : List D → Option (List Bool)
  | [] => some []
  | .bl b :: ds => (blsD ds).map (b :: ·)
  | _ => none
def fAll : List D → Option SV
  | [.lst xs] => (blsD xs).map fun bs => .im (.bl (bs.all id))
  | _ => none
def fAny : List D → Option SV
  | [.lst xs] => (blsD xs).map fun bs => .im (.bl (bs.any id))
  | _ => none
def fAbs : List D → Option SV
  | [.int i] => some (.im (.int (if i < 0 then -i else i)))
  | _ => none
def fInt : List D → Option SV
  | [.int i] => some (.im (.int i))
  | [.bl b] => some (.im (.int (if b then 1 else 0)))
  | _ => none
def fStr : List D → Option SV
  | [.int i] => if i.natAbs.log2 < 1920 then some (.im (.str (toString i))) else none
  | _ => none
def fGcd : List D → Option SV
  | [.int a, .int b] => some (.im (.int ((Nat.gcd a.natAbs b.natAbs : Nat) : Int)))
  | _ => none
section
variable {X : Cx} {G : Glo} {E : XK} {x : Str} {F : List D → Option SV} {id T : String} {r : List V → Hp → VK → Prop}
theorem weakC {f : Value} {r r' : List V → Hp → VK → Prop} (h : CallR X f r) (w : ∀ vs H Q, r' vs H Q → r vs H Q) : CallR X f r' := fun pins s σ H vs us Q I rv q => h pins s σ H vs us Q I rv (w _ _ _ q)
theorem pure_read {fs : M (List SV)} {σ : L2.St} {H : Hp} {Q : VK} (h : LE G E (M.bnd fs fun svs => callM (pF F) (svs.map SV.d)) σ H Q) : LDs G E fs σ H fun vs H1 => rPure G F vs H1 Q := by
  obtain ⟨B, ρ, S, w, p⟩ := h
  refine Post.bnd (rel := rDs G) w p fun vs svs B1 H1 ρ1 S1 st w1 rs p1 => ?_
  unfold callM pF at p1
  cases e : F (svs.map SV.d) with
  | none => rw [e] at p1; exact p1.elim
  | some sv =>
    rw [e] at p1
    exact ⟨B1, _, sv, w1.bas, rs, e, Post.new p1 w1⟩
theorem ok0 (h : F [] = none) : CallOk0 X G E x (pF F) := fun p pos => ⟨fun pins s σ H Q I ⟨B, ρ, S, w, q⟩ => by
  unfold callM pF at q
  rw [h] at q
  exact q.elim⟩
theorem okB (hc : CallR X (.builtin id) (rPure G F)) (hm : X.mg x = none) (hv : bootBuiltins x = some (.builtin id)) (hn : x ≠ "__name__") (hdb : (x == ("__debug__" : Str)) = false) (h0 : F [] = none) (hg : Gl X x) : CallOk X G E x (pF F) ∧ CallOk0 X G E x (pF F) :=
  ⟨fun p pos e es f ha he hpl => weakE (pe_callB hc hg hm hv ha hn hdb he hpl) fun σ H Q h => pure_read h, ok0 h0⟩
theorem okT (hc : CallR X (.type T) (rPure G F)) (hm : X.mg x = none) (hv : bootBuiltins x = some (.type T)) (hn : x ≠ "__name__") (hdb : (x == ("__debug__" : Str)) = false) (h0 : F [] = none) (hg : Gl X x) : CallOk X G E x (pF F) ∧ CallOk0 X G E x (pF F) :=
  ⟨fun p pos e es f ha he hpl => weakE (pe_callTy hc hg hm hv ha hn hdb he hpl) fun σ H Q h => pure_read h, ok0 h0⟩
theorem okM (hc : CallR X (.builtin id) (rPure G F)) (hm : X.mg x = some (.builtin id)) (hdb : (x == ("__debug__" : Str)) = false) (h0 : F [] = none) (hg : Gl X x) : CallOk X G E x (pF F) ∧ CallOk0 X G E x (pF F) :=
  ⟨fun p pos e es f ha he hpl => weakE (pe_callBfun hc hg hm ha hdb he hpl) fun σ H Q h => pure_read h, ok0 h0⟩
theorem Reps.one {B : Hp} {vs : List V} {d : D} (r : Reps G B vs [d]) : ∃ v, vs = [v] ∧ Rep G B v d := by
  cases r with
  | cons r rr => cases rr; exact ⟨_, rfl, r⟩
theorem r_len (hK : X.K = G.K) : CallR X (.builtin "len") (rPure G fLen) := by
  refine weakC call_len_seq fun vs H Q ⟨B, ds, sv, b, r, e, n⟩ => ?_
  unfold fLen at e
  split at e
  · obtain ⟨v, rfl, r1⟩ := r.one
    cases r1 with
    | tup s r =>
      cases e
      refine ⟨_, _, rfl, .inr (hK ▸ ex_t b.sub s), ?_⟩
      rw [r.length]
      exact n.im b (.int _)
  · obtain ⟨v, rfl, r1⟩ := r.one
    cases r1 with
    | lst s r =>
      cases e
      refine ⟨_, _, rfl, .inl (SqL.of (b.sub _ _ s)), ?_⟩
      rw [r.length]
      exact n.im b (.int _)
  · cases e
theorem r_tuple (hK : X.K = G.K) : CallR X (.type "tuple") (rPure G fTuple) := by
  refine weakC call_tuple_of fun vs H Q ⟨B, ds, sv, b, r, e, n⟩ => ?_
  unfold fTuple at e
  split at e
  · obtain ⟨v, rfl, r1⟩ := r.one
    cases r1 with
    | tup s r =>
      cases e
      exact ⟨_, _, rfl, .inr ⟨hK ▸ ex_t b.sub s, n.im b (.tup s r)⟩⟩
  · obtain ⟨v, rfl, r1⟩ := r.one
    cases r1 with
    | lst s r =>
      cases e
      exact ⟨_, _, rfl, .inl ⟨SqL.of (b.sub _ _ s), fun l hl => n.tup b r hl⟩⟩
  · cases e
theorem r_list (hK : X.K = G.K) : CallR X (.type "list") (rPure G fList) := by
  refine weakC call_list_of fun vs H Q ⟨B, ds, sv, b, r, e, n⟩ => ?_
  unfold fList at e
  split at e
  · obtain ⟨v, rfl, r1⟩ := r.one
    cases r1 with
    | tup s r =>
      cases e
      exact ⟨_, _, rfl, .inr (hK ▸ ex_t b.sub s), fun l hl => n.lst b r hl⟩
  · obtain ⟨v, rfl, r1⟩ := r.one
    cases r1 with
    | lst s r =>
      cases e
      exact ⟨_, _, rfl, .inl (SqL.of (b.sub _ _ s)), fun l hl => n.lst b r hl⟩
  · cases e
theorem blsD_vals {B : Hp} : ∀ {vs : List V} {ds : List D} {bs : List Bool}, Reps G B vs ds → blsD ds = some bs → vs = bs.map V.bl
  | [], [], _, _, e => by cases e; rfl
  | [], _ :: _, _, r, _ => nomatch r
  | _ :: _, [], _, r, _ => nomatch r
  | v :: vs, d :: ds, bs, r, e => by
    cases r with
    | cons r rr =>
      cases d <;> try cases e
      rename_i b
      unfold blsD at e
      rw [Option.map_eq_some_iff] at e
      obtain ⟨bs', e1, e2⟩ := e
      subst e2
      cases r
      rw [List.map_cons, blsD_vals rr e1]
theorem r_all (hc : X.calm = true) : CallR X (.builtin "all") (rPure G fAll) := by
  refine weakC (cr_all hc) fun vs H Q ⟨B, ds, sv, b, r, e, n⟩ => ?_
  unfold fAll at e
  split at e
  · obtain ⟨v, rfl, r1⟩ := r.one
    rw [Option.map_eq_some_iff] at e
    obtain ⟨bs, e1, e2⟩ := e
    subst e2
    cases r1 with
    | lst s r =>
      have := blsD_vals r e1
      subst this
      exact ⟨_, bs, rfl, SqL.of (b.sub _ _ s), n.im b (.bl _)⟩
  · cases e
theorem r_any (hc : X.calm = true) : CallR X (.builtin "any") (rPure G fAny) := by
  refine weakC (cr_any hc) fun vs H Q ⟨B, ds, sv, b, r, e, n⟩ => ?_
  unfold fAny at e
  split at e
  · obtain ⟨v, rfl, r1⟩ := r.one
    rw [Option.map_eq_some_iff] at e
    obtain ⟨bs, e1, e2⟩ := e
    subst e2
    cases r1 with
    | lst s r =>
      have := blsD_vals r e1
      subst this
      exact ⟨_, bs, rfl, SqL.of (b.sub _ _ s), n.im b (.bl _)⟩
  · cases e
theorem r_abs : CallR X (.builtin "abs") (rPure G fAbs) := by
  refine weakC call_abs fun vs H Q ⟨B, ds, sv, b, r, e, n⟩ => ?_
  unfold fAbs at e
  split at e
  · obtain ⟨v, rfl, r1⟩ := r.one
    cases r1
    cases e
    exact ⟨_, rfl, n.im b (.int _)⟩
  · cases e
theorem r_int : CallR X (.type "int") (rPure G fInt) := by
  refine weakC call_int1 fun vs H Q ⟨B, ds, sv, b, r, e, n⟩ => ?_
  unfold fInt at e
  split at e
  · obtain ⟨v, rfl, r1⟩ := r.one
    cases r1
    cases e
    exact .inl ⟨_, rfl, n.im b (.int _)⟩
  · obtain ⟨v, rfl, r1⟩ := r.one
    cases r1
    cases e
    exact .inr ⟨_, rfl, n.im b (.int _)⟩
  · cases e
theorem r_str : CallR X (.type "str") (rPure G fStr) := by
  refine weakC call_str_int fun vs H Q ⟨B, ds, sv, b, r, e, n⟩ => ?_
  unfold fStr at e
  split at e
  · split at e
    · rename_i q
      obtain ⟨v, rfl, r1⟩ := r.one
      cases r1
      cases e
      exact ⟨_, rfl, q, n.im b (.str _)⟩
    · cases e
  · cases e
theorem r_gcd : CallR X (.builtin "math.gcd") (rPure G fGcd) := by
  refine weakC cr_gcd fun vs H Q ⟨B, ds, sv, b, r, e, n⟩ => ?_
  unfold fGcd at e
  split at e
  · cases r with
    | cons r rr =>
      obtain ⟨v, rfl, r'⟩ := rr.one
      cases r
      cases r'
      cases e
      exact ⟨_, _, rfl, n.im b (.int _)⟩
  · cases e
end
/-- the builtins, all at once -/
def bltT (T : Tb) : Tb := ((((((((T.add "len" (pF fLen)).add "tuple" (pF fTuple)).add "list" (pF fList)).add "all" (pF fAll)).add "any" (pF fAny)).add "abs" (pF fAbs)).add "int" (pF fInt)).add "str" (pF fStr)).add "gcd" (pF fGcd)
theorem gf_keep {P : Program} {w : World} {K : PySem.W.Frag} {mg : Str → Option Value} {base : Heap} {g : Bool} {k : Nat} {G : Glo} {T : Tb} {x : Str} {F : DFun} (gf : GF ⟨P, w, K, mg, base, g, k⟩ G T)
    (h : ∀ X E, Bs ⟨P, w, K, mg, base, g, k⟩ X → TakesE X E → Gl X x → CallOk X G E x F ∧ CallOk0 X G E x F) : GF ⟨P, w, K, mg, base, g, k⟩ G (T.add x F) := by
  refine ⟨gf.hK, gf.ko, gf.keyAt, gf.blt, fun X E y F' b tk e hg => ?_, gf.exc, gf.glob, gf.fld, fun X y t b e g => gf.ty X y t b e g, gf.rich⟩
  have e' : List.lookup y ((x, F) :: T.calls) = some F' := e
  rw [List.lookup_cons] at e'
  split at e'
  · rename_i q
    cases e'
    have q := eq_of_beq q
    subst q
    exact h X E b tk hg
  · exact gf.call X E y F' b tk e' hg
theorem gf_blt {P : Program} {w : World} {K : PySem.W.Frag} {mg : Str → Option Value} {base : Heap} {g : Bool} {k : Nat} {G : Glo} {T : Tb} (gf : GF ⟨P, w, K, mg, base, g, k⟩ G T)
    (m1 : mg "all" = none) (m2 : mg "any" = none) (m3 : mg "abs" = none) (m4 : mg "int" = none) (m5 : mg "str" = none) (m6 : mg "gcd" = some (.builtin "math.gcd")) : GF ⟨P, w, K, mg, base, g, k⟩ G (bltT T) := by
  have n1 : mg "len" = none := gf.blt _ (by decide +kernel)
  have n2 : mg "tuple" = none := gf.blt _ (by decide +kernel)
  have n3 : mg "list" = none := gf.blt _ (by decide +kernel)
  refine gf_keep (gf_keep (gf_keep (gf_keep (gf_keep (gf_keep (gf_keep (gf_keep (gf_keep gf ?_) ?_) ?_) ?_) ?_) ?_) ?_) ?_) ?_
  · exact fun X E b tk g => okB (r_len (b.K.trans gf.hK)) (by rw [b.mg]; exact n1) (by decide +kernel) (by decide +kernel) (by decide +kernel) rfl g
  · exact fun X E b tk g => okT (r_tuple (b.K.trans gf.hK)) (by rw [b.mg]; exact n2) (by decide +kernel) (by decide +kernel) (by decide +kernel) rfl g
  · exact fun X E b tk g => okT (r_list (b.K.trans gf.hK)) (by rw [b.mg]; exact n3) (by decide +kernel) (by decide +kernel) (by decide +kernel) rfl g
  · exact fun X E b tk g => okB (r_all b.calm) (by rw [b.mg]; exact m1) (by decide +kernel) (by decide +kernel) (by decide +kernel) rfl g
  · exact fun X E b tk g => okB (r_any b.calm) (by rw [b.mg]; exact m2) (by decide +kernel) (by decide +kernel) (by decide +kernel) rfl g
  · exact fun X E b tk g => okB r_abs (by rw [b.mg]; exact m3) (by decide +kernel) (by decide +kernel) (by decide +kernel) rfl g
  · exact fun X E b tk g => okT r_int (by rw [b.mg]; exact m4) (by decide +kernel) (by decide +kernel) (by decide +kernel) rfl g
  · exact fun X E b tk g => okT r_str (by rw [b.mg]; exact m5) (by decide +kernel) (by decide +kernel) (by decide +kernel) rfl g
  · exact fun X E b tk g => okM r_gcd (by rw [b.mg]; exact m6) (by decide +kernel) rfl g
end Pd
set_option Elab.async false
set_option linter.all false
set_option maxRecDepth 100000
set_option maxHeartbeats 4000000
namespace Pd
open PySem L2 Evl PyProof.Rows PySem.Spec

/-! ### an own exception class: L.__init__(self, ..), self.f = f -/
/-- what the written part says of the class at L above the own ones -/
structure Above (K : PySem.W.Frag) (L : Addr) : Prop where
  ga : PySem.W.specialIn K (.ref L) "__getattribute__" = some (some (.builtin "type.__getattribute__"))
  rd : PySem.W.readsIn K L (.type "type") = true
  ty : PySem.W.typeIn K (.ref L) = some (.type "type")
  vi : PySem.W.findCls K (.ref L) (.type "type") "__init__" = some (.val (.builtin "ValueError.__init__"))
section
variable {X : Cx} {x : Str} {e : Expr} {es : List Expr} {ta : TA} {L : Addr} {p1 p2 pos : Pos}
theorem pe_above {pl : Sem Bool} (hg : Gl X x) (hm : X.mg x = some (.ref L)) (ab : Above X.K L) (ha : PA X (e :: es) ta) (hdb : (x == ("__debug__" : Str)) = false)
    (hc : eval (.Call (.Attribute (.Name x p1) "__init__" p2) (e :: es) [] pos) X.env = (do
      let ov ← eval (.Name x p1) X.env
      standAt p2.atName
      let (f, first) ← holding [ov] (getMethod ov "__init__" pl)
      callWith pos f first (backTo pos (starEach (e :: es) X.env)) (backToKw pos (keywordEach [] X.env))) := by rfl)
    (he : starEach (e :: es) X.env = (false, eval e X.env) :: starEach es X.env := by rfl) (hpl : (backTo pos (starEach es X.env)).any (·.1) = false := by rfl) :
    PE X (.Call (.Attribute (.Name x p1) "__init__" p2) (e :: es) [] pos) (tVeI X.K ta) := by
  refine ⟨fun pins s σ H Q I h => ?_⟩
  refine PySem.W.methodCall_KW (ld_glob I hg hm ?_ hdb) hc
  obtain ⟨m, fr⟩ := I.fr
  refine PySem.W.method_of_cls fr I.ok.mod.kin ab.ga (PySem.W.cls_val fr I.ok.mod.kin ab.ty ab.rd ab.vi (by decide +kernel) ?_)
  show wpAny _ _ (callWith pos (Value.builtin "ValueError.__init__") [] (backTo pos (starEach (e :: es) X.env)) []) _ _ _
  refine PyProof.Rows.callWith_method1 (thn (ha.run pos pins _ σ H _ (I.tok _) h) fun us s1 ⟨vs, H1, I1, r1, a, C, ws, ev, hl, T, ea, q⟩ => ?_) he hpl
  subst ev
  cases r1 with
  | @cons _ u0 _ ur ra rw' =>
    obtain rfl : u0 = Value.ref a := ra
    have hlen : ur.length ≤ sizeLine := by
      rw [← Paired.length rw', sizeLine_eq]
      omega
    exact oinit_ok T I1 ea hlen fun s' J => ⟨.non, H1, J, rfl, q⟩
end
/-- the promise of such an __init__: the fields as they stand, the last one first -/
def spX (C : Addr) (fl : List Str) : Sp := fun vs H Q _ => ∃ (a : Addr) (ws : List V), vs = .ref a :: ws ∧ ws.length = fl.length ∧ H a = some (exo a C none) ∧
  ∀ (dx : Addr) (H2 : Hp), H dx = none → dx ≠ a → (∀ b, b ≠ a → b ≠ dx → H2 b = H b) → H2 a = some (exo a C (some dx)) → H2 dx = some (exd dx (fl.zip ws).reverse) → Q .non H2
theorem zip_rev : ∀ {α β : Type} {xs : List α} {ys : List β}, xs.length = ys.length → (xs.zip ys).reverse = xs.reverse.zip ys.reverse
  | _, _, [], [], _ => rfl
  | _, _, [], _ :: _, h => by cases h
  | _, _, _ :: _, [], h => by cases h
  | _, _, x :: xs, y :: ys, h => by
    have h' : xs.length = ys.length := by simpa using h
    rw [List.zip_cons_cons, List.reverse_cons, List.reverse_cons, List.reverse_cons, List.zip_append (by rw [List.length_reverse, List.length_reverse, h']), zip_rev h']
    rfl
theorem Reps.reverse {G : Glo} {B : Hp} : ∀ {vs : List V} {ds : List D}, Reps G B vs ds → Reps G B vs.reverse ds.reverse
  | _, _, .nil => .nil
  | _, _, .cons r rr => by
    rw [List.reverse_cons, List.reverse_cons]
    exact Reps.append (Reps.reverse rr) (.cons r .nil)
section
variable {X : Cx} {G : Glo} {E : XK} {x : Str} {e : Expr} {es : List Expr} {fs : M (List SV)} {p pos pos2 : Pos} {c : Nat} {fl : List Str}
/-- raise C(e, ..) -/
theorem s_raise {fI : Addr} {k : Nat} {fd : FuncData} {ps : List Str} (hc : X.calm = true) (T : OexC X.K (G.cA c)) (hF : G.cF c = fl.reverse) (iC : PySem.W.findIn X.K (.ref (G.cA c)) "__init__" = some (some (.ref fI))) (tI : PySem.W.typeIn X.K (.ref fI) = some (.type "function"))
    (F1 : FnOk X.prog X.w X.K X.mg X.base CX0 k fI fd ps (spX (G.cA c) fl)) (hr : Room (k + 1) X.A) (hb : L2.Binds X.K fd ps []) (hg : Gl X x) (hm : X.mg x = some (.ref (G.cA c))) (tk : TakesE X E) (ha : PA X (e :: es) (LDs G E fs))
    (hdb : (x == ("__debug__" : Str)) = false) (he : starEach (e :: es) X.env = (false, eval e X.env) :: starEach es X.env) (hpl : (backTo pos (starEach es X.env)).any (·.1) = false) :
    PS X (.Raise (some (.Call (.Name x p) (e :: es) [] pos)) none pos2) (LS G E (M.bnd fs fun svs => fun ρ S => if svs.length = fl.length ∧ svs.length ≤ 10 then .exc c (svs.map SV.d).reverse S else .bad)) := by
  refine weakSS (ps_raise (W := fun c d _ H => E c d H) hc tk (pmk_oex (dvs := []) T iC tI F1 hr hb .nil (fun _ _ _ _ _ _ _ h => h.elim) hg hm ha hdb he hpl)) fun D_ σ B H ρ S w p => ?_
  refine PostS.bnd (rel := rDs G) w p fun vs svs B1 H1 ρ1 S1 st w1 rs p1 => ?_
  have rs : Reps G B1 vs (svs.map SV.d) := rs
  have lv := rs.length
  rw [List.length_map] at lv
  by_cases q : svs.length = fl.length ∧ svs.length ≤ 10
  · rw [if_pos q] at p1
    have p1 : PostX G E σ B1 H1 ρ1 c (svs.map SV.d).reverse S1 := p1
    refine ⟨by omega, fun a na => ⟨a, vs, by rw [List.append_nil], by omega, upd_same, fun dx H2 ndx hda keep ea ed => ⟨rfl, dx, _, ea, ed, ?_, ?_⟩⟩⟩
    · rwa [upd_ne hda] at ndx
    · rw [upd_ne hda] at ndx
      have k1 : ∀ b, b ≠ a → b ≠ dx → upd (del H2 a) dx (.xd (fl.zip vs).reverse) b = H1 b := fun b h1 h2 => by
        rw [upd_ne h2, del_ne h1, keep b h1 h2, upd_ne h1]
      have old : ∀ b o, H1 b = some o → upd (del H2 a) dx (.xd (fl.zip vs).reverse) b = some o := fun b o h => by
        rw [k1 b (fun z => by rw [z, na] at h; cases h) (fun z => by rw [z, ndx] at h; cases h)]
        exact h
      refine p1 B1 _ dx vs.reverse ⟨Ex.refl B1, fun b o h _ _ => old b o h, fun b o h n => (by rw [n] at h; cases h), w1.pB, fun b h => ?_⟩ ?_ (fun b o h => old b o (w1.sub _ _ h)) ?_ rs.reverse
      · by_cases h1 : b = a
        · rw [h1]; exact na
        · by_cases h2 : b = dx
          · rw [h2]; exact ndx
          · rw [← k1 b h1 h2]; exact h
      · exact w1.pen.mono (Ex.refl B1) fun o h => old _ o h
      · rw [upd_same, hF, zip_rev (by omega)]
  · rw [if_neg q] at p1
    exact p1.elim
end
end Pd
set_option Elab.async false
set_option linter.all false
set_option maxRecDepth 100000
set_option maxHeartbeats 4000000
namespace Pd
open PySem L2 Evl PyProof.Rows PySem.Spec
/-! ### the making of the source -/
def foldStep (f c : Int) : Int := (f * 193 + c).fmod 999999131
def foldOf (ns : List Int) : Int := ns.foldl foldStep 0
def pen0 (ns : List Int) : PenSt := ⟨ns, 0, 0, 0, foldOf ns⟩
def spPen (K : PySem.W.Frag) : Sp := fun vs H Q _ => ∃ (a : Addr) (ns : List Int), vs = [.ref a] ∧ SqL K H a (ns.map V.int) ∧
  ∀ (L P : Addr), H L = none → H P = none → L ≠ P → Q (.ref P) (upd (upd (upd H P (.dK [])) L (.lst (ns.map V.int))) P (.dK (penL L (pen0 ns))))
def rIntV : List V → Hp → VK → Prop := fun xs H Q => (∃ i, xs = [.int i] ∧ Q (.int i) H) ∨ ∃ k, xs = [.bl k] ∧ Q (.int (if k then 1 else 0)) H
def rLstV (K : PySem.W.Frag) : List V → Hp → VK → Prop := fun xs H Q => ∃ p ys, xs = [.ref p] ∧ (SqL K H p ys ∨ SqT K H p ys) ∧ ∀ l, H l = none → Q (.ref l) (upd H l (.lst ys))
def tPen (K : PySem.W.Frag) : TS :=
  tSeq (tAsg (tC (.int 0)) (gName 1)) (tSeq (tFor (iList K (tVar 0)) (gName 2) (tAsg (tOp (rI (fun _ j => j ≠ 0) fun i j => .int (i.fmod j)) (tCB rIntV (tCons (tOp (rI0 fun i j => .int (i + j)) (tOp (rI CMulW fun i j => .int (i * j)) (tVar 1) (tC (.int 193))) (tVar 2)) tNil)) (tC (.int 999999131))) (gName 1)))
    (tRet (tDisp [(tC (.str "cells"), tCB (rLstV K) (tCons (tVar 0) tNil)), (tC (.str "at"), tC (.int 0)), (tC (.str "digits"), tC (.int 0)), (tC (.str "count"), tC (.int 0)), (tC (.str "fold"), tVar 1)])))
theorem fold_lt (f c : Int) : 0 ≤ foldStep f c ∧ foldStep f c < 999999131 := ⟨Int.fmod_nonneg_of_pos _ (by decide), Int.fmod_lt_of_pos _ (by decide)⟩
theorem foldOf_lt (ns : List Int) : 0 ≤ foldOf ns ∧ foldOf ns < 999999131 := by
  unfold foldOf
  have : ∀ (l : List Int) (f : Int), 0 ≤ f ∧ f < 999999131 → 0 ≤ l.foldl foldStep f ∧ l.foldl foldStep f < 999999131 := fun l => by
    induction l with
    | nil => exact fun f h => h
    | cons c l ih => exact fun f _ => ih _ (fold_lt f c)
  exact this ns 0 (by decide)
theorem pen_read {K : PySem.W.Frag} {vs : List V} {H : Hp} {Q : VK} {E : XK} (h : spPen K vs H Q E) : tPen K { nx := fun _ H' => Q .non H', rt := Q } (L2.start ["script", "fold", "cell"] vs) H := by
  obtain ⟨a, ns, rfl, hA, q⟩ := h
  show tSeq _ _ _ [some (.ref a), none, none] H
  refine ⟨.ref a, rfl, a, rfl, ⟨_, hA⟩, ?_⟩
  refine for_list (xs := ns.map V.int) (fun i σ H' => H' = H ∧ ∃ c, σ = [some (.ref a), some (.int (foldOf (ns.take i))), c]) ⟨rfl, none, rfl⟩ (fun i σ H' _ ⟨e, _⟩ => by rw [e]; exact hA) (fun i x σ H' hx ⟨e, c, es⟩ => ?_) fun σ H' ⟨e, c, es⟩ => ?_
  · subst e es
    rw [List.getElem?_map, Option.map_eq_some_iff] at hx
    obtain ⟨z, hz, rfl⟩ := hx
    have b := foldOf_lt (ns.take i)
    have hs : foldOf (ns.take (i + 1)) = foldStep (foldOf (ns.take i)) z := by
      have : ns.take (i + 1) = ns.take i ++ [z] := by
        obtain ⟨hl, hz⟩ := List.getElem?_eq_some_iff.mp hz
        rw [List.take_add_one, List.getElem?_eq_getElem hl, hz]
        rfl
      rw [this]
      unfold foldOf
      rw [List.foldl_append]
      rfl
    refine ⟨.int (foldOf (ns.take i)), rfl, foldOf (ns.take i), 193, rfl, rfl, wide_mul (a := 40) (b := 40) ?_ (by decide) (by decide) (by decide) (by decide), .int z, rfl, _, z, rfl, rfl, .inl ⟨_, rfl, _, 999999131, rfl, rfl, (show (999999131 : Int) ≠ 0 by decide), ?_⟩⟩
    · have : (2 : Nat) ^ 40 = 1099511627776 := by decide
      omega
    · refine ⟨rfl, some (.int z), ?_⟩
      show _ = [some (V.ref a), some (V.int (foldOf (ns.take (i + 1)))), some (V.int z)]
      rw [hs]
      rfl
  · subst e es
    rw [List.length_map, List.take_length]
    intro P hP
    refine ⟨.ref a, rfl, a, ns.map V.int, rfl, .inl ?_, fun L hL => ?_⟩
    · rcases hA with (hA | ⟨o, hA⟩) | hA
      · exact .inl (.inl (by rw [upd_ne (fun e => by rw [e, hP] at hA; cases hA)]; exact hA))
      · exact .inl (.inr ⟨o, by rw [upd_ne (fun e => by rw [e, hP] at hA; cases hA)]; exact hA⟩)
      · exact .inr hA
    have nLP : L ≠ P := fun e => by rw [e, upd_same] at hL; cases hL
    rw [upd_ne nLP] at hL
    refine ⟨.int (foldOf ns), rfl, ?_, penL L (pen0 ns), rfl, (show 5 ≤ 15 by decide), ?_⟩
    · rw [upd_ne (Ne.symm nLP), upd_same]
    · rw [mergeK_nodup (penL L (pen0 ns)) [] (by show ([(Sum.inr "cells" : Key), .inr "at", .inr "digits", .inr "count", .inr "fold"] : List Key).Nodup; decide +kernel), List.nil_append]
      exact q L P hL hP nLP
end Pd
set_option Elab.async false
set_option linter.all false
set_option maxRecDepth 100000
set_option maxHeartbeats 4000000
namespace Pd
open PySem L2 Evl PyProof.Rows PySem.Spec
/-! ### a law: its source is made, then all is data -/
def Glo.at (G : Glo) (P : Addr) : Glo := { G with P := P }
def lawRho (n i : Nat) : Rho := (List.replicate n none).set i (some (.im .pen))
def spLaw (K : PySem.W.Frag) (n : Nat) : Sp := fun vs H Q _ => ∃ (a : Addr) (ns : List Int), vs = [.ref a] ∧ SqL K H a (ns.map V.int) ∧ ns.length ≤ n ∧ ∀ H', Q (.bl true) H'
/-- what the law's first statement leaves -/
theorem law_start {G : Glo} {K : PySem.W.Frag} {H : Hp} {L P : Addr} {ns : List Int} {σ : L2.St} {n i : Nat} (hL : H L = none) (hP : H P = none) (ne : L ≠ P) (hn : σ.length = n) (hi : i < n) :
    ∃ B, Wld (G.at P) B (upd (upd (upd H P (.dK [])) L (.lst (ns.map V.int))) P (.dK (penL L (pen0 ns)))) (σ.set i (some (.ref P))) (lawRho n i) (pen0 ns) ∧ ∀ a, ¬ Own (σ.set i (some (.ref P))) (lawRho n i) a := by
  have key : ∀ (j : Nat) (sv : SV), (lawRho n i)[j]? = some (some sv) → j = i ∧ sv = .im .pen := fun j sv h => by
    unfold lawRho at h
    by_cases q : i = j
    · subst q
      rw [List.getElem?_set_self (by rw [List.length_replicate]; exact hi)] at h
      cases h
      exact ⟨rfl, rfl⟩
    · rw [List.getElem?_set_ne q, List.getElem?_replicate] at h
      split at h <;> cases h
  have e2 : ∀ b, b ≠ L → b ≠ P → upd (upd (upd H P (.dK [])) L (.lst (ns.map V.int))) P (.dK (penL L (pen0 ns))) b = H b := fun b h1 h2 => by rw [upd_ne h2, upd_ne h1, upd_ne h2]
  refine ⟨upd (fun _ => none) L (.lst (ns.map V.int)), ⟨fun b o h => ?_, ?_, ⟨L, upd_same, .lst upd_same ?_, Int.le_refl 0⟩, ?_, fun j sv h => ?_, fun j k x y p hj hk hx hy _ _ => ?_⟩, fun a ⟨j, sv, h1, h2, _⟩ => ?_⟩
  · by_cases q : b = L
    · subst q
      rw [upd_same] at h
      cases h
      rw [upd_ne ne, upd_same]
    · rw [upd_ne q] at h
      cases h
  · show upd (fun _ => none) L (.lst (ns.map V.int)) P = none
    rw [upd_ne (Ne.symm ne)]
  · show Reps _ _ (ns.map V.int) (ns.map D.int)
    have : ∀ (B : Hp) (l : List Int), Reps (G.at P) B (l.map V.int) (l.map D.int) := fun B l => by
      induction l with
      | nil => exact .nil
      | cons z l ih => exact .cons (.int z) ih
    exact this _ ns
  · unfold lawRho
    rw [List.length_set, List.length_set, List.length_replicate, hn]
  · obtain ⟨e, e'⟩ := key j sv h
    subst e e'
    exact ⟨.ref P, by rw [List.getElem?_set_self (by omega)], (Rep.pen : Rep (G.at P) _ (.ref (G.at P).P) .pen)⟩
  · obtain ⟨_, e⟩ := key j x hj
    subst e
    cases hx
  · obtain ⟨_, e⟩ := key j sv h1
    subst e
    cases h2
theorem law_fn {Pg : Program} {w : World} {K : PySem.W.Frag} {mg : Str → Option Value} {base : Heap} {g : Bool} {k m : Nat} {G : Glo} {T : Tb} {f fp : Addr} {st : Stmt} {fd fdp : FuncData} {N psp : List Str} {ows bor : List Nat} {body : List IS} {i : Nat}
    {p0 p1 p2 p3 p4 : Pos} {rest : List Stmt} (F : Fun K "law" "law" st f fd) (S : FnScope N ["script"] (defScope st)) (hb : defBody st = .Assign [.Name "pen" p0] (.Call (.Name "_law_pen" p1) [.Name "script" p2] [] p3) p4 :: rest)
    (gf : ∀ P, GF ⟨Pg, w, K, mg, base, g, k⟩ (G.at P) T) (Fp : FnOk Pg w K mg base CX0 k fp fdp ["script"] (spPen K)) (bp : L2.Binds K fdp ["script"] []) (gp : mg "_law_pen" = some (.ref fp)) (kp : PySem.W.keepIn K (.ref fp) = true)
    (h0 : findN "script" N = some 0) (h1 : findN "pen" N = some i) (v0 : visB (defScope st) "script" = true) (v1 : locB ⟨N, defScope st, ows, bor, none, []⟩ "pen" = true) (v2 : glB (defScope st) "_law_pen" = true)
    (hB : cSs (cS T fuel ⟨N, defScope st, ows, bor, none, []⟩) rest = some body)
    (law : ∀ ns : List Int, ns.length ≤ m → ∃ ρ' S', evSs body (lawRho N.length i) (pen0 ns) = .ok (.ret (.im (.bl true))) ρ' S') :
    FnP Pg w K mg base g (k + 1) f fd ["script"] (spLaw K m) := by
  obtain ⟨oc, od, kV, doc, pm, an, cdv, ct, osl, rfl, lk, hcd⟩ := F.ex
  refine ⟨fun vs H Q E ⟨a, ns, e, _⟩ => by rw [e]; rfl, fun A outer s H args us vs Q E hr gd e0 hbd rv sp => ?_⟩
  obtain ⟨a, ns, rfl, hA, hm, q⟩ := sp
  refine LamX.run_ofS (CX := L2.CX Pg w) lk hcd S hr e0 hbd rv rfl fun room => ?_
  have bs : Bs ⟨Pg, w, K, mg, base, g, k⟩ (cxOf (L2.CX Pg w) Pg w K mg base N "law" (defScope st) f cdv A outer s H E) := ⟨rfl, rfl, rfl, rfl, rfl, room, gd, rfl⟩
  have at_ : ∀ P, At ⟨Pg, w, K, mg, base, g, k⟩ (G.at P) T ⟨N, defScope st, ows, bor, none, []⟩ E (cxOf (L2.CX Pg w) Pg w K mg base N "law" (defScope st) f cdv A outer s H E) := fun P =>
    ⟨bs, gf P, rfl, S.nd, rfl, takes_of rfl rfl rfl rfl, fun _ _ => rfl⟩
  have l0 := (at_ 0).var h0 v0 (by decide +kernel)
  have l1 := (at_ 0).loc h1 v1 (by decide +kernel)
  rw [hb]
  refine ⟨_, pss_cons (ps_set l1.nd l1.at_ l1.loc (pe_call (dvs := []) (E := E0) Fp room (glB_ok v2 (at_ 0)) gp kp bp .nil pass0 (pa_cons (pe_var l0.at_ l0.vis l0.db l0.cd) pa_nil)) rfl l1.fr) (⟨fun pins s σ H D I ⟨P, h⟩ => (cSs_ok (fun s is => cS_ok (at_ P) (passes_of rfl) fuel s is) hB).run pins s σ H D I h⟩ : PSs _ rest fun D σ H => ∃ P, LS (G.at P) E (evSs body) D σ H), ?_⟩
  have hlen : (L2.start N [V.ref a]).length = N.length := by
    unfold L2.start
    have : 1 ≤ N.length := by
      have := (List.getElem?_eq_some_iff.mp (findN_at h0)).1
      omega
    simp only [List.length_append, List.length_map, List.length_replicate, List.length_cons, List.length_nil]
    omega
  refine ⟨.ref a, start_get N _ 0 _ rfl, ?_⟩
  refine ⟨a, ns, rfl, hA, fun L P hL hP ne => ?_⟩
  obtain ⟨B, w', no⟩ := law_start (G := G) (K := K) (ns := ns) (n := N.length) (i := i) hL hP ne hlen (List.getElem?_eq_some_iff.mp (findN_at h1)).1
  refine ⟨P, B, lawRho N.length i, pen0 ns, w', ?_⟩
  obtain ⟨ρ', S', e⟩ := law ns hm
  rw [e]
  intro v B' H' st pe ex r _
  have r : Rep (G.at P) B' v (.bl true) := r
  cases r
  exact q H'
end Pd
set_option Elab.async false
set_option linter.all false
set_option maxRecDepth 100000
set_option maxHeartbeats 4000000
namespace Pd
open PySem L2 Evl PyProof.Rows PySem.Spec
/-! ### own classes: self.f = copied(f), field by field -/
def copD : D → D
  | .lst xs => .tup xs
  | d => d
section
variable {G : Glo} {B H B1 H1 : Hp} {σ : L2.St} {ρ ρ1 : Rho} {S : PenSt} {a : Addr} {o : HO}
/-- a loose object becomes data -/
theorem Wld.adopt (w : Wld G B H σ ρ S) (hB : B a = none) (hP : a ≠ G.P) (hO : ¬ Own σ ρ a) (ha : H a = some o) : Wld G (upd B a o) H σ ρ S := by
  have ex : Ex B (upd B a o) := Ex.new hB
  refine ⟨fun b u h => ?_, by rw [upd_ne hP.symm]; exact w.pB, w.pen.mono ex (fun u h => h), w.len, fun i sv h => ?_, w.ap⟩
  · by_cases q : b = a
    · subst q
      rw [upd_same] at h
      cases h
      exact ha
    · rw [upd_ne q] at h
      exact w.sub _ _ h
  · obtain ⟨v, e, r⟩ := w.sl i sv h
    refine ⟨v, e, r.stay ex fun q hq hs => ⟨?_, fun _ h => h⟩⟩
    obtain ⟨q', u, e', b, _, hh⟩ := r.at hs
    rw [hq] at e'
    cases e'
    rw [upd_ne (fun z => hO (by rw [← z]; exact ⟨i, sv, h, hs, by rw [← hq]; exact e⟩))]
    exact b
end
/-- a field's statement, its value by the slot s -/
structure FldSt (X : Cx) (G : Glo) (f : Str) (s : Nat) (F : DFun) (st : Stmt) : Prop where
  ps : PS X st (sFld X.K (tVar 0) (LD G XF (evE (.call F [.var s]))) f)
/-- the statements of an __init__ -/
inductive FldSts (X : Cx) (G : Glo) (F : DFun) : List Str → Nat → List Stmt → Prop
  | nil {s : Nat} : FldSts X G F [] s []
  | cons {f : Str} {fl : List Str} {s : Nat} {st : Stmt} {sts : List Stmt} : FldSt X G f s F st → FldSts X G F fl (s + 1) sts → FldSts X G F (f :: fl) s (st :: sts)
def tFlds (K : PySem.W.Frag) (G : Glo) (F : DFun) : List Str → Nat → TS
  | [], _ => tNext
  | f :: fl, s => tSeq (sFld K (tVar 0) (LD G XF (evE (.call F [.var s]))) f) (tFlds K G F fl (s + 1))
theorem flds_ps {X : Cx} {G : Glo} {F : DFun} {fl : List Str} {s : Nat} {sts : List Stmt} (h : FldSts X G F fl s sts) : PSs X sts (tFlds X.K G F fl s) := by
  induction h with
  | nil => exact pss_nil
  | cons h _ ih => exact pss_cons h.ps ih

/-- from one state to a later one, while the object at a is being made -/
structure GrA (G : Glo) (a : Addr) (B H B' H' : Hp) : Prop where
  b : Ex B B'
  h : ∀ b o, b ≠ a → b ≠ G.P → H b = some o → H' b = some o
  n : ∀ b o, B' b = some o → B b = none → H b = none
  t : ∀ b, H' b = none → H b = none
theorem GrA.refl {G : Glo} {a : Addr} {B H : Hp} : GrA G a B H B H := ⟨Ex.refl B, fun _ _ _ _ h => h, fun b o h n => (by rw [n] at h; cases h), fun _ h => h⟩
theorem GrA.trans {G : Glo} {a : Addr} {B H B1 H1 B2 H2 : Hp} (x : GrA G a B H B1 H1) (y : GrA G a B1 H1 B2 H2) : GrA G a B H B2 H2 := by
  refine ⟨x.b.trans y.b, fun b o h1 h2 h => y.h b o h1 h2 (x.h b o h1 h2 h), fun b o h n => ?_, fun b h => x.t b (y.t b h)⟩
  cases q : B1 b with
  | some u => exact x.n b u q n
  | none => exact x.t b (y.n b o h q)
theorem putF_new {f : Str} {v : V} : ∀ {fs : List (Str × V)}, f ∉ fs.map (·.1) → putF f v fs = fs ++ [(f, v)]
  | [], _ => rfl
  | (g, x) :: r, h => by
    rw [List.map_cons, List.mem_cons, not_or] at h
    unfold putF
    rw [if_neg (fun e => h.1 e.symm), putF_new h.2]
    rfl
theorem flds_ok {G : Glo} {F : DFun} {c : Nat} {a dx : Addr} {σ : L2.St} {ρ : Rho} {S : PenSt} (ct : ClsT G c) (no : ∀ b, ¬ Own σ ρ b) (h0 : σ[0]? = some (some (.ref a))) (aP : a ≠ G.P) (D_ : Ends) :
    ∀ (fl : List Str) (s : Nat) (ds : List D) (B H : Hp) (fs : List (Str × V)), Wld G B H σ ρ S → B a = none → H a = some (.ins (G.cA c) dx fs) → fs.map (·.1) ++ fl = G.cF c → (fs.map (·.1) ++ fl).length < 900 → ds.length = fl.length →
      (∀ (j : Nat) (d : D), ds[j]? = some d → ρ[s + j]? = some (some (.im d)) ∧ F [d] S = .ok (.im (copD d)) S) →
      (∀ (B' H' : Hp) (us : List V), Wld G B' H' σ ρ S → B' a = none → H' a = some (.ins (G.cA c) dx (fs ++ fl.zip us)) → Reps G B' us (ds.map copD) → GrA G a B H B' H' → D_.nx σ H') → tFlds G.K G F fl s D_ σ H
  | [], s, ds, B, H, fs, w, nB, ha, hf, hz, hl, hd, k => by
    cases ds with
    | cons => cases hl
    | nil => exact k B H [] w nB (by rw [List.zip_nil_left, List.append_nil]; exact ha) .nil GrA.refl
  | f :: fl, s, ds, B, H, fs, w, nB, ha, hf, hz, hl, hd, k => by
    cases ds with
    | nil => cases hl
    | cons d ds =>
      obtain ⟨q1, q2⟩ := hd 0 d rfl
      have nd : (fs.map (·.1) ++ f :: fl).Nodup := by rw [hf]; exact ct.nd
      have nf : f ∉ fs.map (·.1) := fun z => (List.nodup_append.mp nd).2.2 f z f (List.mem_cons_self ..) rfl
      show sFld G.K (tVar 0) (LD G XF (evE (.call F [.var s]))) f { D_ with nx := tFlds G.K G F fl (s + 1) D_ } σ H
      have ev : evE (.call F [.var s]) ρ S = .ok (.im (copD d)) ρ S := by
        have e1 : getV s ρ S = .ok (.im d) ρ S := by
          unfold getV
          rw [show ρ[s]? = some (some (.im d)) from q1]
        show M.bnd (M.bnd (getV s) fun x => M.bnd (M.ret []) fun xs => M.ret (x :: xs)) (fun svs => callM F (svs.map SV.d)) ρ S = _
        unfold M.bnd M.ret
        rw [e1]
        show callM F [d] ρ S = _
        unfold callM
        rw [q2]
      refine ⟨B, ρ, S, w, ?_⟩
      rw [ev]
      intro v B1 H1 st w1 r
      have r : Rep G B1 v (copD d) := r
      have ha1 : H1 a = some (.ins (G.cA c) dx fs) := st.h a _ ha aP (no a)
      have nB1 : B1 a = none := by
        cases z : B1 a with
        | none => rfl
        | some o =>
          rcases st.n a o z nB with y | y
          · rw [ha] at y; cases y
          · exact absurd y (no a)
      have hfc : f ∈ G.cF c := by rw [← hf]; exact List.mem_append_right _ (List.mem_cons_self ..)
      refine ⟨.ref a, h0, a, G.cA c, dx, fs, rfl, ha1, ct.cl, ct.na f hfc, ?_, ?_⟩
      · rw [List.length_append, List.length_map] at hz
        omega
      rw [putF_new nf]
      have w2 := w1.loose nB1 aP (no a) (.ins (G.cA c) dx (fs ++ [(f, v)]))
      have g1 : GrA G a B H B1 (upd H1 a (.ins (G.cA c) dx (fs ++ [(f, v)]))) := by
        refine ⟨st.b, fun b o h1 h2 h => ?_, fun b o h n => (st.n b o h n).resolve_right (no b), fun b h => ?_⟩
        · rw [upd_ne h1]
          exact st.h b o h h2 (no b)
        · by_cases z : b = a
          · rw [z, upd_same] at h; cases h
          · rw [upd_ne z] at h
            exact st.t b h
      refine flds_ok ct no h0 aP D_ fl (s + 1) ds B1 _ (fs ++ [(f, v)]) w2 nB1 upd_same (by rw [List.map_append, List.append_assoc]; exact hf) (by rw [List.map_append, List.append_assoc]; exact hz) (by simpa using hl) (fun j e he => ?_) fun B' H' us w' nB' ha' rs g2 => ?_
      · have := hd (j + 1) e (by simpa using he)
        rw [show s + 1 + j = s + (j + 1) by omega]
        exact this
      · refine k B' H' (v :: us) w' nB' ?_ (.cons (Rep.mono g2.b r) rs) (g1.trans g2)
        rw [ha', List.append_assoc]
        rfl
/-- the promise of an own __init__ -/
def spMk (G : Glo) (c : Nat) (F : DFun) : Sp := fun vs H Q _ => ∃ (a dx : Addr) (ws : List V) (ds : List D) (B : Hp) (S : PenSt), vs = .ref a :: ws ∧ ws.length = (G.cF c).length ∧ B a = none ∧ a ≠ G.P ∧ H a = some (.ins (G.cA c) dx []) ∧ Bas G B H ∧ PenAt G B H S ∧ Reps G B ws ds ∧ (∀ d ∈ ds, F [d] S = .ok (.im (copD d)) S) ∧
  ∀ (B' H' : Hp) (us : List V), Ex B' H' → B' G.P = none → PenAt G B' H' S → B' a = none → H' a = some (.ins (G.cA c) dx ((G.cF c).zip us)) → Reps G B' us (ds.map copD) → GrA G a B H B' H' → Q .non H'
theorem spMk_read {G : Glo} {c : Nat} {F : DFun} {N : List Str} {vs : List V} {H : Hp} {Q : VK} {E : XK} (ct : ClsT G c) (hz : (G.cF c).length < 900) (hN : (G.cF c).length + 1 ≤ N.length) (h : spMk G c F vs H Q E) : tFlds G.K G F (G.cF c) 1 { nx := fun _ H' => Q .non H', rt := Q } (L2.start N vs) H := by
  obtain ⟨a, dx, ws, ds, B, S, rfl, hl, nB, aP, ha, bas, pe, rs, hF, q⟩ := h
  have lr := rs.length
  have ln : (L2.start N (.ref a :: ws)).length = N.length := by
    unfold L2.start
    simp only [List.length_append, List.length_map, List.length_replicate, List.length_cons]
    omega
  -- the slots: self is not told, the others are data
  let ρ : Rho := none :: (ds.map (fun d => some (SV.im d)) ++ List.replicate (N.length - (ds.length + 1)) none)
  have key : ∀ (i : Nat) (sv : SV), ρ[i]? = some (some sv) → ∃ j d, i = j + 1 ∧ ds[j]? = some d ∧ sv = .im d := fun i sv h => by
    cases i with
    | zero => cases h
    | succ j =>
      have h : (ds.map (fun d => some (SV.im d)) ++ List.replicate (N.length - (ds.length + 1)) none)[j]? = some (some sv) := by simpa [ρ] using h
      by_cases z : j < ds.length
      · rw [List.getElem?_append_left (by rw [List.length_map]; exact z), List.getElem?_map, Option.map_eq_some_iff] at h
        obtain ⟨d, h1, h2⟩ := h
        exact ⟨j, d, rfl, h1, (Option.some.inj h2).symm⟩
      · rw [List.getElem?_append_right (by rw [List.length_map]; omega), List.getElem?_replicate] at h
        split at h <;> cases h
  have no : ∀ b, ¬ Own (L2.start N (.ref a :: ws)) ρ b := fun b ⟨i, sv, h1, h2, _⟩ => by
    obtain ⟨j, d, _, _, e⟩ := key i sv h1
    subst e
    cases h2
  have w : Wld G B H (L2.start N (.ref a :: ws)) ρ S := by
    refine ⟨bas.sub, bas.pB, pe, ?_, fun i sv h => ?_, fun i j x y p i1 _ ix _ _ _ => ?_⟩
    · rw [ln]
      simp only [ρ, List.length_cons, List.length_append, List.length_map, List.length_replicate]
      omega
    · obtain ⟨j, d, e, h1, h2⟩ := key i sv h
      subst e h2
      obtain ⟨v, e1, e2⟩ := rs.get h1
      exact ⟨v, start_get N _ (j + 1) v (by simpa using e1), e2⟩
    · obtain ⟨j', d, _, _, e⟩ := key i x i1
      subst e
      cases ix
  refine flds_ok ct no (start_get N _ 0 _ rfl) aP _ (G.cF c) 1 ds B H [] w nB ha rfl hz (by omega) (fun j d hd => ⟨?_, hF d (List.mem_of_getElem? hd)⟩) fun B' H' us w' nB' ha' rs' g => ?_
  · show ρ[1 + j]? = _
    rw [Nat.add_comm]
    show (ds.map (fun d => some (SV.im d)) ++ List.replicate (N.length - (ds.length + 1)) none)[j]? = _
    rw [List.getElem?_append_left (by rw [List.length_map]; exact (List.getElem?_eq_some_iff.mp hd).1), List.getElem?_map, hd]
    rfl
  · exact q B' H' us w'.sub w'.pB w'.pen nB' (by simpa using ha') rs' g

/-! ### C(e, ..) -/
def okC : D → Bool
  | .pen => false
  | .fn _ => false
  | .clo _ _ => false
  | _ => true
def allC : List D → Bool
  | [] => true
  | d :: ds => okC d && allC ds
theorem allC_mem : ∀ {ds : List D}, allC ds = true → ∀ d ∈ ds, okC d = true
  | [], _, _, hd => by cases hd
  | e :: ds, h, d, hd => by
    unfold allC at h
    rw [Bool.and_eq_true] at h
    rcases List.mem_cons.mp hd with q | q
    · rw [q]; exact h.1
    · exact allC_mem h.2 d q
/-- the making of an instance of the class number c, n fields -/
def mkD (c n : Nat) : DFun := fun ds S => if ds.length = n ∧ allC ds = true then .ok (.im (.ins c (ds.map copD))) S else .bad
section
variable {X : Cx} {G : Glo} {E : XK} {x : Str} {c k : Nat} {f : Addr} {fd : FuncData} {ps : List Str} {F : DFun}
theorem call_mk {CX : CXT} (M : Mk X.K (G.cA c) f) (F1 : FnOk X.prog X.w X.K X.mg X.base CX k f fd ps (spMk G c F)) (hr : Room (k + 1) X.A) (hg : Gl X x) (hm : X.mg x = some (.ref (G.cA c))) (hb : L2.Binds X.K fd ps []) (hx : Passes CX X E) (ct : ClsT G c) (h0 : G.cF c ≠ [])
    (hF : ∀ d S, okC d = true → F [d] S = .ok (.im (copD d)) S) (hdb : (x == ("__debug__" : Str)) = false) : CallOk X G E x (mkD c (G.cF c).length) ∧ CallOk0 X G E x (mkD c (G.cF c).length) := by
  refine ⟨fun p pos e es fs ha he hpl => ?_, fun p pos => ⟨fun pins s σ H Q I ⟨B, ρ, S, w, q⟩ => ?_⟩⟩
  · refine weakE (pe_make (dvs := []) M F1 hr hg hm hb .nil hx ha hdb he hpl) fun σ H Q ⟨B, ρ, S, w, p⟩ => ?_
    refine Post.step (rel := rDs G) w (Stp.refl w) p fun ws svs B1 H1 ρ1 S1 st w1 rs p1 => ?_
    have rs : Reps G B1 ws (svs.map SV.d) := rs
    intro a dx na ndx hne
    unfold callM mkD at p1
    by_cases q : (svs.map SV.d).length = (G.cF c).length ∧ allC (svs.map SV.d) = true
    · rw [if_pos q] at p1
      obtain ⟨c1, c2⟩ := q
      have lr := rs.length
      have aP := w1.neP na
      -- the object and its dict
      obtain ⟨w2, st2⟩ := w1.newO ndx (.own a)
      have na2 : upd H1 dx (.own a) a = none := by rw [upd_ne (Ne.symm hne)]; exact na
      obtain ⟨w3, st3⟩ := w2.newO na2 (.ins (G.cA c) dx [])
      refine ⟨a, dx, ws, svs.map SV.d, B1, S1, by rw [List.append_nil], by omega, w1.Bn na, aP, upd_same, w3.bas, w3.pen, rs, fun d hd => hF d S1 (allC_mem c2 d hd), fun B' H' us sub pB pe nB ha' ru g => ⟨rfl, ?_⟩⟩
      -- behind the making
      have lu := ru.length
      rw [List.length_map] at lu
      have nO : ∀ b, H1 b = none → ¬ Own σ ρ1 b := fun b h => w1.notOwn h
      have keepH : ∀ b o, H1 b = some o → b ≠ G.P → H' b = some o := fun b o h hp => by
        have ba : b ≠ a := fun z => by rw [z, na] at h; cases h
        have bd : b ≠ dx := fun z => by rw [z, ndx] at h; cases h
        exact g.h b o ba hp (by rw [upd_ne ba, upd_ne bd]; exact h)
      have newB : ∀ b o, B' b = some o → B1 b = none → H1 b = none := fun b o h n => by
        have := g.n b o h n
        by_cases ba : b = a
        · rw [ba]; exact na
        · rw [upd_ne ba] at this
          by_cases bd : b = dx
          · rw [bd]; exact ndx
          · rwa [upd_ne bd] at this
      have thr : ∀ b, H' b = none → H1 b = none := fun b h => by
        have := g.t b h
        by_cases ba : b = a
        · rw [ba]; exact na
        · rw [upd_ne ba] at this
          by_cases bd : b = dx
          · rw [bd]; exact ndx
          · rwa [upd_ne bd] at this
      have ret : Ret G B1 H1 B' H' := ⟨g.b, keepH, newB, sub, pB, thr⟩
      obtain ⟨w4, st4⟩ := w1.ret ret pe
      have w5 := w4.adopt nB aP (nO a na) ha'
      have exB : Ex B' (upd B' a (.ins (G.cA c) dx ((G.cF c).zip us))) := Ex.new nB
      have st5 : Stp G B1 H1 σ ρ1 (upd B' a (.ins (G.cA c) dx ((G.cF c).zip us))) H' σ ρ1 := by
        refine ⟨g.b.trans exB, st4.h, fun b o h n => ?_, w5.pB, st4.t, st4.o⟩
        by_cases z : b = a
        · rw [z]; exact .inl na
        · rw [upd_ne z] at h
          exact st4.n b o h n
      refine p1 (.ref a) _ H' (st.trans st5) w5 ⟨?_, fun z => by cases z⟩
      refine Rep.ins ct upd_same ?_ ?_ (ru.mono exB)
      · rw [← List.unzip_fst, List.unzip_zip_left (by omega)]
      · rw [← List.unzip_snd, List.unzip_zip_right (by omega)]
    · rw [if_neg q] at p1
      exact p1.elim
  · unfold callM mkD at q
    rw [if_neg (fun z => h0 (List.length_eq_zero_iff.mp z.1.symm))] at q
    exact q.elim
end
/-! ### the __init__ as it is written -/
def cFld (c : Cc) (f : Str) (s : Nat) : Stmt → Bool
  | .Assign [.Attribute (.Name x _) g _] (.Call (.Name h _) [.Name y _] [] _) _ =>
    decide (g = f) && decide (findN x c.N = some 0) && visB c.sc x && nameB x && decide (h = "copied") && glB c.sc h && decide (findN y c.N = some s) && visB c.sc y && nameB y
  | _ => false
def cInit (c : Cc) : List Str → Nat → List Stmt → Bool
  | [], _, [] => true
  | f :: fl, s, st :: sts => cFld c f s st && cInit c fl (s + 1) sts
  | _, _, _ => false
section
variable {A : Amb} {G : Glo} {T : Tb} {c : Cc} {X : Cx} {F : DFun}
theorem cFld_ok (a : At A G T c XF X) (hF : T.calls.lookup (Str.ofString "copied") = some F) {f : Str} {s : Nat} {st : Stmt} (h : cFld c f s st = true) : FldSt X G f s F st := by
  unfold cFld at h
  split at h
  · simp only [Bool.and_eq_true, decide_eq_true_eq] at h
    obtain ⟨⟨⟨⟨⟨⟨⟨⟨h1, h2⟩, h3⟩, h4⟩, h5⟩, h6⟩, h7⟩, h8⟩, h9⟩ := h
    subst h1 h5
    have l0 := a.var h2 h3 h4
    have l1 := a.var h7 h8 h9
    obtain ⟨k1, _⟩ := a.gf.call X XF _ F a.bs a.tk hF (glB_ok h6 a)
    exact ⟨ps_fld (pe_var l0.at_ l0.vis l0.db l0.cd) (frzE (k1 _ _ _ _ _ (d_cons (d_var l1.at_ l1.vis l1.db l1.cd) d_nil rfl) rfl rfl)) rfl⟩
  · cases h
theorem cInit_ok (a : At A G T c XF X) (hF : T.calls.lookup (Str.ofString "copied") = some F) : ∀ {fl : List Str} {s : Nat} {sts : List Stmt}, cInit c fl s sts = true → FldSts X G F fl s sts
  | [], _, [], _ => .nil
  | [], _, _ :: _, h => by cases h
  | f :: fl, s, [], h => by cases h
  | f :: fl, s, st :: sts, h => by
    unfold cInit at h
    rw [Bool.and_eq_true] at h
    exact .cons (cFld_ok a hF h.1) (cInit_ok a hF h.2)
end
/-- an __init__ keeps its promise -/
theorem fn_init {Pg : Program} {w : World} {K : PySem.W.Frag} {mg : Str → Option Value} {base : Heap} {k c : Nat} {G : Glo} {T : Tb} {f : Addr} {x qual : Str} {st : Stmt} {fd : FuncData} {N ps : List Str} {F : DFun}
    (Fu : Fun K x qual st f fd) (S : FnScope N ps (defScope st)) (gf : GF ⟨Pg, w, K, mg, base, false, k⟩ G T) (hF : T.calls.lookup (Str.ofString "copied") = some F) (ct : ClsT G c) (hz : (G.cF c).length < 900) (hN : (G.cF c).length + 1 ≤ N.length) (hps : ps.length = (G.cF c).length + 1)
    (hB : cInit ⟨N, defScope st, [], [], none, []⟩ (G.cF c) 1 (defBody st) = true) : FnOk Pg w K mg base CX0 (k + 1) f fd ps (spMk G c F) := by
  refine Fu.ok S (fun vs H Q E ⟨a, dx, ws, ds, B, Sp, e, hl, _⟩ => by rw [e, List.length_cons, hl, hps]) fun cdv A outer s H vs Q E hr h => ?_
  have bs : Bs ⟨Pg, w, K, mg, base, false, k⟩ (cxOf CX0 Pg w K mg base N qual (defScope st) f cdv A outer s H E).nox := ⟨rfl, rfl, rfl, rfl, rfl, hr, fun z => (by cases z), rfl⟩
  have at_ : At ⟨Pg, w, K, mg, base, false, k⟩ G T ⟨N, defScope st, [], [], none, []⟩ XF (cxOf CX0 Pg w K mg base N qual (defScope st) f cdv A outer s H E).nox := ⟨bs, gf, rfl, S.nd, rfl, takesF, fun _ _ => rfl⟩
  have ps := flds_ps (cInit_ok at_ hF hB)
  have e : K = G.K := gf.hK
  exact ⟨_, ps, e ▸ spMk_read ct hz hN h⟩
end Pd
set_option Elab.async false
set_option linter.all false
set_option maxRecDepth 100000
set_option maxHeartbeats 4000000
namespace Pd
open PySem L2 Evl PyProof.Rows PySem.Spec
/-! ### own exception classes: L.__init__(self, text), then self.f = f -/
def tXs (K : PySem.W.Frag) : List Str → Nat → TS
  | [], _ => tNext
  | f :: fl, s => tSeq (tOst K f (tVar 0) (tVar s)) (tXs K fl (s + 1))
def tXinit (K : PySem.W.Frag) (m : Str) (fl : List Str) : TS := tSeq (tDrop (tVeI K (tCons (tVar 0) (tCons (tC (.str m)) tNil)))) (tXs K fl 1)
def cXf (c : Cc) (f : Str) (s : Nat) : Stmt → Bool
  | .Assign [.Attribute (.Name x _) g _] (.Name y _) _ => decide (g = f) && decide (findN x c.N = some 0) && visB c.sc x && nameB x && decide (findN y c.N = some s) && visB c.sc y && nameB y
  | _ => false
def cXs (c : Cc) : List Str → Nat → List Stmt → Bool
  | [], _, [] => true
  | f :: fl, s, st :: sts => cXf c f s st && cXs c fl (s + 1) sts
  | _, _, _ => false
def cXinit (c : Cc) (L m : Str) (fl : List Str) : List Stmt → Bool
  | .Expr (.Call (.Attribute (.Name y _) i p2) [.Name x _, .Constant (.str m') _ _] [] p3) _ :: sts => (p2.endLine == p3.line) && decide (y = L) && decide (i = "__init__") && decide (m' = m) && nameB y && glB c.sc y && decide (findN x c.N = some 0) && visB c.sc x && nameB x && cXs c fl 1 sts
  | _ => false
section
variable {A : Amb} {G : Glo} {T : Tb} {c : Cc} {X : Cx} {E : XK}
theorem cXf_ok (a : At A G T c E X) {f : Str} {s : Nat} {st : Stmt} (h : cXf c f s st = true) : PS X st (tOst X.K f (tVar 0) (tVar s)) := by
  unfold cXf at h
  split at h
  · simp only [Bool.and_eq_true, decide_eq_true_eq] at h
    obtain ⟨⟨⟨⟨⟨⟨h1, h2⟩, h3⟩, h4⟩, h7⟩, h8⟩, h9⟩ := h
    subst h1
    have l0 := a.var h2 h3 h4
    have l1 := a.var h7 h8 h9
    exact ps_ost (pe_var l0.at_ l0.vis l0.db l0.cd) (pe_var l1.at_ l1.vis l1.db l1.cd) rfl
  · cases h
theorem cXs_ok (a : At A G T c E X) : ∀ {fl : List Str} {s : Nat} {sts : List Stmt}, cXs c fl s sts = true → PSs X sts (tXs X.K fl s)
  | [], _, [], _ => pss_nil
  | [], _, _ :: _, h => by cases h
  | f :: fl, s, [], h => by cases h
  | f :: fl, s, st :: sts, h => by
    unfold cXs at h
    rw [Bool.and_eq_true] at h
    exact pss_cons (cXf_ok a h.1) (cXs_ok a h.2)
theorem cXinit_ok (a : At A G T c E X) {L m : Str} {fl : List Str} {La : Addr} (hm : X.mg L = some (.ref La)) (ab : Above X.K La) {body : List Stmt} (h : cXinit c L m fl body = true) : PSs X body (tXinit X.K m fl) := by
  unfold cXinit at h
  split at h
  · simp only [Bool.and_eq_true, decide_eq_true_eq] at h
    obtain ⟨⟨⟨⟨⟨⟨⟨⟨⟨hl, h1⟩, h2⟩, h3⟩, h4⟩, h5⟩, h6⟩, h7⟩, h8⟩, h9⟩ := h
    subst h1 h2 h3
    have l0 := a.var h6 h7 h8
    exact pss_cons (ps_expr (pe_above (glB_ok h5 a) hm ab (pa_cons (pe_var l0.at_ l0.vis l0.db l0.cd) (pa_cons pe_str pa_nil rfl) rfl) (nameB_ok h4).1 (mcall_of rfl fun ov => mcall_line rfl hl) rfl rfl) rfl) (cXs_ok a h9)
  · cases h
end
theorem xs_ok {K : PySem.W.Frag} {C a dx : Addr} {σ : L2.St} (T : OexC K C) (h0 : σ[0]? = some (some (.ref a))) (D_ : Ends) : ∀ (fl : List Str) (s : Nat) (ws : List V) (H : Hp) (fs : List (Str × V)), (∀ f ∈ fl, PySem.W.findIn K (.ref C) f = some none) → H a = some (exo a C (some dx)) → H dx = some (exd dx fs) → dx ≠ a → fs.length + fl.length ≤ 900 → ws.length = fl.length →
    (∀ (j : Nat) (v : V), ws[j]? = some v → σ[s + j]? = some (some v)) → (∀ H2 : Hp, (∀ b, b ≠ a → b ≠ dx → H2 b = H b) → H2 a = some (exo a C (some dx)) → H2 dx = some (exd dx ((fl.zip ws).reverse ++ fs)) → D_.nx σ H2) → tXs K fl s D_ σ H
  | [], s, ws, H, fs, hf, ha, hd, ne, hz, hl, hs, k => k H (fun _ _ _ => rfl) ha hd
  | f :: fl, s, [], H, fs, hf, ha, hd, ne, hz, hl, hs, k => by cases hl
  | f :: fl, s, v :: ws, H, fs, hf, ha, hd, ne, hz, hl, hs, k => by
    refine ⟨v, hs 0 v rfl, .ref a, h0, a, C, rfl, T, hf f (List.mem_cons_self ..), .inr ⟨dx, fs, ha, hd, ?_, ?_⟩⟩
    · rw [List.length_cons] at hz
      omega
    refine xs_ok T h0 D_ fl (s + 1) ws _ ((f, v) :: fs) (fun g hg => hf g (List.mem_cons_of_mem _ hg)) (by rw [upd_ne (Ne.symm ne)]; exact ha) upd_same ne (by simp at hz ⊢; omega) (by simpa using hl) (fun j u hu => ?_) fun H2 h1 h2 h3 => k H2 (fun b hb hc => by rw [h1 b hb hc, upd_ne hc]) h2 (by rw [h3]; simp)
    have := hs (j + 1) u (by simpa using hu)
    rw [show s + 1 + j = s + (j + 1) by omega]
    exact this
theorem xinit_read {K : PySem.W.Frag} {C : Addr} {m : Str} {f : Str} {fl : List Str} {N : List Str} {vs : List V} {H : Hp} {Q : VK} {E : XK} (T : OexC K C) (hf : ∀ g ∈ f :: fl, PySem.W.findIn K (.ref C) g = some none) (hz : (f :: fl).length ≤ 900) (hN : (f :: fl).length + 1 ≤ N.length) (h : spX C (f :: fl) vs H Q E) :
    tXinit K m (f :: fl) { nx := fun _ H' => Q .non H', rt := Q } (L2.start N vs) H := by
  obtain ⟨a, ws, rfl, hl, ha, q⟩ := h
  cases ws with
  | nil => cases hl
  | cons v ws =>
    have g : ∀ (j : Nat) (u : V), (V.ref a :: v :: ws)[j]? = some u → (L2.start N (.ref a :: v :: ws))[j]? = some (some u) := fun j u h => start_get N _ j u h
    refine ⟨.ref a, g 0 _ rfl, a, C, [.str m], rfl, (show 1 ≤ 1000 by decide), T, ha, ?_⟩
    refine ⟨v, g 1 _ rfl, .ref a, g 0 _ rfl, a, C, rfl, T, hf f (List.mem_cons_self ..), .inl ⟨ha, fun dx nd ne => ?_⟩⟩
    refine xs_ok T (g 0 _ rfl) _ fl 2 ws _ [(f, v)] (fun x hx => hf x (List.mem_cons_of_mem _ hx)) upd_same (by rw [upd_ne ne, upd_same]) ne (by simp at hz ⊢; omega) (by simpa using hl) (fun j u hu => by
      have := g (j + 2) u (by simpa using hu)
      rw [Nat.add_comm 2 j]
      exact this) fun H2 h1 h2 h3 => q dx H2 nd ne (fun b hb hc => by rw [h1 b hb hc, upd_ne hb, upd_ne hc]) h2 (by rw [h3, List.zip_cons_cons, List.reverse_cons])
theorem fn_xinit {Pg : Program} {w : World} {K : PySem.W.Frag} {mg : Str → Option Value} {base : Heap} {k : Nat} {G : Glo} {T : Tb} {f La C : Addr} {x qual L m f1 : Str} {fl : List Str} {st : Stmt} {fd : FuncData} {N ps : List Str}
    (Fu : Fun K x qual st f fd) (S : FnScope N ps (defScope st)) (gf : GF ⟨Pg, w, K, mg, base, false, k⟩ G T) (hm : mg L = some (.ref La)) (ab : Above K La) (To : OexC K C) (hf : ∀ g ∈ f1 :: fl, PySem.W.findIn K (.ref C) g = some none) (hz : (f1 :: fl).length ≤ 900) (hN : (f1 :: fl).length + 1 ≤ N.length) (hps : ps.length = (f1 :: fl).length + 1)
    (hB : cXinit ⟨N, defScope st, [], [], none, []⟩ L m (f1 :: fl) (defBody st) = true) : FnOk Pg w K mg base CX0 (k + 1) f fd ps (spX C (f1 :: fl)) := by
  refine Fu.ok S (fun vs H Q E ⟨a, ws, e, hl, _⟩ => by rw [e, List.length_cons, hl, hps]) fun cdv A outer s H vs Q E hr h => ?_
  have bs : Bs ⟨Pg, w, K, mg, base, false, k⟩ (cxOf CX0 Pg w K mg base N qual (defScope st) f cdv A outer s H E).nox := ⟨rfl, rfl, rfl, rfl, rfl, hr, fun z => (by cases z), rfl⟩
  have at_ : At ⟨Pg, w, K, mg, base, false, k⟩ G T ⟨N, defScope st, [], [], none, []⟩ XF (cxOf CX0 Pg w K mg base N qual (defScope st) f cdv A outer s H E).nox := ⟨bs, gf, rfl, S.nd, rfl, takesF, fun _ _ => rfl⟩
  exact ⟨_, cXinit_ok at_ hm ab hB, xinit_read To hf hz hN h⟩
/-- raise C(..) by its name -/
theorem raise_ok {X : Cx} {G : Glo} {E : XK} {x : Str} {c k : Nat} {fl : List Str} {fI : Addr} {fd : FuncData} {ps : List Str} (hc : X.calm = true) (T : OexC X.K (G.cA c)) (hF : G.cF c = fl.reverse) (iC : PySem.W.findIn X.K (.ref (G.cA c)) "__init__" = some (some (.ref fI))) (tI : PySem.W.typeIn X.K (.ref fI) = some (.type "function"))
    (F1 : FnOk X.prog X.w X.K X.mg X.base CX0 k fI fd ps (spX (G.cA c) fl)) (hr : Room (k + 1) X.A) (hb : L2.Binds X.K fd ps []) (hg : Gl X x) (hm : X.mg x = some (.ref (G.cA c))) (tk : TakesE X E) (hdb : (x == ("__debug__" : Str)) = false) : RaiseOk X G E x c fl.length :=
  fun p pos pos2 e es fs ha he hpl => s_raise hc T hF iC tI F1 hr hb hg hm tk ha hdb he hpl
end Pd
set_option Elab.async false
set_option linter.all false
set_option maxRecDepth 100000
set_option maxHeartbeats 4000000
namespace Pd
open PySem L2 Evl PyProof.Rows PySem.Spec
/-! ### what the top has written, by one Bool -/
def bAll : List Bool → Bool
  | [] => true
  | b :: bs => b && bAll bs
/-- the classes by number: name, fields (an exception's last one first) -/
abbrev Cls2 := List (Str × List Str)
def keyS (keys : List Str) (i : Nat) : Str := match keys[i]? with
  | some s => s
  | none => ⟨#[2097152 + i]⟩
def gOf (K : PySem.W.Frag) (cs : Cls2) (keys : List Str) : Glo where
  K := K
  P := 0
  cA := fun c => match cs[c]? with
    | some (x, _) => He.ga K x
    | none => 0
  cF := fun c => match cs[c]? with
    | some (_, fl) => fl
    | none => ["", ""]
  kS := keyS keys
  fA := fun _ => 0
def keysB (keys : List Str) : Bool := decide keys.Nodup && keys.all fun s => s.cps.size != 1
theorem keyS_inj {keys : List Str} (h : keysB keys = true) {i j : Nat} (e : keyS keys i = keyS keys j) : i = j := by
  unfold keysB at h
  rw [Bool.and_eq_true, decide_eq_true_eq, List.all_eq_true] at h
  obtain ⟨nd, h2⟩ := h
  have one : ∀ {s : Str} {k : Nat}, s ∈ keys → s = ⟨#[2097152 + k]⟩ → False := fun {s k} hs z => by
    have := h2 s hs
    rw [z] at this
    exact absurd this (by simp)
  unfold keyS at e
  cases hi : keys[i]? with
  | none =>
    rw [hi] at e
    cases hj : keys[j]? with
    | none =>
      rw [hj] at e
      have e : 2097152 + i = 2097152 + j := by injection e with e; injection e with e; injection e
      omega
    | some t =>
      rw [hj] at e
      exact (one (List.mem_of_getElem? hj) e.symm).elim
  | some s =>
    rw [hi] at e
    cases hj : keys[j]? with
    | none =>
      rw [hj] at e
      exact (one (List.mem_of_getElem? hi) e).elim
    | some t =>
      rw [hj] at e
      have e : s = t := e
      subst e
      obtain ⟨h1, h1'⟩ := List.getElem?_eq_some_iff.mp hi
      obtain ⟨h3, h3'⟩ := List.getElem?_eq_some_iff.mp hj
      exact (List.getElem_inj nd).mp (h1'.trans h3'.symm)
section
variable {K : PySem.W.Frag} {cs : Cls2} {keys : List Str}
theorem gOf_ko (h : keysB keys = true) (P : Addr) : KeysOk ((gOf K cs keys).at P) := fun i j e => keyS_inj h e
theorem gOf_at (P : Addr) : ∀ i k, keys[i]? = some k → ((gOf K cs keys).at P).kS i = k := fun i k h => by
  show keyS keys i = k
  unfold keyS
  rw [h]
/-- an instance class -/
def insB (K : PySem.W.Frag) (x : Str) (fl : List Str) : Bool := bAll [(He.Fa.cls x).ok K, (He.Fa.mkr x).ok K, He.eqO (PySem.W.findIn K (.ref (He.ga K x)) "__class__") (some (some (.builtin "object.__class__"))), He.eqO (PySem.W.specialIn K (.builtin "object.__class__") "__get__") (some (some (.builtin "getset_descriptor.__get__"))),
  decide (PySem.W.takesIn K (.builtin "object.__class__") = some true), decide (PySem.W.mroIn K (He.ga K x) (.type "object") = some true), decide fl.Nodup, fl.all fun f => (He.Fa.noat x f).ok K]
theorem insB_ok {x : Str} {fl : List Str} {c : Nat} (P : Addr) (hc : cs[c]? = some (x, fl)) (h : insB K x fl = true) : ClsT ((gOf K cs keys).at P) c ∧ Mk K (((gOf K cs keys).at P).cA c) (He.ma K (He.ga K x) "__init__") := by
  unfold insB at h
  simp only [bAll, Bool.and_eq_true, Bool.and_true, decide_eq_true_eq, List.all_eq_true] at h
  obtain ⟨h1, h2, h3, h4, h5, h6, h7, h8⟩ := h
  have eA : ((gOf K cs keys).at P).cA c = He.ga K x := by
    show (match cs[c]? with
      | some (x, _) => He.ga K x
      | none => 0) = _
    rw [hc]
  have eF : ((gOf K cs keys).at P).cF c = fl := by
    show (match cs[c]? with
      | some (_, fl) => fl
      | none => ["", ""]) = _
    rw [hc]
  refine ⟨⟨?_, ?_, He.eqO_ok h4, h5, ?_, ?_, ?_⟩, ?_⟩
  · rw [eA]; exact He.cls_ok h1
  · rw [eA]; exact He.eqO_ok h3
  · rw [eA]; exact h6
  · rw [eF]; exact h7
  · intro f hf
    rw [eF] at hf
    rw [eA]
    exact He.noat_ok (h8 f hf)
  · rw [eA]; exact He.mkr_ok h2
/-- an exception class, with an own __init__ -/
def oexB (K : PySem.W.Frag) (x : Str) (fl : List Str) : Bool := bAll [(match K.lookup (He.ga K x) with
  | some ⟨.type "type", _, .cls cd, sl⟩ => (match cd.mro, sl.toList with
    | .ref C' :: bm, [_, _, _, _, some (.builtin n), _] => decide (C' = He.ga K x) && decide (n = "ValueError.__new__") && !cd.hasDel && cd.hasDict && PySem.HandSPX.refsVE bm
    | _, _ => false)
  | _ => false), He.eqO (PySem.W.findIn K (.ref (He.ga K x)) "__setattr__") (some (some (.builtin "object.__setattr__"))), decide (PySem.W.subIn K (.ref (He.ga K x)) (.type "BaseException") = some true), decide (PySem.W.typeIn K (.ref (He.ga K x)) = some (.type "type")),
  PySem.W.keepIn K (.ref (He.ga K x)), He.eqO (PySem.W.findIn K (.ref (He.ga K x)) "__init__") (some (some (.ref (He.ma K (He.ga K x) "__init__")))), decide (PySem.W.typeIn K (.ref (He.ma K (He.ga K x) "__init__")) = some (.type "function")), fl.all fun f => (He.Fa.noat x f).ok K]
theorem oexB_ok {x : Str} {fl : List Str} (h : oexB K x fl = true) : OexC K (He.ga K x) ∧ PySem.W.findIn K (.ref (He.ga K x)) "__init__" = some (some (.ref (He.ma K (He.ga K x) "__init__"))) ∧ PySem.W.typeIn K (.ref (He.ma K (He.ga K x) "__init__")) = some (.type "function") ∧ ∀ f ∈ fl, PySem.W.findIn K (.ref (He.ga K x)) f = some none := by
  unfold oexB at h
  simp only [bAll, Bool.and_eq_true, Bool.and_true, decide_eq_true_eq, List.all_eq_true] at h
  obtain ⟨q, h2, h3, h4, h5, h6, h7, h8⟩ := h
  refine ⟨⟨?_, He.eqO_ok h2, h3, h4, h5⟩, He.eqO_ok h6, h7, fun f hf => He.noat_ok (h8 f hf)⟩
  split at q
  · rename_i dd cd sl ho
    split at q
    · rename_i C' bm k0 k1 k2 k3 n k5 hm hs
      simp only [Bool.and_eq_true, decide_eq_true_eq, Bool.not_eq_true'] at q
      obtain ⟨⟨⟨⟨q1, q2⟩, hdel⟩, hdict⟩, ht⟩ := q
      obtain ⟨nm, bs, mro, ns, qn, hd, sn, sub, ab, col, del⟩ := cd
      dsimp only at hm hdel hdict
      subst hm hdel hdict q2
      have hsl : sl = #[k0, k1, k2, k3, some (.builtin "ValueError.__new__"), k5] := by
        obtain ⟨l⟩ := sl
        simp only at hs
        rw [hs]
      subst hsl
      rw [q1] at ho
      exact ⟨nm, qn, ns, bs, bm, sn, sub, ab, col, dd, k0, k1, k2, k3, k5, ho, ht⟩
    · cases q
  · cases q
/-- the own class above them -/
def aboveB (K : PySem.W.Frag) (x : Str) : Bool := bAll [He.eqO (PySem.W.specialIn K (.ref (He.ga K x)) "__getattribute__") (some (some (.builtin "type.__getattribute__"))), PySem.W.readsIn K (He.ga K x) (.type "type"), decide (PySem.W.typeIn K (.ref (He.ga K x)) = some (.type "type")),
  (match PySem.W.findCls K (.ref (He.ga K x)) (.type "type") "__init__" with
  | some (.val (.builtin n)) => decide (n = "ValueError.__init__")
  | _ => false)]
theorem aboveB_ok {x : Str} (h : aboveB K x = true) : Above K (He.ga K x) := by
  unfold aboveB at h
  simp only [bAll, Bool.and_eq_true, Bool.and_true, decide_eq_true_eq] at h
  obtain ⟨h1, h2, h3, h4⟩ := h
  refine ⟨He.eqO_ok h1, h2, h3, ?_⟩
  split at h4
  · rename_i n e
    rw [e, of_decide_eq_true h4]
  · cases h4
theorem funD_fun {x qual : Str} {st : Stmt} {f : Addr} {fd : FuncData} (F : FunD K x qual (defArgs st) (defBody st) (defScope st) [] [] f fd) : Fun K x qual st f fd := by
  obtain ⟨⟨oc, od, dV, kV, doc, pm, an, cdv, ct, osl, e1, e2, e3, e4, _⟩, kp⟩ := F
  rcases e4 with ⟨_, e⟩ | ⟨n, _⟩
  · subst e
    exact ⟨⟨oc, od, kV, doc, pm, an, cdv, ct, osl, e1, e2, e3⟩, kp⟩
  · exact absurd rfl n
/-! ### isinstance -/
def tagT : List (Value × D) := [(.type "NoneType", .non), (.type "bool", .bl true), (.type "int", .int 0), (.type "str", .str ⟨#[]⟩), (.type "tuple", .tup []), (.type "list", .lst []), (.type "dict", .dct [])]
def kitB (K : PySem.W.Frag) (cs : Cls2) (t : Ty) (u : Value) : Bool := (tagT.all fun p => match isTy p.2 t with
  | some b => decide (PySem.W.kitOne K p.1 u = some b)
  | none => true) && (List.range cs.length).all fun c => match isTy (.ins c []) t with
  | some b => decide (PySem.W.kitOne K (.ref ((gOf K cs []).cA c)) u = some b)
  | none => true
theorem kitB_ok {t : Ty} {u : Value} (P : Addr) (h : kitB K cs t u = true) (d : D) (b : Bool) (hd : ∀ c fs, d = .ins c fs → ClsT ((gOf K cs keys).at P) c) (e : isTy d t = some b) : ∃ T, dTy ((gOf K cs keys).at P) d = some T ∧ PySem.W.kitOne ((gOf K cs keys).at P).K T u = some b := by
  unfold kitB at h
  rw [Bool.and_eq_true, List.all_eq_true, List.all_eq_true] at h
  obtain ⟨h1, h2⟩ := h
  have tag : ∀ (T : Value) (r : D), (T, r) ∈ tagT → isTy d t = isTy r t → PySem.W.kitOne K T u = some b := fun T r hm he => by
    have := h1 _ hm
    dsimp only at this
    rw [← he, e] at this
    exact of_decide_eq_true this
  cases d with
  | non => exact ⟨_, rfl, tag _ _ (List.Mem.head _) (by cases t <;> rfl)⟩
  | bl x => exact ⟨_, rfl, tag (.type "bool") (.bl true) (by simp [tagT]) (by cases t <;> rfl)⟩
  | int x => exact ⟨_, rfl, tag (.type "int") (.int 0) (by simp [tagT]) (by cases t <;> rfl)⟩
  | str x => exact ⟨_, rfl, tag (.type "str") (.str ⟨#[]⟩) (by simp [tagT]) (by cases t <;> rfl)⟩
  | tup x => exact ⟨_, rfl, tag (.type "tuple") (.tup []) (by simp [tagT]) (by cases t <;> rfl)⟩
  | lst x => exact ⟨_, rfl, tag (.type "list") (.lst []) (by simp [tagT]) (by cases t <;> rfl)⟩
  | dct x => exact ⟨_, rfl, tag (.type "dict") (.dct []) (by simp [tagT]) (by cases t <;> rfl)⟩
  | ins c fs =>
    have ct := hd c fs rfl
    have lt : c < cs.length := by
      rcases Nat.lt_or_ge c cs.length with q | q
      · exact q
      · exfalso
        have nd := ct.nd
        have eF : ((gOf K cs keys).at P).cF c = ([("" : Str), ("" : Str)] : List Str) := by
          show (match cs[c]? with
            | some (_, fl) => fl
            | none => ["", ""]) = _
          rw [List.getElem?_eq_none q]
        rw [eF] at nd
        exact absurd nd (by decide +kernel)
    have := h2 c (List.mem_range.mpr lt)
    have e2 : isTy (.ins c []) t = isTy (.ins c fs) t := by cases t <;> rfl
    rw [e2, e] at this
    exact ⟨_, rfl, of_decide_eq_true this⟩
  | pen => cases t <;> cases e
  | fn k => cases t <;> cases e
  | clo c fs => cases t <;> cases e
end
end Pd
set_option Elab.async false
set_option linter.all false
set_option maxRecDepth 100000
set_option maxHeartbeats 4000000
namespace Pd
open PySem L2 Evl PyProof.Rows PySem.Spec
/-! ### the first table, and its growth by classes -/
structure Spec where
  cs : Cls2
  keys : List Str
  globs : List (Str × List Int)
  flds : List (Str × List (Nat × Nat))
  tys : List (Str × Ty)
def Spec.T0 (s : Spec) : Tb := { calls := [], globs := s.globs.map fun p => (p.1, .tup (p.2.map .int)), flds := s.flds, tys := s.tys, keys := s.keys, excs := [] }
def tyName : Ty → String
  | .tuple => "tuple" | .list => "list" | .int => "int" | .bool => "bool" | .str => "str" | .cls _ => ""
def tyB (K : PySem.W.Frag) (cs : Cls2) (x : Str) : Ty → Bool
  | .cls c => decide (cs[c]?.map (·.1) = some x) && x != ("__debug__" : Str) && (He.Fa.glo x).ok K && kitB K cs (.cls c) (.ref (He.ga K x))
  | t => decide (x = Str.ofString (tyName t)) && (He.Fa.free x).ok K && kitB K cs t (.type (tyName t))
def Spec.ok (s : Spec) (K : PySem.W.Frag) : Bool := keysB s.keys && (s.globs.all fun p => (He.Fa.glo p.1).ok K && He.tupB K p.1 (p.2.map .int)) && (s.flds.all fun p => p.2.all fun q => decide ((s.cs[q.1]?.bind fun r => r.2[q.2]?) = some p.1)) && (s.tys.all fun p => tyB K s.cs p.1 p.2) && bltNames.all fun x => (He.Fa.free x).ok K
theorem lookup_in {α : Type} {x : Str} {v : α} : ∀ {l : List (Str × α)}, l.lookup x = some v → (x, v) ∈ l
  | [], h => by cases h
  | (y, u) :: r, h => by
    rw [List.lookup_cons] at h
    split at h
    · rename_i e
      cases h
      rw [eq_of_beq e]
      exact List.mem_cons_self ..
    · exact List.mem_cons_of_mem _ (lookup_in h)
theorem lookup_inN {α : Type} {x : Nat} {v : α} : ∀ {l : List (Nat × α)}, l.lookup x = some v → (x, v) ∈ l
  | [], h => by cases h
  | (y, u) :: r, h => by
    rw [List.lookup_cons] at h
    split at h
    · rename_i e
      cases h
      rw [eq_of_beq e]
      exact List.mem_cons_self ..
    · exact List.mem_cons_of_mem _ (lookup_inN h)
theorem tyb {Pg : Program} {w : World} {K : PySem.W.Frag} {mg : Str → Option Value} {base : Heap} {g : Bool} {k : Nat} {s : Spec} {P : Addr} {Xc : Cx} {x : Str} {t : Ty} (b : Bs ⟨Pg, w, K, mg, base, g, k⟩ Xc) (hg : Gl Xc x) (N : base.Ns mainGlobals mg) (X : K.In base) (q : tyB K s.cs x t = true)
    (e : tyB K s.cs x t = (decide (x = Str.ofString (tyName t)) && (He.Fa.free x).ok K && kitB K s.cs t (.type (tyName t)))) (_ : t = t) (hv : bootBuiltins (Str.ofString (tyName t)) = some (.type (tyName t))) (h1 : Str.ofString (tyName t) ≠ "__name__") (h2 : (Str.ofString (tyName t) == ("__debug__" : Str)) = false) :
    ∃ cv u, ∀ pos, TyOk Xc ((gOf K s.cs s.keys).at P) t (.Name x pos) cv u := by
  rw [e] at q
  simp only [Bool.and_eq_true] at q
  obtain ⟨⟨q1, q2⟩, q3⟩ := q
  have q1 := of_decide_eq_true q1
  subst q1
  exact ⟨.ty (tyName t), .type (tyName t), fun pos => ⟨pe_bltn hg (b.mg ▸ He.free_ok X N q2) hv rfl h1 h2, .ty _, fun d b hd he => kitB_ok P q3 d b hd he⟩⟩
theorem gf_base {Pg : Program} {w : World} {K : PySem.W.Frag} {mg : Str → Option Value} {base : Heap} {g : Bool} {k : Nat} {s : Spec} (X : K.In base) (N : base.Ns mainGlobals mg) (h : s.ok K = true) (P : Addr) : GF ⟨Pg, w, K, mg, base, g, k⟩ ((gOf K s.cs s.keys).at P) s.T0 := by
  unfold Spec.ok at h
  simp only [Bool.and_eq_true, List.all_eq_true] at h
  obtain ⟨⟨⟨⟨h1, h2⟩, h3⟩, h4⟩, h5⟩ := h
  refine ⟨rfl, gOf_ko h1 P, gOf_at P, fun x hx => He.free_ok X N (h5 x hx), fun X E x F b tk e hg => (by cases e), fun X E x c n b tk e hg => (by cases e), fun x d e => ?_, fun f ps e => ?_, fun Xc x t b e hg => ?_, fun X E n c F b tk e => (by cases e)⟩
  · have e' : (List.map (fun p => (p.1, D.tup (p.2.map D.int))) s.globs).lookup x = some d := e
    have m := lookup_in e'
    rw [List.mem_map] at m
    obtain ⟨p, hp, ep⟩ := m
    cases ep
    have q := h2 p hp
    exact ⟨.ref (He.ga K p.1), _, He.glo_ok X N q.1, rfl, fun B => by
      have z := He.tupB_ok q.2 B
      rw [List.map_map] at z
      exact .tup z (reps_ints _ B p.2)⟩
  · intro c k hc
    have q := h3 (f, ps) (lookup_in e) (c, k) (lookup_inN hc)
    dsimp only at q
    have q := of_decide_eq_true q
    show (match s.cs[c]? with
      | some (_, fl) => fl
      | none => ["", ""])[k]? = some f
    cases hs : s.cs[c]? with
    | none => rw [hs] at q; cases q
    | some r => rw [hs] at q; exact q
  · have q := h4 (x, t) (lookup_in e)
    cases t with
    | cls c =>
      unfold tyB at q
      simp only [Bool.and_eq_true, bne_iff_ne, ne_eq] at q
      obtain ⟨⟨⟨_, q1⟩, q2⟩, q3⟩ := q
      exact ⟨.ref (He.ga K x), .ref (He.ga K x), fun pos => ⟨pe_glob hg (b.mg ▸ He.glo_ok X N q2) rfl (beq_eq_false_iff_ne.mpr q1), .own _, fun d b hd he => kitB_ok P q3 d b hd he⟩⟩
    | tuple => exact tyb b hg N X q rfl rfl (by decide +kernel) (by decide) (by decide)
    | list => exact tyb b hg N X q rfl rfl (by decide +kernel) (by decide) (by decide)
    | int => exact tyb b hg N X q rfl rfl (by decide +kernel) (by decide) (by decide)
    | bool => exact tyb b hg N X q rfl rfl (by decide +kernel) (by decide) (by decide)
    | str => exact tyb b hg N X q rfl rfl (by decide +kernel) (by decide) (by decide)
end Pd
set_option Elab.async false
set_option linter.all false
set_option maxRecDepth 100000
set_option maxHeartbeats 4000000
namespace Pd
open PySem L2 Evl PyProof.Rows PySem.Spec
/-! ### the table grows by exceptions and classes -/
def Tb.addX (T : Tb) (x : Str) (c n : Nat) : Tb := { T with excs := (x, (c, n)) :: T.excs }
section
variable {P : Program} {w : World} {K : PySem.W.Frag} {mg : Str → Option Value} {base : Heap} {g : Bool} {k : Nat} {G : Glo} {T : Tb} {x : Str}
/-- a deeper place -/
theorem Bs.down' {X : Cx} {j : Nat} (b : Bs ⟨P, w, K, mg, base, g, k⟩ X) (h : j ≤ k) : Bs ⟨P, w, K, mg, base, g, j⟩ X := ⟨b.prog, b.w, b.K, b.mg, b.base, b.room.mono h, b.gd, b.calm⟩
theorem GF.up {j : Nat} (gf : GF ⟨P, w, K, mg, base, g, j⟩ G T) (h : j ≤ k) : GF ⟨P, w, K, mg, base, g, k⟩ G T :=
  ⟨gf.hK, gf.ko, gf.keyAt, gf.blt, fun X E y F' b tk e hg => gf.call X E y F' (b.down' h) tk e hg, fun X E y c n b tk e hg => gf.exc X E y c n (b.down' h) tk e hg, gf.glob, gf.fld, fun X y t b e g => gf.ty X y t (b.down' h) e g, fun X E n c F b tk e => gf.rich X E n c F (b.down' h) tk e⟩
theorem gf_addX {c n : Nat} (gf : GF ⟨P, w, K, mg, base, g, k⟩ G T) (h : ∀ X E, Bs ⟨P, w, K, mg, base, g, k + 1⟩ X → TakesE X E → Gl X x → RaiseOk X G E x c n) : GF ⟨P, w, K, mg, base, g, k + 1⟩ G (T.addX x c n) := by
  refine ⟨gf.hK, gf.ko, gf.keyAt, gf.blt, fun X E y F' b tk e hg => gf.call X E y F' b.down tk e hg, fun X E y c' n' b tk e hg => ?_, gf.glob, gf.fld, fun X y t b e g => gf.ty X y t b.down e g, fun X E n c F b tk e => gf.rich X E n c F b.down tk e⟩
  have e' : List.lookup y ((x, (c, n)) :: T.excs) = some (c', n') := e
  rw [List.lookup_cons] at e'
  split at e'
  · rename_i q
    cases e'
    have q := eq_of_beq q
    subst q
    exact h X E b tk hg
  · exact gf.exc X E y c' n' b.down tk e' hg
/-- one more exception class -/
theorem gf_exc {c : Nat} {fl : List Str} {fI : Addr} {fd : FuncData} {ps : List Str} (gf : GF ⟨P, w, K, mg, base, g, k⟩ G T) (To : OexC K (G.cA c)) (hF : G.cF c = fl.reverse) (iC : PySem.W.findIn K (.ref (G.cA c)) "__init__" = some (some (.ref fI))) (tI : PySem.W.typeIn K (.ref fI) = some (.type "function"))
    (F1 : FnOk P w K mg base CX0 k fI fd ps (spX (G.cA c) fl)) (hb : L2.Binds K fd ps []) (hm : mg x = some (.ref (G.cA c))) (hx : (x == ("__debug__" : Str)) = false) : GF ⟨P, w, K, mg, base, g, k + 1⟩ G (T.addX x c fl.length) := by
  refine gf_addX gf fun X E b tk hg => ?_
  have hr := b.room
  obtain ⟨p, w', K', mg', base', _, gd, calm⟩ := b
  dsimp only at p w' K' mg' base'
  subst p w' K' mg' base'
  exact raise_ok calm To hF iC tI F1 hr hb hg hm tk hx
/-- one more class -/
theorem gf_mk {c : Nat} {f : Addr} {fd : FuncData} {ps : List Str} {F : DFun} (gf : GF ⟨P, w, K, mg, base, g, k⟩ G T) (M : Mk K (G.cA c) f) (F1 : FnOk P w K mg base CX0 k f fd ps (spMk G c F)) (hb : L2.Binds K fd ps []) (hm : mg x = some (.ref (G.cA c))) (ct : ClsT G c) (h0 : G.cF c ≠ [])
    (hF : ∀ d S, okC d = true → F [d] S = .ok (.im (copD d)) S) (hx : (x == ("__debug__" : Str)) = false) : GF ⟨P, w, K, mg, base, g, k + 1⟩ G (T.add x (mkD c (G.cF c).length)) := by
  refine gf_add gf fun X E b tk hg => ?_
  have hr := b.room
  obtain ⟨p, w', K', mg', base', _, gd, calm⟩ := b
  dsimp only at p w' K' mg' base'
  subst p w' K' mg' base'
  exact call_mk M F1 hr hg hm hb (fun _ _ _ _ _ _ _ h => h.elim) ct h0 hF hx
end
end Pd
set_option Elab.async false
set_option linter.all false
set_option maxRecDepth 100000
set_option maxHeartbeats 4000000
namespace Pd
open PySem L2 Evl PyProof.Rows PySem.Spec
/-! ### tuple(value) if isinstance(value, list) else value -/
def copB : List IS := [.ret (.ife (.tst (.isi (.var 0) [.list])) (.call (pF fTuple) [.var 0]) (.var 0))]
theorem cop_ok (d : D) (S : PenSt) (h : okC d = true) : evD 1 1 copB [d] S = .ok (.im (copD d)) S := by
  cases d <;> first | rfl | cases h
end Pd
set_option Elab.async false
set_option linter.all false
set_option maxRecDepth 100000
set_option maxHeartbeats 4000000
namespace Pd
open PySem L2 Evl PyProof.Rows PySem.Spec
/-! ### the def _law_pen of every law's text -/
def penSc : Scope := { kind := .function, names := [("script", .local), ("fold", .local), ("cell", .local), ("int", .globalImplicit), ("list", .globalImplicit)], isGenerator := false, isCoroutine := false, more := [] }
def penBody (p : Nat → Pos) : List Stmt :=
  [.Assign [.Name "fold" (p 0)] (.Constant (.int 0) 0 (p 1)) (p 2),
   .For (.Name "cell" (p 3)) (.Name "script" (p 4)) [.Assign [.Name "fold" (p 5)] (.BinOp (.Call (.Name "int" (p 6)) [.BinOp (.BinOp (.Name "fold" (p 7)) .Mult (.Constant (.int 193) 0 (p 8)) (p 9)) .Add (.Name "cell" (p 10)) (p 11)] [] (p 12)) .Mod (.Constant (.int 999999131) 0 (p 13)) (p 14)) (p 15)] [] (p 16),
   .Return (some (.Dict [some (.Constant (.str "cells") 0 (p 17)), some (.Constant (.str "at") 0 (p 18)), some (.Constant (.str "digits") 0 (p 19)), some (.Constant (.str "count") 0 (p 20)), some (.Constant (.str "fold") 0 (p 21))]
     [.Call (.Name "list" (p 22)) [.Name "script" (p 23)] [] (p 24), .Constant (.int 0) 0 (p 25), .Constant (.int 0) 0 (p 26), .Constant (.int 0) 0 (p 27), .Name "fold" (p 28)] (p 29))) (p 30)]
theorem fn_pen {Pg : Program} {w : World} {K : PySem.W.Frag} {mg : Str → Option Value} {base : Heap} {f : Addr} {fd : FuncData} {st : Stmt} {p : Nat → Pos}
    (Fu : Fun K "_law_pen" "_law_pen" st f fd) (hb : defBody st = penBody p) (hs : defScope st = penSc) (m1 : mg "int" = none) (m2 : mg "list" = none) : FnOk Pg w K mg base CX0 1 f fd ["script"] (spPen K) := by
  have S : FnScope ["script", "fold", "cell"] ["script"] (defScope st) := by
    rw [hs]
    exact ⟨rfl, rfl, rfl, by decide +kernel, rfl, by decide +kernel, by decide +kernel⟩
  refine Fu.ok S (fun vs H Q E ⟨a, ns, e, _⟩ => by rw [e]; rfl) fun cdv A outer s H vs Q E hr h => ⟨tPen K, ?_, pen_read h⟩
  rw [hb, hs]
  refine pss_cons (ps_set (i := 1) S.nd rfl (Or.inl rfl) pe_int) (pss_cons (ps_for PySem.PassesOwn.never rfl (pi_list (pe_var (i := 0) rfl (Or.inl rfl))) (pg_name (i := 2) S.nd rfl (Or.inl rfl)) ?_) ?_)
  · exact pss_one (ps_set (i := 1) S.nd rfl (Or.inl rfl) (pe_op op_modN (pe_callTy call_int1 rfl m1 boot_int (pa_cons (pe_op op_add (pe_op op_mulW (pe_var (i := 1) rfl (Or.inl rfl)) pe_int) (pe_var (i := 2) rfl (Or.inl rfl))) pa_nil)) pe_int))
  · refine pss_one (ps_ret (pe_disp ?_ rfl rfl (fun z => by cases z) (show 5 ≤ 15 by decide)))
    exact pps_cons pe_str (pe_callTy call_list_of rfl m2 boot_list (pa_cons (pe_var (i := 0) rfl (Or.inl rfl)) pa_nil)) (pps_cons pe_str pe_int (pps_cons pe_str pe_int (pps_cons pe_str pe_int (pps_cons pe_str (pe_var (i := 1) rfl (Or.inl rfl)) pps_nil))))
end Pd
set_option Elab.async false
set_option linter.all false
set_option maxRecDepth 100000
set_option maxHeartbeats 4000000
namespace Pd
open PySem L2 Evl PyProof.Rows PySem.Spec
/-! ### the steps of a text's table, from the head's facts -/
def bltB (K : PySem.W.Frag) : Bool := (["all", "any", "abs", "int", "str"].all fun x => (He.Fa.free (Str.ofString x)).ok K) && He.eqO (PySem.W.nsIn K mainGlobals "gcd") (some (some (.builtin "math.gcd")))
section
variable {Pg : Program} {w : World} {K : PySem.W.Frag} {mg : Str → Option Value} {base : Heap} {g : Bool} {k : Nat} {s : Pd.Spec}
theorem gf_first (g : Bool) (k : Nat) (X : K.In base) (N : base.Ns mainGlobals mg) (h : s.ok K = true) (hb : bltB K = true) (P : Addr) : GF ⟨Pg, w, K, mg, base, g, k⟩ ((gOf K s.cs s.keys).at P) (bltT s.T0) := by
  unfold bltB at hb
  rw [Bool.and_eq_true, List.all_eq_true] at hb
  obtain ⟨h1, h2⟩ := hb
  exact gf_blt (gf_base X N h P) (He.free_ok X N (h1 "all" (by decide))) (He.free_ok X N (h1 "any" (by decide))) (He.free_ok X N (h1 "abs" (by decide))) (He.free_ok X N (h1 "int" (by decide))) (He.free_ok X N (h1 "str" (by decide))) (PySem.W.mg_of X N (He.eqO_ok h2))
variable {fa : List He.Fa} {fn : List He.DefD}
/-- a def of the text, by its number among the head's defs -/
def dfn (x : Str) (st : Stmt) : He.DefD := ⟨(x, none), x, x, defArgs st, defBody st, defScope st, [], []⟩
def bindsB (x : Str) (st : Stmt) (ps : List Str) : Prop := ∀ (kV doc pm : Value) (an : Option Addr) (cdv ct : Value) (us : List Value), us.length = ps.length → bindArgs (PySem.W.fnOf x x (defArgs st) (defBody st) (defScope st) .none kV doc pm an cdv ct) ⟨us, []⟩ = pure (ps.zip us)
theorem gf_defX {G : Glo} {T : Tb} {x : Str} {st : Stmt} {N ps : List Str} {ows bor pen : List Nat} {body : List IS} (gf : GF ⟨Pg, w, K, mg, base, g, k⟩ G T) (X : K.In base) (Nn : base.Ns mainGlobals mg) (D : He.SaysD fa fn K) (i : Nat) (hi : fn[i]? = some (dfn x st)) (hg : (He.Fa.glo x).ok K = true)
    (hbi : bindsB x st ps) (S : FnScope N ps (defScope st)) (hB : cB T ⟨N, defScope st, ows, bor, none, pen⟩ (defBody st) = some body) (hn : ps.length ≤ N.length) (hx : (x == ("__debug__" : Str)) = false) :
    GF ⟨Pg, w, K, mg, base, g, k + 1⟩ G (T.add x (evD ps.length N.length body)) := by
  obtain ⟨fd, F⟩ := D.def_ i hi
  exact gf_def gf (funD_fun F) (He.glo_ok X Nn hg) (FunD.bindsN F hbi) S hB hn hx
/-- an exception class -/
def dmt (x m q : Str) (st : Stmt) : He.DefD := ⟨(x, some m), m, q, defArgs st, defBody st, defScope st, [], []⟩
def bindsM (m q : Str) (st : Stmt) (ps : List Str) : Prop := ∀ (kV doc pm : Value) (an : Option Addr) (cdv ct : Value) (us : List Value), us.length = ps.length → bindArgs (PySem.W.fnOf m q (defArgs st) (defBody st) (defScope st) .none kV doc pm an cdv ct) ⟨us, []⟩ = pure (ps.zip us)
theorem gf_excX {T : Tb} {P : Addr} {c : Nat} {x q L msg f1 : Str} {fl : List Str} {st : Stmt} {N ps : List Str} (gf : GF ⟨Pg, w, K, mg, base, g, k + 1⟩ ((gOf K s.cs s.keys).at P) T) (X : K.In base) (Nn : base.Ns mainGlobals mg) (h : s.ok K = true) (hb : bltB K = true) (D : He.SaysD fa fn K) (i : Nat) (hi : fn[i]? = some (dmt x "__init__" q st)) (hg : (He.Fa.glo x).ok K = true) (hL : (He.Fa.glo L).ok K = true)
    (hc : s.cs[c]? = some (x, (f1 :: fl).reverse)) (ho : oexB K x (f1 :: fl) = true) (ha : aboveB K L = true) (hbi : bindsM "__init__" q st ps) (S : FnScope N ps (defScope st)) (hB : cXinit ⟨N, defScope st, [], [], none, []⟩ L msg (f1 :: fl) (defBody st) = true)
    (hz : (f1 :: fl).length ≤ 900) (hN : (f1 :: fl).length + 1 ≤ N.length) (hps : ps.length = (f1 :: fl).length + 1) (hx : (x == ("__debug__" : Str)) = false) : GF ⟨Pg, w, K, mg, base, g, k + 2⟩ ((gOf K s.cs s.keys).at P) (T.addX x c (f1 :: fl).length) := by
  obtain ⟨fd, F⟩ := D.def_ i hi
  obtain ⟨o1, o2, o3, o4⟩ := oexB_ok ho
  have eA : ((gOf K s.cs s.keys).at P).cA c = He.ga K x := by
    show (match s.cs[c]? with
      | some (x, _) => He.ga K x
      | none => 0) = _
    rw [hc]
  have eF : ((gOf K s.cs s.keys).at P).cF c = (f1 :: fl).reverse := by
    show (match s.cs[c]? with
      | some (_, fl) => fl
      | none => ["", ""]) = _
    rw [hc]
  have F1 := fn_xinit (Pg := Pg) (w := w) (mg := mg) (base := base) (funD_fun F) S (gf_first (w := w) (Pg := Pg) false k X Nn h hb P) (He.glo_ok X Nn hL) (aboveB_ok ha) o1 o4 hz hN hps hB
  refine gf_exc gf (c := c) (by rw [eA]; exact o1) eF (by rw [eA]; exact o2) o3 (by rw [eA]; exact F1) (FunD.bindsN F hbi) (by rw [eA]; exact He.glo_ok X Nn hg) hx
/-- a class of instances -/
theorem gf_mkX {T : Tb} {P : Addr} {c : Nat} {x q : Str} {fl : List Str} {st : Stmt} {N ps : List Str} (gf : GF ⟨Pg, w, K, mg, base, false, k⟩ ((gOf K s.cs s.keys).at P) T) (X : K.In base) (Nn : base.Ns mainGlobals mg) (D : He.SaysD fa fn K) (i : Nat) (hi : fn[i]? = some (dmt x "__init__" q st)) (hg : (He.Fa.glo x).ok K = true)
    (hF : T.calls.lookup (Str.ofString "copied") = some (evD 1 1 copB)) (hc : s.cs[c]? = some (x, fl)) (ho : insB K x fl = true) (hbi : bindsM "__init__" q st ps) (S : FnScope N ps (defScope st)) (hB : cInit ⟨N, defScope st, [], [], none, []⟩ fl 1 (defBody st) = true)
    (hz : fl.length < 900) (hN : fl.length + 1 ≤ N.length) (hps : ps.length = fl.length + 1) (h0 : fl ≠ []) (hx : (x == ("__debug__" : Str)) = false) : GF ⟨Pg, w, K, mg, base, false, k + 2⟩ ((gOf K s.cs s.keys).at P) (T.add x (mkD c fl.length)) := by
  obtain ⟨fd, F⟩ := D.def_ i hi
  obtain ⟨ct, mk⟩ := insB_ok (keys := s.keys) P hc ho
  have eA : ((gOf K s.cs s.keys).at P).cA c = He.ga K x := by
    show (match s.cs[c]? with
      | some (x, _) => He.ga K x
      | none => 0) = _
    rw [hc]
  have eF : ((gOf K s.cs s.keys).at P).cF c = fl := by
    show (match s.cs[c]? with
      | some (_, fl) => fl
      | none => ["", ""]) = _
    rw [hc]
  have F1 := fn_init (funD_fun F) S gf hF ct (by rw [eF]; exact hz) (by rw [eF]; exact hN) (by rw [eF]; exact hps) (by rw [eF]; exact hB)
  have z := gf_mk (gf.up (Nat.le_succ k)) mk F1 (FunD.bindsN F hbi) (by rw [eA]; exact He.glo_ok X Nn hg) ct (by rw [eF]; exact h0) (fun d S h => cop_ok d S h) hx
  rw [eF] at z
  exact z
/-- an own == or != of a class of instances -/
def nmB (n : Bool) : Str := if n then "__ne__" else "__eq__"
def richK (K : PySem.W.Frag) (x : Str) (n : Bool) : Bool := He.eqO (PySem.W.findIn K (.ref (He.ga K x)) (if n then "__ne__" else "__eq__")) (some (some (.ref (He.ma K (He.ga K x) (nmB n))))) && PySem.W.isFn K (.ref (He.ma K (He.ga K x) (nmB n)))
theorem gf_richX {T : Tb} {P : Addr} {c : Nat} {n : Bool} {x q : Str} {fl : List Str} {st : Stmt} {N ps : List Str} {body : List IS} (gf : GF ⟨Pg, w, K, mg, base, g, k⟩ ((gOf K s.cs s.keys).at P) T) (D : He.SaysD fa fn K) (i : Nat) (hi : fn[i]? = some (dmt x (nmB n) q st)) (hr : richK K x n = true)
    (hc : s.cs[c]? = some (x, fl)) (hbi : bindsM (nmB n) q st ps) (S : FnScope N ps (defScope st)) (hB : cB T ⟨N, defScope st, [], [], none, []⟩ (defBody st) = some body) (hn : ps.length ≤ N.length) (h2 : ps.length = 2) :
    GF ⟨Pg, w, K, mg, base, g, k + 1⟩ ((gOf K s.cs s.keys).at P) (T.addO n c (evD 2 N.length body)) := by
  obtain ⟨fd, F⟩ := D.def_ i hi
  unfold richK at hr
  rw [Bool.and_eq_true] at hr
  have eA : ((gOf K s.cs s.keys).at P).cA c = He.ga K x := by
    show (match s.cs[c]? with
      | some (x, _) => He.ga K x
      | none => 0) = _
    rw [hc]
  exact gf_rich gf (funD_fun F) (by rw [eA]; exact He.eqO_ok hr.1) hr.2 (FunD.bindsN F hbi) S hB hn h2
end
end Pd
set_option Elab.async false
set_option linter.all false
set_option maxRecDepth 100000
set_option maxHeartbeats 4000000
namespace Pd
open PySem L2 Evl PyProof.Rows PySem.Spec
/-! ### the end of a law that walks with guards of any kind -/
theorem walk_ofEw {l : PySem.W.OpenLaw} {n k : Nat} {q : Program} {loose : List Str} {XP : (Str → Option Value) → Heap → Prop} {YP : World → Heap → Prop} {d : DefRec} {CX : World → CXT} {x : Str}
    (hn : l.most = some n) (hn2 : n ≤ sizeLine) (hdf : d.params.defaults = []) (hr : Room k callerA)
    (F : ∀ (w : World) (mg : Str → Option Value) (fa : Addr) (h : Heap), YP w h → h.Ns mainGlobals mg → mg d.name = some (.ref fa) →
      ∃ (K : PySem.W.Frag) (fd : FuncData) (sp : Sp), K.In h ∧ (∀ (s : Shared) (u : Value), BindsTo s fd ⟨[u], []⟩ [(x, u)]) ∧
        (∀ (H : Hp) (a : Addr) (ns : List Int), ns.length ≤ n → Only H → SqL K H a (ns.map V.int) → sp [.ref a] H (fun v _ => v = .bl true) fun _ _ _ => False) ∧
        ∀ base : Heap, K.In base → base.Ns mainGlobals mg → FnOk l.prog w K mg base (CX w) k fa fd [x] sp)
    (hCX : ∀ (w : World) (H : Hp) (s : Shared) (e : Value) (s' : Shared), CX w [] H s (fun _ _ _ => False) e s' → False) :
    PySem.W.WalkO q loose XP YP l.row.toRowW d [] (fun f vs => PySem.call f vs) := by
  refine Att.attach_call hn hdf fun w s₀ s₁ mg mb fa o pm cd doc a vs ns G Y ho hd hcd hmg hobj hints hlen hg => ?_
  obtain ⟨K, fd, sp, KX, hb, hsp, hF⟩ := F w mg fa _ Y G.T.g hmg
  exact law_call KX G.T.g G.T.b G.T.builtins G.T.nolimit hg hobj hints (Nat.le_trans hlen hn2) hr hF hb (fun H hO hS => hsp H a ns hlen hO hS) fun H e s' => hCX w H s₁ e s'
theorem cx_no {P : Program} {w : World} {H : Hp} {s s' : Shared} {e : Value} (h : L2.CX P w [] H s (fun _ _ _ => False) e s') : False := by
  obtain ⟨_, _, _, _, _, _, _, _, _, _, _, _, z⟩ := h
  exact z
section
variable {Pg : Program} {w : World} {K : PySem.W.Frag} {mg : Str → Option Value} {base : Heap} {k m : Nat} {s : Pd.Spec} {fa : List He.Fa} {fn : List He.DefD}
/-- the law's def, from its table -/
theorem law_X {T : Tb} {stL stP : Stmt} {fL : Addr} {fdp fdL : FuncData} {N : List Str} {ows bor : List Nat} {body : List IS} {i : Nat} {p0 p1 p2 p3 p4 : Pos} {p : Nat → Pos} {rest : List Stmt} (X : K.In base) (Nn : base.Ns mainGlobals mg)
    (FL : FunD K "law" "law" (defArgs stL) (defBody stL) (defScope stL) [] [] fL fdL) (FP : FunD K "_law_pen" "_law_pen" (defArgs stP) (defBody stP) (defScope stP) [] [] (He.ga K "_law_pen") fdp)
    (hgp : (He.Fa.glo "_law_pen").ok K = true) (hb : bltB K = true) (hli : (He.Fa.free "list").ok K = true)
    (hbp : defBody stP = penBody p) (hsp : defScope stP = penSc) (hbi : bindsB "_law_pen" stP ["script"])
    (gf : ∀ P, GF ⟨Pg, w, K, mg, base, false, k + 1⟩ ((gOf K s.cs s.keys).at P) T) (S : FnScope N ["script"] (defScope stL)) (hbL : defBody stL = .Assign [.Name "pen" p0] (.Call (.Name "_law_pen" p1) [.Name "script" p2] [] p3) p4 :: rest)
    (h0 : findN "script" N = some 0) (h1 : findN "pen" N = some i) (v0 : visB (defScope stL) "script" = true) (v1 : locB ⟨N, defScope stL, ows, bor, none, []⟩ "pen" = true) (v2 : glB (defScope stL) "_law_pen" = true)
    (hB : cSs (cS T fuel ⟨N, defScope stL, ows, bor, none, []⟩) rest = some body)
    (law : ∀ ns : List Int, ns.length ≤ m → ∃ ρ' S', evSs body (lawRho N.length i) (pen0 ns) = .ok (.ret (.im (.bl true))) ρ' S') :
    FnOk Pg w K mg base (L2.CX Pg w) (k + 2) fL fdL ["script"] (spLaw K m) := by
  unfold bltB at hb
  rw [Bool.and_eq_true, List.all_eq_true] at hb
  have Fp := (fn_pen (Pg := Pg) (w := w) (mg := mg) (base := base) (funD_fun FP) hbp hsp (He.free_ok X Nn (hb.1 "int" (by decide))) (He.free_ok X Nn hli)).mono (k := k + 1) (Nat.le_add_left 1 k)
  exact (law_fn (psp := ["script"]) (funD_fun FL) S hbL gf Fp (FunD.bindsN FP hbi) (He.glo_ok X Nn hgp) FP.kp h0 h1 v0 v1 v2 hB law).ok
theorem spLaw_of {H : Hp} {a : Addr} {ns : List Int} (h : ns.length ≤ m) (hS : SqL K H a (ns.map V.int)) : spLaw K m [.ref a] H (fun v _ => v = .bl true) fun _ _ _ => False := ⟨a, ns, rfl, hS, h, fun _ => rfl⟩
end
end Pd
set_option Elab.async false
set_option linter.all false
set_option maxRecDepth 100000
set_option maxHeartbeats 4000000
namespace Pd
open PySem L2 Evl PyProof.Rows PySem.Spec
/-! ### the names' reach, by a number whose bits tell what was seen -/
def frN {α : Type} (n : Nat) (k : Nat → α) : α := match n with
  | 0 => k 0
  | m + 1 => k (m + 1)
def addQ {β : Type} : List Addr → Nat → List Addr → (Nat → List Addr → β) → β
  | [], seen, nw, k => k seen nw
  | a :: as, seen, nw, k => frN a fun a => match Nat.land (Nat.shiftRight seen a) 1 with
    | 0 => frN (Nat.lor seen (Nat.shiftLeft 1 a)) fun s => addQ as s (a :: nw) k
    | _ + 1 => addQ as seen nw k
def lapQ {β : Type} (g : Addr → Option Obj) : List Addr → Nat → List Addr → (Nat → List Addr → β) → β
  | [], seen, nw, k => k seen nw
  | a :: fr, seen, nw, k => match g a with
    | some o => addQ (He.refsD o) seen nw fun seen nw => lapQ g fr seen nw k
    | none => lapQ g fr seen nw k
def rndQ (g : Addr → Option Obj) : Nat → List Addr → Nat → List Addr → List Addr
  | 0, _, _, acc => acc
  | n + 1, fr, seen, acc => lapQ g fr seen [] fun seen nw => rndQ g n nw seen (acc ++ nw)
def asQ (g : Addr → Option Obj) (n : Nat) : List Addr := addQ (He.asD g 0) 0 [] fun seen nw => rndQ g n nw seen nw
/-! ### the head's Hook: the names' reach, the statics' table beside it -/
def kP (g : Addr → Option Obj) (n : Nat) : PySem.W.Frag := He.frT g (asQ g n ++ [cStatics])
abbrev AlP : Type := He.AlD × Bool
def obsP (n : Nat) (fa : List He.Fa) (fn : List He.DefD) (ex : PySem.W.Frag → Bool) (g : Addr → Option Obj) : AlP := (He.obsD fa fn (kP g n), ex (kP g n))
structure SaysP (fa : List He.Fa) (fn : List He.DefD) (ex : PySem.W.Frag → Bool) (K : PySem.W.Frag) : Prop where
  d : He.SaysD fa fn K
  more : ex K = true
def hookP (n : Nat) (fa : List He.Fa) (fn : List He.DefD) (ex : PySem.W.Frag → Bool) : PySem.W.Hook where
  α := AlP
  obs := fun s => obsP n fa fn ex s.heap.get?
  val := fun _ => (He.valD fn, true)
  says := fun _ h => ∃ K : PySem.W.Frag, K.In h ∧ SaysP fa fn ex K
  of := fun _ _ e => ⟨_, He.frT_in, ⟨congrArg (fun z : AlP => z.1) e, congrArg (fun z : AlP => z.2) e⟩⟩
  keeps := fun _ _ _ ⟨K, hK, c⟩ k => ⟨K, PySem.W.Frag.In.keeps hK k, c⟩
theorem obsP_eq {n : Nat} {fa : List He.Fa} {fn : List He.DefD} {ex : PySem.W.Frag → Bool} {g : Addr → Option Obj} {s : Shared} (h : ∀ a, g a = s.heap.get? a) : obsP n fa fn ex g = (hookP n fa fn ex).obs s := by
  have e : g = s.heap.get? := funext h
  rw [e] <;> rfl
end Pd
set_option Elab.async false
set_option linter.all false
set_option maxRecDepth 100000
set_option maxHeartbeats 4000000
namespace Pd
open PySem L2 Evl PyProof.Rows PySem.Spec
/-! ### max, min of a list of ints -/
def maxI : Int → List Int → Int
  | m, [] => m
  | m, x :: xs => maxI (if m < x then x else m) xs
def minI : Int → List Int → Int
  | m, [] => m
  | m, x :: xs => minI (if x < m then x else m) xs
theorem maxI_ge : ∀ (xs : List Int) (m : Int), m ≤ maxI m xs ∧ ∀ x ∈ xs, x ≤ maxI m xs
  | [], m => ⟨Int.le_refl m, fun _ h => by cases h⟩
  | x :: xs, m => by
    obtain ⟨h1, h2⟩ := maxI_ge xs (if m < x then x else m)
    have a1 : m ≤ (if m < x then x else m) := by split <;> omega
    have a2 : x ≤ (if m < x then x else m) := by split <;> omega
    unfold maxI
    refine ⟨Int.le_trans a1 h1, fun y hy => ?_⟩
    rcases List.mem_cons.mp hy with e | e
    · rw [e]; exact Int.le_trans a2 h1
    · exact h2 y e
theorem maxI_mem : ∀ (xs : List Int) (m : Int), maxI m xs = m ∨ maxI m xs ∈ xs
  | [], m => .inl rfl
  | x :: xs, m => by
    unfold maxI
    rcases maxI_mem xs (if m < x then x else m) with e | e
    · rw [e]
      split
      · exact .inr (List.mem_cons_self ..)
      · exact .inl rfl
    · exact .inr (List.mem_cons_of_mem _ e)
def fMax : List D → Option SV
  | [.lst xs] => match intsD xs with
    | some (m :: ns) => some (.im (.int (maxI m ns)))
    | _ => none
  | _ => none
section
variable {X : Cx} {G : Glo}
theorem r_max (hc : X.calm = true) : CallR X (.builtin "max") (rPure G fMax) := by
  refine weakC (cr_max hc) fun vs H Q ⟨B, ds, sv, b, r, e, n⟩ => ?_
  unfold fMax at e
  split at e
  · split at e
    · rename_i xs m ns hi
      cases e
      obtain ⟨v, rfl, r1⟩ := r.one
      cases r1 with
      | lst s r =>
        have e2 := intsD_vals r hi
        subst e2
        refine ⟨_, m :: ns, rfl, SqL.of (b.sub _ _ s), by simp, fun y hy hle => ?_⟩
        have h1 := maxI_ge ns m
        have e : y = maxI m ns := by
          apply Int.le_antisymm
          · rcases List.mem_cons.mp hy with q | q
            · rw [q]; exact h1.1
            · exact h1.2 y q
          · rcases maxI_mem ns m with q | q
            · rw [q]; exact hle m (List.mem_cons_self ..)
            · exact hle _ (List.mem_cons_of_mem _ q)
        rw [e]
        exact n.im b (.int _)
    · cases e
  · cases e
end
section
variable {P : Program} {w : World} {K : PySem.W.Frag} {mg : Str → Option Value} {base : Heap} {g : Bool} {k : Nat} {G : Glo} {T : Tb} {fa : List He.Fa} {fn : List He.DefD}
theorem gf_max (gf : GF ⟨P, w, K, mg, base, g, k⟩ G T) (X : K.In base) (N : base.Ns mainGlobals mg) (h : (He.Fa.free "max").ok K = true) : GF ⟨P, w, K, mg, base, g, k⟩ G (T.add "max" (pF fMax)) :=
  gf_keep gf fun X' E b tk hg => okB (r_max b.calm) (by rw [b.mg]; exact He.free_ok X N h) (by decide +kernel) (by decide +kernel) (by decide +kernel) rfl hg
/-! ### a def that calls itself: nothing is promised of its deepest call -/
def badF : DFun := fun _ _ => .bad
theorem fnP_bad {f : Addr} {fd : FuncData} {ps : List Str} : FnP P w K mg base g k f fd ps (spD G ps.length badF) :=
  ⟨fun vs H Q E h => h.1, fun A outer s H args us vs Q E hr gd e0 hb rv sp => by
    obtain ⟨_, _, _, _, _, _, _, h⟩ := sp
    exact h.elim⟩
theorem gf_badX {x : Str} {st : Stmt} {ps : List Str} (gf : GF ⟨P, w, K, mg, base, g, k⟩ G T) (X : K.In base) (Nn : base.Ns mainGlobals mg) (D : He.SaysD fa fn K) (i : Nat) (hi : fn[i]? = some (dfn x st)) (hg : (He.Fa.glo x).ok K = true)
    (hbi : bindsB x st ps) (hx : (x == ("__debug__" : Str)) = false) : GF ⟨P, w, K, mg, base, g, k + 1⟩ G (T.add x badF) := by
  obtain ⟨fd, F⟩ := D.def_ i hi
  have bi := FunD.bindsN F hbi
  have hm := He.glo_ok X Nn hg
  refine gf_add gf fun X E b tk hgl => ?_
  have fp' : FnP X.prog X.w X.K X.mg X.base g (k + 1) (He.ga K x) fd ps (spD G ps.length badF) := fnP_bad
  have kp : PySem.W.keepIn X.K (.ref (He.ga K x)) = true := by rw [b.K]; exact F.kp
  have bi' : L2.Binds X.K fd ps [] := by rw [b.K]; exact bi
  exact ⟨callOk_of fp' b.room b.gd hgl (by rw [b.mg]; exact hm) kp bi' tk hx (fun ds S h => absurd rfl h), callOk0_of fp' b.room b.gd hgl (by rw [b.mg]; exact hm) kp bi' tk hx (fun ds S h => absurd rfl h)⟩
end
end Pd
set_option Elab.async false
set_option linter.all false
set_option maxRecDepth 100000
set_option maxHeartbeats 4000000
namespace Pd
open PySem L2 Evl PyProof.Rows PySem.Spec
/-! ### the head's run in pieces: each piece runs the top anew, so that none of them wants the whole memory -/
section
variable {X : Type} {o : Option X} {K : X → PySem.W.Frag}
def PcA (o : Option X) (K : X → PySem.W.Frag) (fa : List He.Fa) : Prop := o.map (fun x => fa.all fun f => f.ok (K x)) = some true
def PcN (o : Option X) (K : X → PySem.W.Frag) (fn : List He.DefD) : Prop := o.map (fun x => (fn.all (fun d => d.ok (K x)), fn.map fun d => He.fnW (K x) d.at_)) = some (true, fn.map He.DefD.val)
theorem PcA.app {a b : List He.Fa} (h : PcA o K a) (h2 : PcA o K b) : PcA o K (a ++ b) := by
  unfold PcA at *
  cases o with
  | none => cases h
  | some x =>
    simp only [Option.map_some, Option.some.injEq] at h h2 ⊢
    rw [List.all_append, h, h2]
    rfl
theorem PcN.app {a b : List He.DefD} (h : PcN o K a) (h2 : PcN o K b) : PcN o K (a ++ b) := by
  unfold PcN at *
  cases o with
  | none => cases h
  | some x =>
    simp only [Option.map_some, Option.some.injEq, Prod.mk.injEq] at h h2 ⊢
    rw [List.all_append, h.1, h2.1, List.map_append, List.map_append, h.2, h2.2]
    exact ⟨rfl, rfl⟩
theorem pc_all {β : Type} {f : X → Bool} {g : X → β} {gv : β} {fa : List He.Fa} {fn : List He.DefD} {ex : PySem.W.Frag → Bool} (h1 : o.map (fun x => (f x, g x)) = some (true, gv)) (h2 : PcA o K fa) (h3 : PcN o K fn) (h4 : o.map (fun x => ex (K x)) = some true) :
    o.map (fun x => (f x, g x, ((He.obsD fa fn (K x), ex (K x)) : AlP))) = some (true, gv, (He.valD fn, true)) := by
  unfold PcA at h2
  unfold PcN at h3
  unfold He.obsD He.valD
  cases o with
  | none => cases h1
  | some x =>
    simp only [Option.map_some, Option.some.injEq, Prod.mk.injEq] at h1 h2 h3 h4 ⊢
    rw [h2, h3.1, h3.2, h4]
    exact ⟨h1.1, h1.2, ⟨rfl, rfl⟩, rfl⟩
end
/-- the top's run, to its end -/
noncomputable def topO (r : PySem.W.OpenRow) (M : Nat) (w : World) := HandSHeadRun.wholeF (fun p => HandSHeadRun.stepQ (HandSHeadRun.denQ HandSHeadRun.tabQ) p w) HandSHeadRun.fenceQ M r.prog
theorem runI_of {r : PySem.W.OpenRow} {q : Program} {fa : List He.Fa} {fn : List He.DefD} {ex : PySem.W.Frag → Bool} {M : Nat} {loose : List PySem.Str} {w : World} (n : Nat)
    (h1 : (topO r M w).map (fun x => (HandSHeadRun.looksF r.prog x.1.heap x.2.abs, HandSHeadRun.seenQ q loose (importedModules r.prog.main.body) (fun s => PySem.W.xlAt q [] s && PySem.W.recOk r.toRowW.records s) x.2.abs)) = some (true, PySem.W.openGood q loose))
    (h2 : PcA (topO r M w) (fun x => kP (HandSHeadRun.getT x.2) n) fa) (h3 : PcN (topO r M w) (fun x => kP (HandSHeadRun.getT x.2) n) fn) (h4 : (topO r M w).map (fun x => ex (kP (HandSHeadRun.getT x.2) n)) = some true) :
    HandSHeadRun.RunEqI r q (hookP n fa fn ex) (fun s => obsP n fa fn ex (HandSHeadRun.getT s)) M loose w := pc_all h1 h2 h3 h4
end Pd
set_option Elab.async false
set_option linter.all false
set_option maxRecDepth 100000
set_option maxHeartbeats 0
namespace PdL
open PySem PySem.Spec PyProof.Rows L2 Pd
def top (i : Nat) : Stmt := PySem.Challenge.pw_loanpapers_k27_rings_by_hand.main.body.getD i (.Pass ⟨0, 0, 0, 0⟩)
def spc : Pd.Spec := ⟨[("LoanError", []), ("Unlike", ["what"]), ("Pays", ["payments", "worths"]), ("Least", ["payments", "worths"]), ("Model", ["banks", "cash", "debts", "holds", "keeps", "asks"])], ["cells", "at", "digits", "count", "fold", "banks", "cash", "debts", "holds", "keeps", "asks"], [("NONE", [0, 1]), ("ONE", [1, 1]), ("NOUGHT", [0, 1])], [("what", [(1, 0)]), ("payments", [(2, 0), (3, 0)]), ("worths", [(2, 1), (3, 1)]), ("banks", [(4, 0)]), ("cash", [(4, 1)]), ("debts", [(4, 2)]), ("holds", [(4, 3)]), ("keeps", [(4, 4)]), ("asks", [(4, 5)])], [("int", .int), ("bool", .bool), ("tuple", .tuple), ("list", .list), ("str", .str), ("Pays", .cls 2), ("Least", .cls 3), ("Model", .cls 4)]⟩
def X_0 : Tb := bltT spc.T0
def X_1 : Tb := X_0.addX "Unlike" 1 1
abbrev T_0 : Tb := X_1
def fn0 : List He.DefD := [dmt "Unlike" "__init__" "Unlike.__init__" (inClass (top 3) 0),
  dfn "is_whole" (top 5),
  dfn "is_tuple_of" (top 6),
  dfn "copied" (top 7),
  dfn "rows_key" (top 9),
  dmt "Pays" "__init__" "Pays.__init__" (inClass (top 10) 0),
  dmt "Least" "__init__" "Least.__init__" (inClass (top 11) 0),
  dmt "Least" "__eq__" "Least.__eq__" (inClass (top 11) 1),
  dmt "Least" "__ne__" "Least.__ne__" (inClass (top 11) 2),
  dfn "is_pair" (top 13),
  dfn "lowest" (top 14),
  dfn "is_told" (top 15),
  dfn "summed" (top 16),
  dfn "lessened" (top 17),
  dfn "scaled" (top 18),
  dfn "parted" (top 19),
  dfn "below" (top 20),
  dfn "turned_sign" (top 21),
  dfn "is_row_told" (top 25),
  dfn "dot_of" (top 26),
  dfn "plus_times" (top 27),
  dfn "led_out" (top 28),
  dfn "solved_row" (top 29),
  dfn "unit_row" (top 30),
  dfn "subsets_of" (top 31),
  dmt "Model" "__init__" "Model.__init__" (inClass (top 34) 0),
  dfn "model_key" (top 35),
  dfn "need_model" (top 36),
  dfn "sum_by" (top 37),
  dfn "owed_by" (top 38)]
def fn1 : List He.DefD := [dfn "parts_by" (top 40),
  dfn "all_parts" (top 41),
  dfn "assets_by" (top 42),
  dfn "all_owed" (top 43),
  dfn "lacking" (top 44),
  dfn "failing_by" (top 45),
  dfn "cleared_by" (top 46),
  dfn "is_pair_told" (top 47),
  dfn "is_clearing" (top 48),
  dfn "way_of" (top 50),
  dfn "equations" (top 51),
  dfn "assets_row" (top 52),
  dfn "told_of" (top 53),
  dfn "fits_word" (top 54),
  dfn "settled" (top 55),
  dfn "is_no_less" (top 56),
  dfn "greatest_of" (top 57),
  dfn "least_of" (top 58),
  dfn "with_failing_by" (top 59),
  dfn "with_paying_by" (top 60),
  dfn "joined" (top 61),
  dfn "greatest_rounds" (top 62),
  dfn "least_rounds" (top 63),
  dfn "pays_by" (top 64),
  dfn "pays" (top 65),
  dfn "least_by" (top 66),
  dfn "least" (top 67),
  dfn "worst_failing" (top 69),
  dfn "safe" (top 70),
  dfn "torn" (top 71)]
def fn2 : List He.DefD := [dfn "_law_pen" (top 73),
  dfn "_law_draw" (top 74),
  dfn "_law_pick" (top 75),
  dfn "_law_gcd" (top 76),
  dfn "_law_q" (top 77),
  dfn "_law_plus" (top 78),
  dfn "_law_times" (top 79),
  dfn "_law_less" (top 80),
  dfn "_law_minus" (top 81),
  dfn "_law_share" (top 82),
  dfn "_law_built" (top 83),
  dfn "_law_ring_book" (top 84),
  dfn "law" (top 85)]
def fn : List He.DefD := fn0 ++ fn1 ++ fn2
def fa0 : List He.Fa := [.glo "LoanError",
  .glo "Unlike",
  .glo "is_whole",
  .glo "is_tuple_of",
  .glo "copied",
  .glo "rows_key",
  .glo "Pays",
  .glo "Least",
  .glo "is_pair",
  .glo "lowest",
  .glo "is_told",
  .glo "summed",
  .glo "lessened",
  .glo "scaled",
  .glo "parted",
  .glo "below",
  .glo "turned_sign",
  .glo "is_row_told",
  .glo "dot_of",
  .glo "plus_times",
  .glo "led_out",
  .glo "solved_row",
  .glo "unit_row",
  .glo "subsets_of",
  .glo "Model",
  .glo "model_key",
  .glo "need_model",
  .glo "sum_by",
  .glo "owed_by",
  .glo "parts_by"]
def fa1 : List He.Fa := [.glo "all_parts",
  .glo "assets_by",
  .glo "all_owed",
  .glo "lacking",
  .glo "failing_by",
  .glo "cleared_by",
  .glo "is_pair_told",
  .glo "is_clearing",
  .glo "way_of",
  .glo "equations",
  .glo "assets_row",
  .glo "told_of",
  .glo "fits_word",
  .glo "settled",
  .glo "is_no_less",
  .glo "greatest_of",
  .glo "least_of",
  .glo "with_failing_by",
  .glo "with_paying_by",
  .glo "joined",
  .glo "greatest_rounds",
  .glo "least_rounds",
  .glo "pays_by",
  .glo "pays",
  .glo "least_by",
  .glo "least",
  .glo "worst_failing",
  .glo "safe",
  .glo "torn",
  .glo "_law_pen"]
def fa2 : List He.Fa := [.glo "_law_draw",
  .glo "_law_pick",
  .glo "_law_gcd",
  .glo "_law_q",
  .glo "_law_plus",
  .glo "_law_times",
  .glo "_law_less",
  .glo "_law_minus",
  .glo "_law_share",
  .glo "_law_built",
  .glo "_law_ring_book",
  .glo "law",
  .free "list"]
def fa : List He.Fa := fa0 ++ fa1 ++ fa2
def loose0 : List PySem.Str := ["gcd",
  "__name__",
  "LoanError",
  "Unlike",
  "is_whole",
  "is_tuple_of",
  "copied",
  "rows_key",
  "Pays",
  "Least",
  "is_pair",
  "lowest",
  "is_told",
  "summed",
  "lessened",
  "scaled",
  "parted",
  "below",
  "turned_sign",
  "NONE",
  "ONE",
  "is_row_told",
  "dot_of",
  "plus_times",
  "led_out",
  "solved_row",
  "unit_row",
  "subsets_of",
  "NOUGHT",
  "Model"]
def loose1 : List PySem.Str := ["model_key",
  "need_model",
  "sum_by",
  "owed_by",
  "parts_by",
  "all_parts",
  "assets_by",
  "all_owed",
  "lacking",
  "failing_by",
  "cleared_by",
  "is_pair_told",
  "is_clearing",
  "way_of",
  "equations",
  "assets_row",
  "told_of",
  "fits_word",
  "settled",
  "is_no_less",
  "greatest_of",
  "least_of",
  "with_failing_by",
  "with_paying_by",
  "joined",
  "greatest_rounds",
  "least_rounds",
  "pays_by",
  "pays",
  "least_by"]
def loose2 : List PySem.Str := ["least",
  "worst_failing",
  "safe",
  "torn",
  "_law_pen",
  "_law_draw",
  "_law_pick",
  "_law_gcd",
  "_law_q",
  "_law_plus",
  "_law_times",
  "_law_less",
  "_law_minus",
  "_law_share",
  "_law_built",
  "_law_ring_book"]
def loose : List PySem.Str := loose0 ++ loose1 ++ loose2
def ex0 (K : PySem.W.Frag) : Bool := spc.ok K
def ex1 (K : PySem.W.Frag) : Bool := bltB K
def ex2 (K : PySem.W.Frag) : Bool := oexB K "Unlike" ["what"] && aboveB K "LoanError"
def ex3 (K : PySem.W.Frag) : Bool := insB K "Pays" ["payments", "worths"]
def ex4 (K : PySem.W.Frag) : Bool := insB K "Least" ["payments", "worths"]
def ex5 (K : PySem.W.Frag) : Bool := insB K "Model" ["banks", "cash", "debts", "holds", "keeps", "asks"]
def ex6 (K : PySem.W.Frag) : Bool := richK K "Least" false
def ex7 (K : PySem.W.Frag) : Bool := richK K "Least" true
def ex (K : PySem.W.Frag) : Bool := bAll [ex0 K, ex1 K, ex2 K, ex3 K, ex4 K, ex5 K, ex6 K, ex7 K]
abbrev R : PySem.W.OpenRow := PySem.W.OpenLaw.row PySem.Challenge.rw_loanpapers_k27_rings_by_hand
abbrev Pr : Program := (PySem.Challenge.rw_loanpapers_k27_rings_by_hand).prog
structure Hyp (K : PySem.W.Frag) (mg : Str → Option Value) (base : Heap) : Prop where
  X : K.In base
  N : base.Ns mainGlobals mg
  D : He.SaysD fa fn K
  e : ex K = true
abbrev hk : PySem.W.Hook := Pd.hookP 5 fa fn ex
def ob (s : PySem.W.SharedT) : Pd.AlP := Pd.obsP 5 fa fn ex (HandSHeadRun.getT s)
theorem ob_eq (s : PySem.W.SharedT) : ob s = hk.obs s.abs := Pd.obsP_eq (HandSHeadRun.getT_eq s)
section
open PySem PySem.W PySem.Calls PyProof.Rows
theorem run1 (w : World) : (topO R 8000 w).map (fun x => (HandSHeadRun.looksF R.prog x.1.heap x.2.abs, HandSHeadRun.seenQ (PySem.W.view R.prog [85]) loose (importedModules R.prog.main.body) (fun s => xlAt (PySem.W.view R.prog [85]) [] s && recOk R.toRowW.records s) x.2.abs)) = some (true, openGood (PySem.W.view R.prog [85]) loose) := by
  unfold topO
  kernel_rfl
theorem run2 (w : World) : PcA (topO R 8000 w) (fun x => Pd.kP (HandSHeadRun.getT x.2) 5) fa := by
  unfold topO PcA
  kernel_rfl
theorem run3 (w : World) : PcN (topO R 8000 w) (fun x => Pd.kP (HandSHeadRun.getT x.2) 5) fn := by
  unfold topO PcN
  kernel_rfl
theorem run4 (w : World) : (topO R 8000 w).map (fun x => ex (Pd.kP (HandSHeadRun.getT x.2) 5)) = some true := by
  unfold topO
  kernel_rfl
end
theorem run (w : World) : HandSHeadRun.RunEqI R (PySem.W.view R.prog [85]) hk ob 8000 loose w := runI_of 5 (run1 w) (run2 w) (run3 w) (run4 w)
section
variable {w : World} {K : PySem.W.Frag} {mg : Str → Option Value} {base : Heap} {P : Addr}
abbrev Gf (w : World) (K : PySem.W.Frag) (mg : Str → Option Value) (base : Heap) (P : Addr) (k : Nat) (T : Tb) : Prop := GF ⟨Pr, w, K, mg, base, false, k⟩ ((gOf K spc.cs spc.keys).at P) T
theorem Hyp.e0 (H : Hyp K mg base) : ex0 K = true := by
  have e := H.e
  unfold ex at e
  simp only [bAll, Bool.and_eq_true, Bool.and_true] at e
  obtain ⟨h0, h1, h2, h3, h4, h5, h6, h7⟩ := e
  exact h0
theorem Hyp.e1 (H : Hyp K mg base) : ex1 K = true := by
  have e := H.e
  unfold ex at e
  simp only [bAll, Bool.and_eq_true, Bool.and_true] at e
  obtain ⟨h0, h1, h2, h3, h4, h5, h6, h7⟩ := e
  exact h1
theorem Hyp.e2 (H : Hyp K mg base) : ex2 K = true := by
  have e := H.e
  unfold ex at e
  simp only [bAll, Bool.and_eq_true, Bool.and_true] at e
  obtain ⟨h0, h1, h2, h3, h4, h5, h6, h7⟩ := e
  exact h2
theorem Hyp.e3 (H : Hyp K mg base) : ex3 K = true := by
  have e := H.e
  unfold ex at e
  simp only [bAll, Bool.and_eq_true, Bool.and_true] at e
  obtain ⟨h0, h1, h2, h3, h4, h5, h6, h7⟩ := e
  exact h3
theorem Hyp.e4 (H : Hyp K mg base) : ex4 K = true := by
  have e := H.e
  unfold ex at e
  simp only [bAll, Bool.and_eq_true, Bool.and_true] at e
  obtain ⟨h0, h1, h2, h3, h4, h5, h6, h7⟩ := e
  exact h4
theorem Hyp.e5 (H : Hyp K mg base) : ex5 K = true := by
  have e := H.e
  unfold ex at e
  simp only [bAll, Bool.and_eq_true, Bool.and_true] at e
  obtain ⟨h0, h1, h2, h3, h4, h5, h6, h7⟩ := e
  exact h5
theorem Hyp.e6 (H : Hyp K mg base) : ex6 K = true := by
  have e := H.e
  unfold ex at e
  simp only [bAll, Bool.and_eq_true, Bool.and_true] at e
  obtain ⟨h0, h1, h2, h3, h4, h5, h6, h7⟩ := e
  exact h6
theorem Hyp.e7 (H : Hyp K mg base) : ex7 K = true := by
  have e := H.e
  unfold ex at e
  simp only [bAll, Bool.and_eq_true, Bool.and_true] at e
  obtain ⟨h0, h1, h2, h3, h4, h5, h6, h7⟩ := e
  exact h7
theorem x_0 (H : Hyp K mg base) : Gf w K mg base P 1 X_0 := gf_first false 1 H.X H.N H.e0 H.e1 P
theorem x_1 (H : Hyp K mg base) : Gf w K mg base P 2 X_1 := by
  have e := H.e2
  unfold ex2 at e
  rw [Bool.and_eq_true] at e
  exact gf_excX (msg := "Things that do not fit together.") (x_0 H) H.X H.N H.e0 H.e1 H.D 0 rfl (H.D.fact 1 (f := .glo "Unlike") rfl) (H.D.fact 0 (f := .glo "LoanError") rfl) (c := 1) rfl e.1 e.2 (fun _ _ _ _ _ _ us hl => match us, hl with | [_, _], _ => rfl) (show FnScope ["self", "what"] ["self", "what"] (defScope (inClass (top 3) 0)) from ⟨rfl, rfl, rfl, by decide +kernel, rfl, by decide +kernel, by decide +kernel⟩) (by decide +kernel) (by decide) (by decide) rfl (by decide)
def O_0 : List ((Bool × Nat) × DFun) := []
def b_is_whole : List IS := [.ret (.and (.isi (.var 0) [.int]) (.not (.tst (.isi (.var 0) [.bool]))))]
def F_is_whole : DFun := evD 1 1 b_is_whole
theorem c_is_whole : cB T_0 ⟨["value"], defScope (top 5), [], [], none, []⟩ (defBody (top 5)) = some b_is_whole := by kernel_rfl
def T_1 : Tb := T_0.add "is_whole" F_is_whole
theorem g_1 (H : Hyp K mg base) : Gf w K mg base P 3 T_1 := gf_defX (x_1 H) H.X H.N H.D 1 rfl (H.D.fact 2 (f := .glo "is_whole") rfl) (fun _ _ _ _ _ _ us hl => match us, hl with | [_], _ => rfl) (show FnScope ["value"] ["value"] (defScope (top 5)) from ⟨rfl, rfl, rfl, by decide +kernel, rfl, by decide +kernel, by decide +kernel⟩) c_is_whole (by decide) (by decide)
def b_is_tuple_of : List IS := [.ret (.and (.isi (.var 0) [.tuple]) (.cmp .eq (.call (pF fLen) [(.var 0)]) (.var 1)))]
def F_is_tuple_of : DFun := evD 2 2 b_is_tuple_of
theorem c_is_tuple_of : cB T_1 ⟨["value", "many"], defScope (top 6), [], [], none, []⟩ (defBody (top 6)) = some b_is_tuple_of := by kernel_rfl
def T_2 : Tb := T_1.add "is_tuple_of" F_is_tuple_of
theorem g_2 (H : Hyp K mg base) : Gf w K mg base P 4 T_2 := gf_defX (g_1 H) H.X H.N H.D 2 rfl (H.D.fact 3 (f := .glo "is_tuple_of") rfl) (fun _ _ _ _ _ _ us hl => match us, hl with | [_, _], _ => rfl) (show FnScope ["value", "many"] ["value", "many"] (defScope (top 6)) from ⟨rfl, rfl, rfl, by decide +kernel, rfl, by decide +kernel, by decide +kernel⟩) c_is_tuple_of (by decide) (by decide)
def b_copied : List IS := [.ret (.ife (.tst (.isi (.var 0) [.list])) (.call (pF fTuple) [(.var 0)]) (.var 0))]
def F_copied : DFun := evD 1 1 b_copied
theorem c_copied : cB T_2 ⟨["value"], defScope (top 7), [], [], none, []⟩ (defBody (top 7)) = some b_copied := by kernel_rfl
def T_3 : Tb := T_2.add "copied" F_copied
theorem g_3 (H : Hyp K mg base) : Gf w K mg base P 5 T_3 := gf_defX (g_2 H) H.X H.N H.D 3 rfl (H.D.fact 4 (f := .glo "copied") rfl) (fun _ _ _ _ _ _ us hl => match us, hl with | [_], _ => rfl) (show FnScope ["value"] ["value"] (defScope (top 7)) from ⟨rfl, rfl, rfl, by decide +kernel, rfl, by decide +kernel, by decide +kernel⟩) c_copied (by decide) (by decide)
def b_rows_key : List IS := [.ret (.tup [(.atr (.var 0) [(2, 0), (3, 0)]), (.atr (.var 0) [(2, 1), (3, 1)])])]
def F_rows_key : DFun := evD 1 1 b_rows_key
theorem c_rows_key : cB T_3 ⟨["answer"], defScope (top 9), [], [], none, []⟩ (defBody (top 9)) = some b_rows_key := by kernel_rfl
def T_4 : Tb := T_3.add "rows_key" F_rows_key
theorem g_4 (H : Hyp K mg base) : Gf w K mg base P 6 T_4 := gf_defX (g_3 H) H.X H.N H.D 4 rfl (H.D.fact 5 (f := .glo "rows_key") rfl) (fun _ _ _ _ _ _ us hl => match us, hl with | [_], _ => rfl) (show FnScope ["answer"] ["answer"] (defScope (top 9)) from ⟨rfl, rfl, rfl, by decide +kernel, rfl, by decide +kernel, by decide +kernel⟩) c_rows_key (by decide) (by decide)
def F_Pays : DFun := mkD 2 2
def T_5 : Tb := T_4.add "Pays" F_Pays
theorem g_5 (H : Hyp K mg base) : Gf w K mg base P 8 T_5 := gf_mkX (g_4 H) H.X H.N H.D 5 rfl (H.D.fact 6 (f := .glo "Pays") rfl) rfl (c := 2) rfl H.e3 (fun _ _ _ _ _ _ us hl => match us, hl with | [_, _, _], _ => rfl) (show FnScope ["self", "payments", "worths"] ["self", "payments", "worths"] (defScope (inClass (top 10) 0)) from ⟨rfl, rfl, rfl, by decide +kernel, rfl, by decide +kernel, by decide +kernel⟩) (by decide +kernel) (by decide) (by decide) rfl (by decide) (by decide)
def F_Least : DFun := mkD 3 2
def T_6 : Tb := T_5.add "Least" F_Least
theorem g_6 (H : Hyp K mg base) : Gf w K mg base P 10 T_6 := gf_mkX (g_5 H) H.X H.N H.D 6 rfl (H.D.fact 7 (f := .glo "Least") rfl) rfl (c := 3) rfl H.e4 (fun _ _ _ _ _ _ us hl => match us, hl with | [_, _, _], _ => rfl) (show FnScope ["self", "payments", "worths"] ["self", "payments", "worths"] (defScope (inClass (top 11) 0)) from ⟨rfl, rfl, rfl, by decide +kernel, rfl, by decide +kernel, by decide +kernel⟩) (by decide +kernel) (by decide) (by decide) rfl (by decide) (by decide)
def b_Least___eq__ : List IS := [.ret (.and (.isi (.var 1) [(.cls 3)]) (.cmp .eq (.call F_rows_key [(.var 0)]) (.call F_rows_key [(.var 1)])))]
def F_Least___eq__ : DFun := evD 2 2 b_Least___eq__
theorem c_Least___eq__ : cB T_6 ⟨["self", "other"], defScope (inClass (top 11) 1), [], [], none, []⟩ (defBody (inClass (top 11) 1)) = some b_Least___eq__ := by kernel_rfl
def T_7 : Tb := T_6.addO false 3 F_Least___eq__
def O_1 : List ((Bool × Nat) × DFun) := ((false, 3), F_Least___eq__) :: O_0
theorem g_7 (H : Hyp K mg base) : Gf w K mg base P 11 T_7 := gf_richX (g_6 H) H.D 7 (n := false) (x := "Least") (q := "Least.__eq__") rfl H.e6 (c := 3) rfl (fun _ _ _ _ _ _ us hl => match us, hl with | [_, _], _ => rfl) (show FnScope ["self", "other"] ["self", "other"] (defScope (inClass (top 11) 1)) from ⟨rfl, rfl, rfl, by decide +kernel, rfl, by decide +kernel, by decide +kernel⟩) c_Least___eq__ (by decide) rfl
def b_Least___ne__ : List IS := [.ret (.not (.tst (.call (richD O_1 false) [(.var 0), (.var 1)])))]
def F_Least___ne__ : DFun := evD 2 2 b_Least___ne__
theorem c_Least___ne__ : cB T_7 ⟨["self", "other"], defScope (inClass (top 11) 2), [], [], none, []⟩ (defBody (inClass (top 11) 2)) = some b_Least___ne__ := by kernel_rfl
def T_8 : Tb := T_7.addO true 3 F_Least___ne__
def O_2 : List ((Bool × Nat) × DFun) := ((true, 3), F_Least___ne__) :: O_1
theorem g_8 (H : Hyp K mg base) : Gf w K mg base P 12 T_8 := gf_richX (g_7 H) H.D 8 (n := true) (x := "Least") (q := "Least.__ne__") rfl H.e7 (c := 3) rfl (fun _ _ _ _ _ _ us hl => match us, hl with | [_, _], _ => rfl) (show FnScope ["self", "other"] ["self", "other"] (defScope (inClass (top 11) 2)) from ⟨rfl, rfl, rfl, by decide +kernel, rfl, by decide +kernel, by decide +kernel⟩) c_Least___ne__ (by decide) rfl
def b_is_pair : List IS := [.ite (.or (.not (.tst (.isi (.var 0) [.tuple, .list]))) (.tst (.cmp .ne (.call (pF fLen) [(.var 0)]) (.cst (.int 2))))) [.ret (.cst (.bl false))] [], .ret (.and (.call F_is_whole [(.ix (.var 0) (.cst (.int 0)))]) (.and (.call F_is_whole [(.ix (.var 0) (.cst (.int 1)))]) (.cmp .gt (.ix (.var 0) (.cst (.int 1))) (.cst (.int 0)))))]
def F_is_pair : DFun := evD 1 1 b_is_pair
theorem c_is_pair : cB T_8 ⟨["value"], defScope (top 13), [], [], none, []⟩ (defBody (top 13)) = some b_is_pair := by kernel_rfl
def T_9 : Tb := T_8.add "is_pair" F_is_pair
theorem g_9 (H : Hyp K mg base) : Gf w K mg base P 13 T_9 := gf_defX (g_8 H) H.X H.N H.D 9 rfl (H.D.fact 8 (f := .glo "is_pair") rfl) (fun _ _ _ _ _ _ us hl => match us, hl with | [_], _ => rfl) (show FnScope ["value"] ["value"] (defScope (top 13)) from ⟨rfl, rfl, rfl, by decide +kernel, rfl, by decide +kernel, by decide +kernel⟩) c_is_pair (by decide) (by decide)
def b_lowest : List IS := [.asg (.nm 2) (.ife (.tst (.cmp .gt (.var 1) (.cst (.int 0)))) (.call (pF fGcd) [(.var 0), (.var 1)]) (.neg (.call (pF fGcd) [(.var 0), (.var 1)]))), .ret (.tup [(.bin .fdiv (.var 0) (.var 2)), (.bin .fdiv (.var 1) (.var 2))])]
def F_lowest : DFun := evD 2 3 b_lowest
theorem c_lowest : cB T_9 ⟨["top", "bottom", "by"], defScope (top 14), [], [], none, []⟩ (defBody (top 14)) = some b_lowest := by kernel_rfl
def T_10 : Tb := T_9.add "lowest" F_lowest
theorem g_10 (H : Hyp K mg base) : Gf w K mg base P 14 T_10 := gf_defX (g_9 H) H.X H.N H.D 10 rfl (H.D.fact 9 (f := .glo "lowest") rfl) (fun _ _ _ _ _ _ us hl => match us, hl with | [_, _], _ => rfl) (show FnScope ["top", "bottom", "by"] ["top", "bottom"] (defScope (top 14)) from ⟨rfl, rfl, rfl, by decide +kernel, rfl, by decide +kernel, by decide +kernel⟩) c_lowest (by decide) (by decide)
def b_is_told : List IS := [.ret (.and (.isi (.var 0) [.tuple]) (.and (.call F_is_pair [(.var 0)]) (.cmp .eq (.call (pF fGcd) [(.ix (.var 0) (.cst (.int 0))), (.ix (.var 0) (.cst (.int 1)))]) (.cst (.int 1)))))]
def F_is_told : DFun := evD 1 1 b_is_told
theorem c_is_told : cB T_10 ⟨["value"], defScope (top 15), [], [], none, []⟩ (defBody (top 15)) = some b_is_told := by kernel_rfl
def T_11 : Tb := T_10.add "is_told" F_is_told
theorem g_11 (H : Hyp K mg base) : Gf w K mg base P 15 T_11 := gf_defX (g_10 H) H.X H.N H.D 11 rfl (H.D.fact 10 (f := .glo "is_told") rfl) (fun _ _ _ _ _ _ us hl => match us, hl with | [_], _ => rfl) (show FnScope ["value"] ["value"] (defScope (top 15)) from ⟨rfl, rfl, rfl, by decide +kernel, rfl, by decide +kernel, by decide +kernel⟩) c_is_told (by decide) (by decide)
def b_summed : List IS := [.ret (.call F_lowest [(.bin .add (.bin .mul (.ix (.var 0) (.cst (.int 0))) (.ix (.var 1) (.cst (.int 1)))) (.bin .mul (.ix (.var 1) (.cst (.int 0))) (.ix (.var 0) (.cst (.int 1))))), (.bin .mul (.ix (.var 0) (.cst (.int 1))) (.ix (.var 1) (.cst (.int 1))))])]
def F_summed : DFun := evD 2 2 b_summed
theorem c_summed : cB T_11 ⟨["one", "other"], defScope (top 16), [], [], none, []⟩ (defBody (top 16)) = some b_summed := by kernel_rfl
def T_12 : Tb := T_11.add "summed" F_summed
theorem g_12 (H : Hyp K mg base) : Gf w K mg base P 16 T_12 := gf_defX (g_11 H) H.X H.N H.D 12 rfl (H.D.fact 11 (f := .glo "summed") rfl) (fun _ _ _ _ _ _ us hl => match us, hl with | [_, _], _ => rfl) (show FnScope ["one", "other"] ["one", "other"] (defScope (top 16)) from ⟨rfl, rfl, rfl, by decide +kernel, rfl, by decide +kernel, by decide +kernel⟩) c_summed (by decide) (by decide)
def b_lessened : List IS := [.ret (.call F_lowest [(.bin .sub (.bin .mul (.ix (.var 0) (.cst (.int 0))) (.ix (.var 1) (.cst (.int 1)))) (.bin .mul (.ix (.var 1) (.cst (.int 0))) (.ix (.var 0) (.cst (.int 1))))), (.bin .mul (.ix (.var 0) (.cst (.int 1))) (.ix (.var 1) (.cst (.int 1))))])]
def F_lessened : DFun := evD 2 2 b_lessened
theorem c_lessened : cB T_12 ⟨["one", "other"], defScope (top 17), [], [], none, []⟩ (defBody (top 17)) = some b_lessened := by kernel_rfl
def T_13 : Tb := T_12.add "lessened" F_lessened
theorem g_13 (H : Hyp K mg base) : Gf w K mg base P 17 T_13 := gf_defX (g_12 H) H.X H.N H.D 13 rfl (H.D.fact 12 (f := .glo "lessened") rfl) (fun _ _ _ _ _ _ us hl => match us, hl with | [_, _], _ => rfl) (show FnScope ["one", "other"] ["one", "other"] (defScope (top 17)) from ⟨rfl, rfl, rfl, by decide +kernel, rfl, by decide +kernel, by decide +kernel⟩) c_lessened (by decide) (by decide)
def b_scaled : List IS := [.ret (.call F_lowest [(.bin .mul (.ix (.var 0) (.cst (.int 0))) (.ix (.var 1) (.cst (.int 0)))), (.bin .mul (.ix (.var 0) (.cst (.int 1))) (.ix (.var 1) (.cst (.int 1))))])]
def F_scaled : DFun := evD 2 2 b_scaled
theorem c_scaled : cB T_13 ⟨["one", "other"], defScope (top 18), [], [], none, []⟩ (defBody (top 18)) = some b_scaled := by kernel_rfl
def T_14 : Tb := T_13.add "scaled" F_scaled
theorem g_14 (H : Hyp K mg base) : Gf w K mg base P 18 T_14 := gf_defX (g_13 H) H.X H.N H.D 14 rfl (H.D.fact 13 (f := .glo "scaled") rfl) (fun _ _ _ _ _ _ us hl => match us, hl with | [_, _], _ => rfl) (show FnScope ["one", "other"] ["one", "other"] (defScope (top 18)) from ⟨rfl, rfl, rfl, by decide +kernel, rfl, by decide +kernel, by decide +kernel⟩) c_scaled (by decide) (by decide)
def b_parted : List IS := [.ret (.call F_lowest [(.bin .mul (.ix (.var 0) (.cst (.int 0))) (.ix (.var 1) (.cst (.int 1)))), (.bin .mul (.ix (.var 0) (.cst (.int 1))) (.ix (.var 1) (.cst (.int 0))))])]
def F_parted : DFun := evD 2 2 b_parted
theorem c_parted : cB T_14 ⟨["one", "other"], defScope (top 19), [], [], none, []⟩ (defBody (top 19)) = some b_parted := by kernel_rfl
def T_15 : Tb := T_14.add "parted" F_parted
theorem g_15 (H : Hyp K mg base) : Gf w K mg base P 19 T_15 := gf_defX (g_14 H) H.X H.N H.D 15 rfl (H.D.fact 14 (f := .glo "parted") rfl) (fun _ _ _ _ _ _ us hl => match us, hl with | [_, _], _ => rfl) (show FnScope ["one", "other"] ["one", "other"] (defScope (top 19)) from ⟨rfl, rfl, rfl, by decide +kernel, rfl, by decide +kernel, by decide +kernel⟩) c_parted (by decide) (by decide)
def b_below : List IS := [.ret (.cmp .lt (.bin .mul (.ix (.var 0) (.cst (.int 0))) (.ix (.var 1) (.cst (.int 1)))) (.bin .mul (.ix (.var 1) (.cst (.int 0))) (.ix (.var 0) (.cst (.int 1)))))]
def F_below : DFun := evD 2 2 b_below
theorem c_below : cB T_15 ⟨["one", "other"], defScope (top 20), [], [], none, []⟩ (defBody (top 20)) = some b_below := by kernel_rfl
def T_16 : Tb := T_15.add "below" F_below
theorem g_16 (H : Hyp K mg base) : Gf w K mg base P 20 T_16 := gf_defX (g_15 H) H.X H.N H.D 16 rfl (H.D.fact 15 (f := .glo "below") rfl) (fun _ _ _ _ _ _ us hl => match us, hl with | [_, _], _ => rfl) (show FnScope ["one", "other"] ["one", "other"] (defScope (top 20)) from ⟨rfl, rfl, rfl, by decide +kernel, rfl, by decide +kernel, by decide +kernel⟩) c_below (by decide) (by decide)
def b_turned_sign : List IS := [.ret (.tup [(.neg (.ix (.var 0) (.cst (.int 0)))), (.ix (.var 0) (.cst (.int 1)))])]
def F_turned_sign : DFun := evD 1 1 b_turned_sign
theorem c_turned_sign : cB T_16 ⟨["one"], defScope (top 21), [], [], none, []⟩ (defBody (top 21)) = some b_turned_sign := by kernel_rfl
def T_17 : Tb := T_16.add "turned_sign" F_turned_sign
theorem g_17 (H : Hyp K mg base) : Gf w K mg base P 21 T_17 := gf_defX (g_16 H) H.X H.N H.D 17 rfl (H.D.fact 16 (f := .glo "turned_sign") rfl) (fun _ _ _ _ _ _ us hl => match us, hl with | [_], _ => rfl) (show FnScope ["one"] ["one"] (defScope (top 21)) from ⟨rfl, rfl, rfl, by decide +kernel, rfl, by decide +kernel, by decide +kernel⟩) c_turned_sign (by decide) (by decide)
def b_is_row_told : List IS := [.ret (.and (.call F_is_tuple_of [(.var 0), (.var 1)]) (.call (pF fAll) [(.cmpr [2] (.nm 2) (.seq (.var 0)) [] (.call F_is_told [(.var 2)]))]))]
def F_is_row_told : DFun := evD 2 3 b_is_row_told
theorem c_is_row_told : cB T_17 ⟨["value", "many", "item"], defScope (top 25), [], [], none, []⟩ (defBody (top 25)) = some b_is_row_told := by kernel_rfl
def T_18 : Tb := T_17.add "is_row_told" F_is_row_told
theorem g_18 (H : Hyp K mg base) : Gf w K mg base P 22 T_18 := gf_defX (g_17 H) H.X H.N H.D 18 rfl (H.D.fact 17 (f := .glo "is_row_told") rfl) (fun _ _ _ _ _ _ us hl => match us, hl with | [_, _], _ => rfl) (show FnScope ["value", "many", "item"] ["value", "many"] (defScope (top 25)) from ⟨rfl, rfl, rfl, by decide +kernel, rfl, by decide +kernel, by decide +kernel⟩) c_is_row_told (by decide) (by decide)
def b_dot_of : List IS := [.asg (.nm 2) (.cst (.tup [(.int 0), (.int 1)])), .for_ (.tp [(.nm 3), (.nm 4)]) (.zip2 (.var 0) (.var 1)) [.ite (.and (.tst (.cmp .ne (.ix (.var 3) (.cst (.int 0))) (.cst (.int 0)))) (.tst (.cmp .ne (.ix (.var 4) (.cst (.int 0))) (.cst (.int 0))))) [.asg (.nm 2) (.call F_summed [(.var 2), (.call F_scaled [(.var 3), (.var 4)])])] []], .ret (.var 2)]
def F_dot_of : DFun := evD 2 5 b_dot_of
theorem c_dot_of : cB T_18 ⟨["one", "other", "out", "a", "b"], defScope (top 26), [], [], none, []⟩ (defBody (top 26)) = some b_dot_of := by kernel_rfl
def T_19 : Tb := T_18.add "dot_of" F_dot_of
theorem g_19 (H : Hyp K mg base) : Gf w K mg base P 23 T_19 := gf_defX (g_18 H) H.X H.N H.D 19 rfl (H.D.fact 18 (f := .glo "dot_of") rfl) (fun _ _ _ _ _ _ us hl => match us, hl with | [_, _], _ => rfl) (show FnScope ["one", "other", "out", "a", "b"] ["one", "other"] (defScope (top 26)) from ⟨rfl, rfl, rfl, by decide +kernel, rfl, by decide +kernel, by decide +kernel⟩) c_dot_of (by decide) (by decide)
def b_plus_times : List IS := [.ite (.tst (.cmp .eq (.ix (.var 1) (.cst (.int 0))) (.cst (.int 0)))) [.ret (.call (pF fTuple) [(.var 0)])] [], .ret (.call (pF fTuple) [(.cmpr [3, 4] (.tp [(.nm 3), (.nm 4)]) (.zip2 (.var 0) (.var 2)) [] (.ife (.tst (.cmp .eq (.ix (.var 4) (.cst (.int 0))) (.cst (.int 0)))) (.var 3) (.call F_summed [(.var 3), (.call F_scaled [(.var 1), (.var 4)])])))])]
def F_plus_times : DFun := evD 3 5 b_plus_times
theorem c_plus_times : cB T_19 ⟨["row", "by", "other", "a", "b"], defScope (top 27), [], [], none, []⟩ (defBody (top 27)) = some b_plus_times := by kernel_rfl
def T_20 : Tb := T_19.add "plus_times" F_plus_times
theorem g_20 (H : Hyp K mg base) : Gf w K mg base P 24 T_20 := gf_defX (g_19 H) H.X H.N H.D 20 rfl (H.D.fact 19 (f := .glo "plus_times") rfl) (fun _ _ _ _ _ _ us hl => match us, hl with | [_, _, _], _ => rfl) (show FnScope ["row", "by", "other", "a", "b"] ["row", "by", "other"] (defScope (top 27)) from ⟨rfl, rfl, rfl, by decide +kernel, rfl, by decide +kernel, by decide +kernel⟩) c_plus_times (by decide) (by decide)
def b_led_out : List IS := [.par [3, 4] [(.lst []), (.cmpr [8] (.nm 8) (.seq (.var 0)) [] (.call (pF fTuple) [(.var 8)]))], .for_ (.nm 2) (.rng1 (.var 1)) [.asg (.nm 5) (.cmpr [8] (.nm 8) (.seq (.var 4)) [(.tst (.cmp .ne (.ix (.ix (.var 8) (.var 2)) (.cst (.int 0))) (.cst (.int 0))))] (.var 8)), .ite (.tst (.cmp .gt (.call (pF fLen) [(.var 5)]) (.cst (.int 0)))) [.asg (.nm 6) (.call (pF fTuple) [(.cmpr [9] (.nm 9) (.seq (.ix (.var 5) (.cst (.int 0)))) [] (.call F_parted [(.var 9), (.ix (.ix (.var 5) (.cst (.int 0))) (.var 2))]))]), .asg (.nm 7) (.cmpr [8] (.nm 8) (.seq (.var 4)) [(.tst (.cmp .eq (.ix (.ix (.var 8) (.var 2)) (.cst (.int 0))) (.cst (.int 0))))] (.var 8)), .asg (.nm 4) (.bin .add (.var 7) (.cmpr [8] (.nm 8) (.seq (.slc (.var 5) (some (.cst (.int 1))) none)) [] (.call F_plus_times [(.var 8), (.call F_turned_sign [(.ix (.var 8) (.var 2))]), (.var 6)]))), .asg (.nm 3) (.bin .add (.cmpr [10, 8] (.tp [(.nm 10), (.nm 8)]) (.seq (.var 3)) [] (.tup [(.var 10), (.call F_plus_times [(.var 8), (.call F_turned_sign [(.ix (.var 8) (.var 2))]), (.var 6)])])) (.lst [(.tup [(.var 2), (.var 6)])]))] []], .ret (.tup [(.var 3), (.var 4)])]
def F_led_out : DFun := evD 2 11 b_led_out
theorem c_led_out : cB T_20 ⟨["rows", "wide", "place", "done", "still", "some", "head", "rest", "row", "item", "spot"], defScope (top 28), [], [], none, []⟩ (defBody (top 28)) = some b_led_out := by kernel_rfl
def T_21 : Tb := T_20.add "led_out" F_led_out
theorem g_21 (H : Hyp K mg base) : Gf w K mg base P 25 T_21 := gf_defX (g_20 H) H.X H.N H.D 21 rfl (H.D.fact 20 (f := .glo "led_out") rfl) (fun _ _ _ _ _ _ us hl => match us, hl with | [_, _], _ => rfl) (show FnScope ["rows", "wide", "place", "done", "still", "some", "head", "rest", "row", "item", "spot"] ["rows", "wide"] (defScope (top 28)) from ⟨rfl, rfl, rfl, by decide +kernel, rfl, by decide +kernel, by decide +kernel⟩) c_led_out (by decide) (by decide)
def b_solved_row : List IS := [.asg (.tp [(.nm 4), (.nm 5)]) (.call F_led_out [(.cmpr [7, 8] (.tp [(.nm 7), (.nm 8)]) (.zip2 (.var 0) (.var 1)) [] (.bin .add (.call (pF fTuple) [(.var 7)]) (.tup [(.var 8)]))), (.var 2)]), .ite (.tst (.call (pF fAny) [(.cmpr [7] (.nm 7) (.seq (.var 5)) [] (.cmp .ne (.ix (.ix (.var 7) (.var 2)) (.cst (.int 0))) (.cst (.int 0))))])) [.ret (.cst .non)] [], .asg (.nm 3) (.bin .mul (.lst [(.cst (.tup [(.int 0), (.int 1)]))]) (.var 2)), .for_ (.tp [(.nm 6), (.nm 7)]) (.seq (.var 4)) [.sto 3 (.var 6) (.ix (.var 7) (.var 2))], .ret (.call (pF fTuple) [(.var 3)])]
def F_solved_row : DFun := evD 3 9 b_solved_row
theorem c_solved_row : cB T_21 ⟨["rows", "rights", "wide", "out", "done", "still", "place", "row", "right"], defScope (top 29), [3], [], none, []⟩ (defBody (top 29)) = some b_solved_row := by kernel_rfl
def T_22 : Tb := T_21.add "solved_row" F_solved_row
theorem g_22 (H : Hyp K mg base) : Gf w K mg base P 26 T_22 := gf_defX (g_21 H) H.X H.N H.D 22 rfl (H.D.fact 21 (f := .glo "solved_row") rfl) (fun _ _ _ _ _ _ us hl => match us, hl with | [_, _, _], _ => rfl) (show FnScope ["rows", "rights", "wide", "out", "done", "still", "place", "row", "right"] ["rows", "rights", "wide"] (defScope (top 29)) from ⟨rfl, rfl, rfl, by decide +kernel, rfl, by decide +kernel, by decide +kernel⟩) c_solved_row (by decide) (by decide)
def b_unit_row : List IS := [.ret (.call (pF fTuple) [(.cmpr [2] (.nm 2) (.rng1 (.var 0)) [] (.ife (.tst (.cmp .eq (.var 2) (.var 1))) (.cst (.tup [(.int 1), (.int 1)])) (.cst (.tup [(.int 0), (.int 1)]))))])]
def F_unit_row : DFun := evD 2 3 b_unit_row
theorem c_unit_row : cB T_22 ⟨["many", "place", "k"], defScope (top 30), [], [], none, []⟩ (defBody (top 30)) = some b_unit_row := by kernel_rfl
def T_23 : Tb := T_22.add "unit_row" F_unit_row
theorem g_23 (H : Hyp K mg base) : Gf w K mg base P 27 T_23 := gf_defX (g_22 H) H.X H.N H.D 23 rfl (H.D.fact 22 (f := .glo "unit_row") rfl) (fun _ _ _ _ _ _ us hl => match us, hl with | [_, _], _ => rfl) (show FnScope ["many", "place", "k"] ["many", "place"] (defScope (top 30)) from ⟨rfl, rfl, rfl, by decide +kernel, rfl, by decide +kernel, by decide +kernel⟩) c_unit_row (by decide) (by decide)
def b_subsets_of : List IS := [.asg (.nm 1) (.lst [(.tup [])]), .for_ (.nm 2) (.seq (.var 0)) [.asg (.nm 1) (.bin .add (.var 1) (.cmpr [3] (.nm 3) (.seq (.var 1)) [] (.bin .add (.var 3) (.tup [(.var 2)]))))], .ret (.var 1)]
def F_subsets_of : DFun := evD 1 4 b_subsets_of
theorem c_subsets_of : cB T_23 ⟨["row", "out", "item", "one"], defScope (top 31), [], [], none, []⟩ (defBody (top 31)) = some b_subsets_of := by kernel_rfl
def T_24 : Tb := T_23.add "subsets_of" F_subsets_of
theorem g_24 (H : Hyp K mg base) : Gf w K mg base P 28 T_24 := gf_defX (g_23 H) H.X H.N H.D 24 rfl (H.D.fact 23 (f := .glo "subsets_of") rfl) (fun _ _ _ _ _ _ us hl => match us, hl with | [_], _ => rfl) (show FnScope ["row", "out", "item", "one"] ["row"] (defScope (top 31)) from ⟨rfl, rfl, rfl, by decide +kernel, rfl, by decide +kernel, by decide +kernel⟩) c_subsets_of (by decide) (by decide)
def F_Model : DFun := mkD 4 6
def T_25 : Tb := T_24.add "Model" F_Model
theorem g_25 (H : Hyp K mg base) : Gf w K mg base P 30 T_25 := gf_mkX (g_24 H) H.X H.N H.D 25 rfl (H.D.fact 24 (f := .glo "Model") rfl) rfl (c := 4) rfl H.e5 (fun _ _ _ _ _ _ us hl => match us, hl with | [_, _, _, _, _, _, _], _ => rfl) (show FnScope ["self", "banks", "cash", "debts", "holds", "keeps", "asks"] ["self", "banks", "cash", "debts", "holds", "keeps", "asks"] (defScope (inClass (top 34) 0)) from ⟨rfl, rfl, rfl, by decide +kernel, rfl, by decide +kernel, by decide +kernel⟩) (by decide +kernel) (by decide) (by decide) rfl (by decide) (by decide)
def b_model_key : List IS := [.ret (.tup [(.atr (.var 0) [(4, 0)]), (.atr (.var 0) [(4, 1)]), (.atr (.var 0) [(4, 2)]), (.atr (.var 0) [(4, 3)]), (.atr (.var 0) [(4, 4)]), (.atr (.var 0) [(4, 5)])])]
def F_model_key : DFun := evD 1 1 b_model_key
theorem c_model_key : cB T_25 ⟨["model"], defScope (top 35), [], [], none, []⟩ (defBody (top 35)) = some b_model_key := by kernel_rfl
def T_26 : Tb := T_25.add "model_key" F_model_key
theorem g_26 (H : Hyp K mg base) : Gf w K mg base P 31 T_26 := gf_defX (g_25 H) H.X H.N H.D 26 rfl (H.D.fact 25 (f := .glo "model_key") rfl) (fun _ _ _ _ _ _ us hl => match us, hl with | [_], _ => rfl) (show FnScope ["model"] ["model"] (defScope (top 35)) from ⟨rfl, rfl, rfl, by decide +kernel, rfl, by decide +kernel, by decide +kernel⟩) c_model_key (by decide) (by decide)
def b_need_model : List IS := [.ite (.not (.tst (.isi (.var 0) [(.cls 4)]))) [.rs 1 1 [(.cst (.str "model"))]] []]
def F_need_model : DFun := evD 1 1 b_need_model
theorem c_need_model : cB T_26 ⟨["model"], defScope (top 36), [], [], none, []⟩ (defBody (top 36)) = some b_need_model := by kernel_rfl
def T_27 : Tb := T_26.add "need_model" F_need_model
theorem g_27 (H : Hyp K mg base) : Gf w K mg base P 32 T_27 := gf_defX (g_26 H) H.X H.N H.D 27 rfl (H.D.fact 26 (f := .glo "need_model") rfl) (fun _ _ _ _ _ _ us hl => match us, hl with | [_], _ => rfl) (show FnScope ["model"] ["model"] (defScope (top 36)) from ⟨rfl, rfl, rfl, by decide +kernel, rfl, by decide +kernel, by decide +kernel⟩) c_need_model (by decide) (by decide)
def b_sum_by : List IS := [.asg (.nm 1) (.cst (.tup [(.int 0), (.int 1)])), .for_ (.nm 2) (.seq (.var 0)) [.asg (.nm 1) (.call F_summed [(.var 1), (.var 2)])], .ret (.var 1)]
def F_sum_by : DFun := evD 1 3 b_sum_by
theorem c_sum_by : cB T_27 ⟨["items", "total", "item"], defScope (top 37), [], [], none, []⟩ (defBody (top 37)) = some b_sum_by := by kernel_rfl
def T_28 : Tb := T_27.add "sum_by" F_sum_by
theorem g_28 (H : Hyp K mg base) : Gf w K mg base P 33 T_28 := gf_defX (g_27 H) H.X H.N H.D 28 rfl (H.D.fact 27 (f := .glo "sum_by") rfl) (fun _ _ _ _ _ _ us hl => match us, hl with | [_], _ => rfl) (show FnScope ["items", "total", "item"] ["items"] (defScope (top 37)) from ⟨rfl, rfl, rfl, by decide +kernel, rfl, by decide +kernel, by decide +kernel⟩) c_sum_by (by decide) (by decide)
def b_owed_by : List IS := [.ret (.call F_sum_by [(.ix (.atr (.var 0) [(4, 2)]) (.var 1))])]
def F_owed_by : DFun := evD 2 2 b_owed_by
theorem c_owed_by : cB T_28 ⟨["model", "bank"], defScope (top 38), [], [], none, []⟩ (defBody (top 38)) = some b_owed_by := by kernel_rfl
def T_29 : Tb := T_28.add "owed_by" F_owed_by
theorem g_29 (H : Hyp K mg base) : Gf w K mg base P 34 T_29 := gf_defX (g_28 H) H.X H.N H.D 29 rfl (H.D.fact 28 (f := .glo "owed_by") rfl) (fun _ _ _ _ _ _ us hl => match us, hl with | [_, _], _ => rfl) (show FnScope ["model", "bank"] ["model", "bank"] (defScope (top 38)) from ⟨rfl, rfl, rfl, by decide +kernel, rfl, by decide +kernel, by decide +kernel⟩) c_owed_by (by decide) (by decide)
def b_parts_by : List IS := [.asg (.nm 2) (.call F_owed_by [(.var 0), (.var 1)]), .ite (.tst (.cmp .eq (.ix (.var 2) (.cst (.int 0))) (.cst (.int 0)))) [.ret (.bin .mul (.tup [(.cst (.tup [(.int 0), (.int 1)]))]) (.bin .add (.call (pF fLen) [(.atr (.var 0) [(4, 0)])]) (.cst (.int 1))))] [], .ret (.call (pF fTuple) [(.cmpr [3] (.nm 3) (.seq (.ix (.atr (.var 0) [(4, 2)]) (.var 1))) [] (.call F_parted [(.var 3), (.var 2)]))])]
def F_parts_by : DFun := evD 2 4 b_parts_by
theorem c_parts_by : cB T_29 ⟨["model", "bank", "owed", "debt"], defScope (top 40), [], [], none, []⟩ (defBody (top 40)) = some b_parts_by := by kernel_rfl
def T_30 : Tb := T_29.add "parts_by" F_parts_by
theorem g_30 (H : Hyp K mg base) : Gf w K mg base P 35 T_30 := gf_defX (g_29 H) H.X H.N H.D 30 rfl (H.D.fact 29 (f := .glo "parts_by") rfl) (fun _ _ _ _ _ _ us hl => match us, hl with | [_, _], _ => rfl) (show FnScope ["model", "bank", "owed", "debt"] ["model", "bank"] (defScope (top 40)) from ⟨rfl, rfl, rfl, by decide +kernel, rfl, by decide +kernel, by decide +kernel⟩) c_parts_by (by decide) (by decide)
def b_all_parts : List IS := [.ret (.cmpr [1] (.nm 1) (.rng1 (.call (pF fLen) [(.atr (.var 0) [(4, 0)])])) [] (.call F_parts_by [(.var 0), (.var 1)]))]
def F_all_parts : DFun := evD 1 2 b_all_parts
theorem c_all_parts : cB T_30 ⟨["model", "bank"], defScope (top 41), [], [], none, []⟩ (defBody (top 41)) = some b_all_parts := by kernel_rfl
def T_31 : Tb := T_30.add "all_parts" F_all_parts
theorem g_31 (H : Hyp K mg base) : Gf w K mg base P 36 T_31 := gf_defX (g_30 H) H.X H.N H.D 31 rfl (H.D.fact 30 (f := .glo "all_parts") rfl) (fun _ _ _ _ _ _ us hl => match us, hl with | [_], _ => rfl) (show FnScope ["model", "bank"] ["model"] (defScope (top 41)) from ⟨rfl, rfl, rfl, by decide +kernel, rfl, by decide +kernel, by decide +kernel⟩) c_all_parts (by decide) (by decide)
def b_assets_by : List IS := [.par [3, 4] [(.call F_all_parts [(.var 0)]), (.lst [])], .for_ (.tp [(.nm 5), (.nm 6)]) (.enm (.atr (.var 0) [(4, 1)])) [.asg (.nm 7) (.call F_dot_of [(.var 1), (.cmpr [8] (.nm 8) (.seq (.var 3)) [] (.ix (.var 8) (.var 5)))]), .app 4 (.call F_summed [(.call F_summed [(.var 6), (.var 7)]), (.call F_dot_of [(.var 2), (.cmpr [8] (.nm 8) (.seq (.atr (.var 0) [(4, 3)])) [] (.ix (.var 8) (.var 5)))])])], .ret (.call (pF fTuple) [(.var 4)])]
def F_assets_by : DFun := evD 3 9 b_assets_by
theorem c_assets_by : cB T_31 ⟨["model", "payments", "worths", "parts", "out", "bank", "cash", "paid", "row"], defScope (top 42), [4], [], none, []⟩ (defBody (top 42)) = some b_assets_by := by kernel_rfl
def T_32 : Tb := T_31.add "assets_by" F_assets_by
theorem g_32 (H : Hyp K mg base) : Gf w K mg base P 37 T_32 := gf_defX (g_31 H) H.X H.N H.D 32 rfl (H.D.fact 31 (f := .glo "assets_by") rfl) (fun _ _ _ _ _ _ us hl => match us, hl with | [_, _, _], _ => rfl) (show FnScope ["model", "payments", "worths", "parts", "out", "bank", "cash", "paid", "row"] ["model", "payments", "worths"] (defScope (top 42)) from ⟨rfl, rfl, rfl, by decide +kernel, rfl, by decide +kernel, by decide +kernel⟩) c_assets_by (by decide) (by decide)
def b_all_owed : List IS := [.ret (.cmpr [1] (.nm 1) (.rng1 (.call (pF fLen) [(.atr (.var 0) [(4, 0)])])) [] (.call F_owed_by [(.var 0), (.var 1)]))]
def F_all_owed : DFun := evD 1 2 b_all_owed
theorem c_all_owed : cB T_32 ⟨["model", "bank"], defScope (top 43), [], [], none, []⟩ (defBody (top 43)) = some b_all_owed := by kernel_rfl
def T_33 : Tb := T_32.add "all_owed" F_all_owed
theorem g_33 (H : Hyp K mg base) : Gf w K mg base P 38 T_33 := gf_defX (g_32 H) H.X H.N H.D 33 rfl (H.D.fact 32 (f := .glo "all_owed") rfl) (fun _ _ _ _ _ _ us hl => match us, hl with | [_], _ => rfl) (show FnScope ["model", "bank"] ["model"] (defScope (top 43)) from ⟨rfl, rfl, rfl, by decide +kernel, rfl, by decide +kernel, by decide +kernel⟩) c_all_owed (by decide) (by decide)
def b_lacking : List IS := [.ret (.call (pF fTuple) [(.cmpr [2, 3] (.tp [(.nm 2), (.nm 3)]) (.enm (.call F_all_owed [(.var 0)])) [(.tst (.call F_below [(.ix (.var 1) (.var 2)), (.var 3)]))] (.var 2))])]
def F_lacking : DFun := evD 2 4 b_lacking
theorem c_lacking : cB T_33 ⟨["model", "made", "bank", "owed"], defScope (top 44), [], [], none, []⟩ (defBody (top 44)) = some b_lacking := by kernel_rfl
def T_34 : Tb := T_33.add "lacking" F_lacking
theorem g_34 (H : Hyp K mg base) : Gf w K mg base P 39 T_34 := gf_defX (g_33 H) H.X H.N H.D 34 rfl (H.D.fact 33 (f := .glo "lacking") rfl) (fun _ _ _ _ _ _ us hl => match us, hl with | [_, _], _ => rfl) (show FnScope ["model", "made", "bank", "owed"] ["model", "made"] (defScope (top 44)) from ⟨rfl, rfl, rfl, by decide +kernel, rfl, by decide +kernel, by decide +kernel⟩) c_lacking (by decide) (by decide)
def b_failing_by : List IS := [.ret (.call F_lacking [(.var 0), (.call F_assets_by [(.var 0), (.var 1), (.var 2)])])]
def F_failing_by : DFun := evD 3 3 b_failing_by
theorem c_failing_by : cB T_34 ⟨["model", "payments", "worths"], defScope (top 45), [], [], none, []⟩ (defBody (top 45)) = some b_failing_by := by kernel_rfl
def T_35 : Tb := T_34.add "failing_by" F_failing_by
theorem g_35 (H : Hyp K mg base) : Gf w K mg base P 40 T_35 := gf_defX (g_34 H) H.X H.N H.D 35 rfl (H.D.fact 34 (f := .glo "failing_by") rfl) (fun _ _ _ _ _ _ us hl => match us, hl with | [_, _, _], _ => rfl) (show FnScope ["model", "payments", "worths"] ["model", "payments", "worths"] (defScope (top 45)) from ⟨rfl, rfl, rfl, by decide +kernel, rfl, by decide +kernel, by decide +kernel⟩) c_failing_by (by decide) (by decide)
def b_cleared_by : List IS := [.par [3, 4, 5] [(.call F_assets_by [(.var 0), (.var 1), (.var 2)]), (.lst []), (.lst [])], .for_ (.tp [(.nm 6), (.nm 7)]) (.enm (.call F_all_owed [(.var 0)])) [.asg (.nm 8) (.call F_below [(.ix (.var 3) (.var 6)), (.var 7)]), .app 4 (.ife (.tst (.var 8)) (.call F_scaled [(.ix (.atr (.var 0) [(4, 4)]) (.var 6)), (.ix (.var 3) (.var 6))]) (.var 7)), .app 5 (.ife (.tst (.var 8)) (.cst (.tup [(.int 0), (.int 1)])) (.call F_lessened [(.ix (.var 3) (.var 6)), (.var 7)]))], .ret (.tup [(.call (pF fTuple) [(.var 4)]), (.call (pF fTuple) [(.var 5)])])]
def F_cleared_by : DFun := evD 3 9 b_cleared_by
theorem c_cleared_by : cB T_35 ⟨["model", "payments", "worths", "made", "paid", "rest", "bank", "owed", "fails"], defScope (top 46), [4, 5], [], none, []⟩ (defBody (top 46)) = some b_cleared_by := by kernel_rfl
def T_36 : Tb := T_35.add "cleared_by" F_cleared_by
theorem g_36 (H : Hyp K mg base) : Gf w K mg base P 41 T_36 := gf_defX (g_35 H) H.X H.N H.D 36 rfl (H.D.fact 35 (f := .glo "cleared_by") rfl) (fun _ _ _ _ _ _ us hl => match us, hl with | [_, _, _], _ => rfl) (show FnScope ["model", "payments", "worths", "made", "paid", "rest", "bank", "owed", "fails"] ["model", "payments", "worths"] (defScope (top 46)) from ⟨rfl, rfl, rfl, by decide +kernel, rfl, by decide +kernel, by decide +kernel⟩) c_cleared_by (by decide) (by decide)
def b_is_pair_told : List IS := [.ret (.and (.call F_is_tuple_of [(.var 1), (.cst (.int 2))]) (.call (pF fAll) [(.cmpr [2] (.nm 2) (.seq (.var 1)) [] (.call F_is_row_told [(.var 2), (.call (pF fLen) [(.atr (.var 0) [(4, 0)])])]))]))]
def F_is_pair_told : DFun := evD 2 3 b_is_pair_told
theorem c_is_pair_told : cB T_36 ⟨["model", "value", "row"], defScope (top 47), [], [], none, []⟩ (defBody (top 47)) = some b_is_pair_told := by kernel_rfl
def T_37 : Tb := T_36.add "is_pair_told" F_is_pair_told
theorem g_37 (H : Hyp K mg base) : Gf w K mg base P 42 T_37 := gf_defX (g_36 H) H.X H.N H.D 37 rfl (H.D.fact 36 (f := .glo "is_pair_told") rfl) (fun _ _ _ _ _ _ us hl => match us, hl with | [_, _], _ => rfl) (show FnScope ["model", "value", "row"] ["model", "value"] (defScope (top 47)) from ⟨rfl, rfl, rfl, by decide +kernel, rfl, by decide +kernel, by decide +kernel⟩) c_is_pair_told (by decide) (by decide)
def b_is_clearing : List IS := [.drop (.call F_need_model [(.var 0)]), .ret (.and (.call F_is_pair_told [(.var 0), (.var 1)]) (.cmp .eq (.call F_cleared_by [(.var 0), (.ix (.var 1) (.cst (.int 0))), (.ix (.var 1) (.cst (.int 1)))]) (.var 1)))]
def F_is_clearing : DFun := evD 2 2 b_is_clearing
theorem c_is_clearing : cB T_37 ⟨["model", "value"], defScope (top 48), [], [], none, []⟩ (defBody (top 48)) = some b_is_clearing := by kernel_rfl
def T_38 : Tb := T_37.add "is_clearing" F_is_clearing
theorem g_38 (H : Hyp K mg base) : Gf w K mg base P 43 T_38 := gf_defX (g_37 H) H.X H.N H.D 38 rfl (H.D.fact 37 (f := .glo "is_clearing") rfl) (fun _ _ _ _ _ _ us hl => match us, hl with | [_, _], _ => rfl) (show FnScope ["model", "value"] ["model", "value"] (defScope (top 48)) from ⟨rfl, rfl, rfl, by decide +kernel, rfl, by decide +kernel, by decide +kernel⟩) c_is_clearing (by decide) (by decide)
def b_way_of : List IS := [.ite (.tst (.cmp .eq (.var 3) (.cst (.str "rest")))) [.ret (.tup [(.tup [(.cst (.tup [(.int 0), (.int 1)])), (.var 2)]), (.tup [(.cst (.tup [(.int 1), (.int 1)])), (.call F_turned_sign [(.var 2)])])])] [], .ite (.tst (.cmp .eq (.var 3) (.cst (.str "flat")))) [.ret (.tup [(.tup [(.cst (.tup [(.int 0), (.int 1)])), (.var 2)]), (.tup [(.cst (.tup [(.int 0), (.int 1)])), (.cst (.tup [(.int 0), (.int 1)]))])])] [], .asg (.nm 4) (.ix (.atr (.var 0) [(4, 4)]) (.var 1)), .ret (.tup [(.ife (.tst (.cmp .eq (.var 3) (.cst (.str "kept")))) (.tup [(.var 4), (.cst (.tup [(.int 0), (.int 1)]))]) (.tup [(.cst (.tup [(.int 0), (.int 1)])), (.call F_scaled [(.var 4), (.var 2)])])), (.tup [(.cst (.tup [(.int 0), (.int 1)])), (.cst (.tup [(.int 0), (.int 1)]))])])]
def F_way_of : DFun := evD 4 5 b_way_of
theorem c_way_of : cB T_38 ⟨["model", "bank", "owed", "word", "keep"], defScope (top 50), [], [], none, []⟩ (defBody (top 50)) = some b_way_of := by kernel_rfl
def T_39 : Tb := T_38.add "way_of" F_way_of
theorem g_39 (H : Hyp K mg base) : Gf w K mg base P 44 T_39 := gf_defX (g_38 H) H.X H.N H.D 39 rfl (H.D.fact 38 (f := .glo "way_of") rfl) (fun _ _ _ _ _ _ us hl => match us, hl with | [_, _, _, _], _ => rfl) (show FnScope ["model", "bank", "owed", "word", "keep"] ["model", "bank", "owed", "word"] (defScope (top 50)) from ⟨rfl, rfl, rfl, by decide +kernel, rfl, by decide +kernel, by decide +kernel⟩) c_way_of (by decide) (by decide)
def b_equations : List IS := [.par [3, 4] [(.call (pF fLen) [(.atr (.var 0) [(4, 0)])]), (.call F_all_parts [(.var 0)])], .par [5, 6] [(.lst []), (.lst [])], .for_ (.nm 2) (.rng1 (.var 3)) [.par [8, 9] [(.call F_unit_row [(.var 3), (.var 2)]), (.ix (.atr (.var 0) [(4, 1)]) (.var 2))], .for_ (.nm 7) (.rng1 (.var 3)) [.for_ (.tp [(.tp [(.nm 11), (.nm 12)]), (.nm 10)]) (.zip2 (.ix (.var 1) (.var 7)) (.tup [(.ix (.ix (.var 4) (.var 7)) (.var 2)), (.ix (.ix (.atr (.var 0) [(4, 3)]) (.var 7)) (.var 2))])) [.asg (.nm 8) (.call F_plus_times [(.var 8), (.call F_turned_sign [(.call F_scaled [(.var 11), (.var 10)])]), (.call F_unit_row [(.var 3), (.var 7)])]), .asg (.nm 9) (.ix (.call F_plus_times [(.tup [(.var 9)]), (.var 10), (.tup [(.var 12)])]) (.cst (.int 0)))]], .app 5 (.var 8), .app 6 (.var 9)], .ret (.tup [(.var 5), (.var 6)])]
def F_equations : DFun := evD 2 13 b_equations
theorem c_equations : cB T_39 ⟨["model", "ways", "bank", "many", "parts", "rows", "rights", "other", "row", "right", "part", "by", "with_it"], defScope (top 51), [5, 6], [], none, []⟩ (defBody (top 51)) = some b_equations := by kernel_rfl
def T_40 : Tb := T_39.add "equations" F_equations
theorem g_40 (H : Hyp K mg base) : Gf w K mg base P 45 T_40 := gf_defX (g_39 H) H.X H.N H.D 40 rfl (H.D.fact 39 (f := .glo "equations") rfl) (fun _ _ _ _ _ _ us hl => match us, hl with | [_, _], _ => rfl) (show FnScope ["model", "ways", "bank", "many", "parts", "rows", "rights", "other", "row", "right", "part", "by", "with_it"] ["model", "ways"] (defScope (top 51)) from ⟨rfl, rfl, rfl, by decide +kernel, rfl, by decide +kernel, by decide +kernel⟩) c_equations (by decide) (by decide)
def b_assets_row : List IS := [.asg (.tp [(.nm 2), (.nm 3)]) (.call F_equations [(.var 0), (.var 1)]), .ret (.call F_solved_row [(.var 2), (.var 3), (.call (pF fLen) [(.atr (.var 0) [(4, 0)])])])]
def F_assets_row : DFun := evD 2 4 b_assets_row
theorem c_assets_row : cB T_40 ⟨["model", "ways", "rows", "rights"], defScope (top 52), [], [], none, []⟩ (defBody (top 52)) = some b_assets_row := by kernel_rfl
def T_41 : Tb := T_40.add "assets_row" F_assets_row
theorem g_41 (H : Hyp K mg base) : Gf w K mg base P 46 T_41 := gf_defX (g_40 H) H.X H.N H.D 41 rfl (H.D.fact 40 (f := .glo "assets_row") rfl) (fun _ _ _ _ _ _ us hl => match us, hl with | [_, _], _ => rfl) (show FnScope ["model", "ways", "rows", "rights"] ["model", "ways"] (defScope (top 52)) from ⟨rfl, rfl, rfl, by decide +kernel, rfl, by decide +kernel, by decide +kernel⟩) c_assets_row (by decide) (by decide)
def b_told_of : List IS := [.asg (.nm 2) (.lst []), .for_ (.nm 3) (.rng1 (.cst (.int 2))) [.app 2 (.call (pF fTuple) [(.cmpr [4, 5] (.tp [(.nm 4), (.nm 5)]) (.zip2 (.var 0) (.var 1)) [] (.ix (.call F_plus_times [(.tup [(.ix (.ix (.var 4) (.var 3)) (.cst (.int 1)))]), (.ix (.ix (.var 4) (.var 3)) (.cst (.int 0))), (.tup [(.var 5)])]) (.cst (.int 0))))])], .ret (.tup [(.ixv 2 (.cst (.int 0))), (.ixv 2 (.cst (.int 1)))])]
def F_told_of : DFun := evD 2 6 b_told_of
theorem c_told_of : cB T_41 ⟨["ways", "made", "out", "n", "way", "item"], defScope (top 53), [2], [], none, []⟩ (defBody (top 53)) = some b_told_of := by kernel_rfl
def T_42 : Tb := T_41.add "told_of" F_told_of
theorem g_42 (H : Hyp K mg base) : Gf w K mg base P 47 T_42 := gf_defX (g_41 H) H.X H.N H.D 42 rfl (H.D.fact 41 (f := .glo "told_of") rfl) (fun _ _ _ _ _ _ us hl => match us, hl with | [_, _], _ => rfl) (show FnScope ["ways", "made", "out", "n", "way", "item"] ["ways", "made"] (defScope (top 53)) from ⟨rfl, rfl, rfl, by decide +kernel, rfl, by decide +kernel, by decide +kernel⟩) c_told_of (by decide) (by decide)
def b_fits_word : List IS := [.ite (.tst (.cmp .lt (.ix (.var 1) (.cst (.int 0))) (.cst (.int 0)))) [.ret (.cst (.bl false))] [], .ret (.ife (.tst (.cmp .in_ (.var 0) (.tup [(.cst (.str "rest")), (.cst (.str "full"))]))) (.not (.tst (.call F_below [(.var 1), (.var 2)]))) (.not (.tst (.call F_below [(.var 2), (.var 1)]))))]
def F_fits_word : DFun := evD 3 3 b_fits_word
theorem c_fits_word : cB T_42 ⟨["word", "item", "owed"], defScope (top 54), [], [], none, []⟩ (defBody (top 54)) = some b_fits_word := by kernel_rfl
def T_43 : Tb := T_42.add "fits_word" F_fits_word
theorem g_43 (H : Hyp K mg base) : Gf w K mg base P 48 T_43 := gf_defX (g_42 H) H.X H.N H.D 43 rfl (H.D.fact 42 (f := .glo "fits_word") rfl) (fun _ _ _ _ _ _ us hl => match us, hl with | [_, _, _], _ => rfl) (show FnScope ["word", "item", "owed"] ["word", "item", "owed"] (defScope (top 54)) from ⟨rfl, rfl, rfl, by decide +kernel, rfl, by decide +kernel, by decide +kernel⟩) c_fits_word (by decide) (by decide)
def b_settled : List IS := [.par [5, 6, 7] [(.call F_all_owed [(.var 0)]), (.call (pF fLen) [(.atr (.var 0) [(4, 0)])]), (.lst [])], .for_ (.nm 4) (.seq (.call F_subsets_of [(.rngL false (.var 6))])) [.asg (.nm 8) (.lst []), .for_ (.nm 9) (.rng1 (.var 6)) [.asg (.nm 12) (.ife (.tst (.cmp .in_ (.var 9) (.var 1))) (.var 2) (.var 3)), .app 8 (.ife (.tst (.cmp .in_ (.var 9) (.var 4))) (.ix (.var 12) (.cst (.int 0))) (.ix (.var 12) (.cst (.int 1))))], .asg (.nm 10) (.cmpr [9, 13] (.tp [(.nm 9), (.nm 13)]) (.enm (.var 8)) [] (.call F_way_of [(.var 0), (.var 9), (.ix (.var 5) (.var 9)), (.var 13)])), .asg (.nm 11) (.call F_assets_row [(.var 0), (.var 10)]), .ite (.and (.tst (.cmp .notN (.var 11) (.cst .non))) (.tst (.call (pF fAll) [(.cmpr [13, 14, 15] (.tp [(.nm 13), (.nm 14), (.nm 15)]) (.zip3 (.var 8) (.var 11) (.var 5)) [] (.call F_fits_word [(.var 13), (.var 14), (.var 15)]))]))) [.app 7 (.call F_told_of [(.var 10), (.var 11)])] []], .retv 7]
def F_settled : DFun := evD 4 16 b_settled
theorem c_settled : cB T_43 ⟨["model", "banks", "words", "others_words", "some", "owed", "many", "out", "chosen", "bank", "ways", "made", "own", "word", "item", "due"], defScope (top 55), [8, 7], [], none, []⟩ (defBody (top 55)) = some b_settled := by kernel_rfl
def T_44 : Tb := T_43.add "settled" F_settled
theorem g_44 (H : Hyp K mg base) : Gf w K mg base P 49 T_44 := gf_defX (g_43 H) H.X H.N H.D 44 rfl (H.D.fact 43 (f := .glo "settled") rfl) (fun _ _ _ _ _ _ us hl => match us, hl with | [_, _, _, _], _ => rfl) (show FnScope ["model", "banks", "words", "others_words", "some", "owed", "many", "out", "chosen", "bank", "ways", "made", "own", "word", "item", "due"] ["model", "banks", "words", "others_words"] (defScope (top 55)) from ⟨rfl, rfl, rfl, by decide +kernel, rfl, by decide +kernel, by decide +kernel⟩) c_settled (by decide) (by decide)
def b_is_no_less : List IS := [.ret (.not (.tst (.call (pF fAny) [(.cmpr [2, 3] (.tp [(.nm 2), (.nm 3)]) (.zip2 (.var 0) (.var 1)) [] (.call (pF fAny) [(.cmpr [4, 5] (.tp [(.nm 4), (.nm 5)]) (.zip2 (.var 2) (.var 3)) [] (.call F_below [(.var 4), (.var 5)]))]))])))]
def F_is_no_less : DFun := evD 2 6 b_is_no_less
theorem c_is_no_less : cB T_44 ⟨["one", "other", "row", "last", "a", "b"], defScope (top 56), [], [], none, []⟩ (defBody (top 56)) = some b_is_no_less := by kernel_rfl
def T_45 : Tb := T_44.add "is_no_less" F_is_no_less
theorem g_45 (H : Hyp K mg base) : Gf w K mg base P 50 T_45 := gf_defX (g_44 H) H.X H.N H.D 45 rfl (H.D.fact 44 (f := .glo "is_no_less") rfl) (fun _ _ _ _ _ _ us hl => match us, hl with | [_, _], _ => rfl) (show FnScope ["one", "other", "row", "last", "a", "b"] ["one", "other"] (defScope (top 56)) from ⟨rfl, rfl, rfl, by decide +kernel, rfl, by decide +kernel, by decide +kernel⟩) c_is_no_less (by decide) (by decide)
def b_greatest_of : List IS := [.asg (.nm 1) (.ix (.var 0) (.cst (.int 0))), .for_ (.nm 2) (.seq (.var 0)) [.asg (.nm 1) (.ife (.tst (.call F_is_no_less [(.var 2), (.var 1)])) (.var 2) (.var 1))], .ret (.var 1)]
def F_greatest_of : DFun := evD 1 3 b_greatest_of
theorem c_greatest_of : cB T_45 ⟨["pairs", "out", "pair"], defScope (top 57), [], [], none, []⟩ (defBody (top 57)) = some b_greatest_of := by kernel_rfl
def T_46 : Tb := T_45.add "greatest_of" F_greatest_of
theorem g_46 (H : Hyp K mg base) : Gf w K mg base P 51 T_46 := gf_defX (g_45 H) H.X H.N H.D 46 rfl (H.D.fact 45 (f := .glo "greatest_of") rfl) (fun _ _ _ _ _ _ us hl => match us, hl with | [_], _ => rfl) (show FnScope ["pairs", "out", "pair"] ["pairs"] (defScope (top 57)) from ⟨rfl, rfl, rfl, by decide +kernel, rfl, by decide +kernel, by decide +kernel⟩) c_greatest_of (by decide) (by decide)
def b_least_of : List IS := [.asg (.nm 1) (.ix (.var 0) (.cst (.int 0))), .for_ (.nm 2) (.seq (.var 0)) [.asg (.nm 1) (.ife (.tst (.call F_is_no_less [(.var 1), (.var 2)])) (.var 2) (.var 1))], .ret (.var 1)]
def F_least_of : DFun := evD 1 3 b_least_of
theorem c_least_of : cB T_46 ⟨["pairs", "out", "pair"], defScope (top 58), [], [], none, []⟩ (defBody (top 58)) = some b_least_of := by kernel_rfl
def T_47 : Tb := T_46.add "least_of" F_least_of
theorem g_47 (H : Hyp K mg base) : Gf w K mg base P 52 T_47 := gf_defX (g_46 H) H.X H.N H.D 47 rfl (H.D.fact 46 (f := .glo "least_of") rfl) (fun _ _ _ _ _ _ us hl => match us, hl with | [_], _ => rfl) (show FnScope ["pairs", "out", "pair"] ["pairs"] (defScope (top 58)) from ⟨rfl, rfl, rfl, by decide +kernel, rfl, by decide +kernel, by decide +kernel⟩) c_least_of (by decide) (by decide)
def b_with_failing_by : List IS := [.ret (.call F_greatest_of [(.call F_settled [(.var 0), (.var 1), (.tup [(.cst (.str "full")), (.cst (.str "kept"))]), (.tup [(.cst (.str "rest")), (.cst (.str "flat"))])])])]
def F_with_failing_by : DFun := evD 2 2 b_with_failing_by
theorem c_with_failing_by : cB T_47 ⟨["model", "banks"], defScope (top 59), [], [], none, []⟩ (defBody (top 59)) = some b_with_failing_by := by kernel_rfl
def T_48 : Tb := T_47.add "with_failing_by" F_with_failing_by
theorem g_48 (H : Hyp K mg base) : Gf w K mg base P 53 T_48 := gf_defX (g_47 H) H.X H.N H.D 48 rfl (H.D.fact 47 (f := .glo "with_failing_by") rfl) (fun _ _ _ _ _ _ us hl => match us, hl with | [_, _], _ => rfl) (show FnScope ["model", "banks"] ["model", "banks"] (defScope (top 59)) from ⟨rfl, rfl, rfl, by decide +kernel, rfl, by decide +kernel, by decide +kernel⟩) c_with_failing_by (by decide) (by decide)
def b_with_paying_by : List IS := [.ret (.call F_least_of [(.call F_settled [(.var 0), (.var 1), (.tup [(.cst (.str "rest")), (.cst (.str "flat"))]), (.tup [(.cst (.str "full")), (.cst (.str "kept"))])])])]
def F_with_paying_by : DFun := evD 2 2 b_with_paying_by
theorem c_with_paying_by : cB T_48 ⟨["model", "banks"], defScope (top 60), [], [], none, []⟩ (defBody (top 60)) = some b_with_paying_by := by kernel_rfl
def T_49 : Tb := T_48.add "with_paying_by" F_with_paying_by
theorem g_49 (H : Hyp K mg base) : Gf w K mg base P 54 T_49 := gf_defX (g_48 H) H.X H.N H.D 49 rfl (H.D.fact 48 (f := .glo "with_paying_by") rfl) (fun _ _ _ _ _ _ us hl => match us, hl with | [_, _], _ => rfl) (show FnScope ["model", "banks"] ["model", "banks"] (defScope (top 60)) from ⟨rfl, rfl, rfl, by decide +kernel, rfl, by decide +kernel, by decide +kernel⟩) c_with_paying_by (by decide) (by decide)
def b_joined : List IS := [.ret (.call (pF fSrt) [(.bin .add (.var 0) (.var 1))])]
def F_joined : DFun := evD 2 2 b_joined
theorem c_joined : cB T_49 ⟨["one", "other"], defScope (top 61), [], [], none, []⟩ (defBody (top 61)) = some b_joined := by kernel_rfl
def T_50 : Tb := T_49.add "joined" F_joined
theorem g_50 (H : Hyp K mg base) : Gf w K mg base P 55 T_50 := gf_defX (g_49 H) H.X H.N H.D 50 rfl (H.D.fact 49 (f := .glo "joined") rfl) (fun _ _ _ _ _ _ us hl => match us, hl with | [_, _], _ => rfl) (show FnScope ["one", "other"] ["one", "other"] (defScope (top 61)) from ⟨rfl, rfl, rfl, by decide +kernel, rfl, by decide +kernel, by decide +kernel⟩) c_joined (by decide) (by decide)
def b_greatest_rounds : List IS := [.par [1, 2] [(.tup []), (.lst [])], .whl 100000 [.asg (.tp [(.nm 4), (.nm 5)]) (.call F_with_failing_by [(.var 0), (.var 1)]), .app 2 (.tup [(.var 1), (.var 4), (.var 5)]), .asg (.nm 3) (.call F_joined [(.var 1), (.call F_lacking [(.var 0), (.call F_assets_by [(.var 0), (.var 4), (.var 5)])])]), .ite (.tst (.cmp .eq (.var 3) (.var 1))) [.ret (.call (pF fTuple) [(.var 2)])] [], .asg (.nm 1) (.var 3)]]
def F_greatest_rounds : DFun := evD 1 6 b_greatest_rounds
theorem c_greatest_rounds : cB T_50 ⟨["model", "banks", "out", "more", "payments", "worths"], defScope (top 62), [2], [], none, []⟩ (defBody (top 62)) = some b_greatest_rounds := by kernel_rfl
def T_51 : Tb := T_50.add "greatest_rounds" F_greatest_rounds
theorem g_51 (H : Hyp K mg base) : Gf w K mg base P 56 T_51 := gf_defX (g_50 H) H.X H.N H.D 51 rfl (H.D.fact 50 (f := .glo "greatest_rounds") rfl) (fun _ _ _ _ _ _ us hl => match us, hl with | [_], _ => rfl) (show FnScope ["model", "banks", "out", "more", "payments", "worths"] ["model"] (defScope (top 62)) from ⟨rfl, rfl, rfl, by decide +kernel, rfl, by decide +kernel, by decide +kernel⟩) c_greatest_rounds (by decide) (by decide)
def b_least_rounds : List IS := [.par [2, 3] [(.call F_all_owed [(.var 0)]), (.lst [])], .asg (.nm 1) (.call (pF fTuple) [(.cmpr [8, 9] (.tp [(.nm 8), (.nm 9)]) (.enm (.var 2)) [(.tst (.cmp .eq (.ix (.var 9) (.cst (.int 0))) (.cst (.int 0))))] (.var 8))]), .whl 100000 [.asg (.tp [(.nm 6), (.nm 7)]) (.call F_with_paying_by [(.var 0), (.var 1)]), .app 3 (.tup [(.var 1), (.var 6), (.var 7)]), .asg (.nm 4) (.call F_assets_by [(.var 0), (.var 6), (.var 7)]), .asg (.nm 5) (.call F_joined [(.var 1), (.call (pF fTuple) [(.cmpr [8, 9] (.tp [(.nm 8), (.nm 9)]) (.enm (.var 2)) [(.not (.tst (.call F_below [(.ix (.var 4) (.var 8)), (.var 9)])))] (.var 8))])]), .ite (.tst (.cmp .eq (.var 5) (.var 1))) [.ret (.call (pF fTuple) [(.var 3)])] [], .asg (.nm 1) (.var 5)]]
def F_least_rounds : DFun := evD 1 10 b_least_rounds
theorem c_least_rounds : cB T_51 ⟨["model", "banks", "owed", "out", "made", "more", "payments", "worths", "bank", "due"], defScope (top 63), [3], [], none, []⟩ (defBody (top 63)) = some b_least_rounds := by kernel_rfl
def T_52 : Tb := T_51.add "least_rounds" F_least_rounds
theorem g_52 (H : Hyp K mg base) : Gf w K mg base P 57 T_52 := gf_defX (g_51 H) H.X H.N H.D 52 rfl (H.D.fact 51 (f := .glo "least_rounds") rfl) (fun _ _ _ _ _ _ us hl => match us, hl with | [_], _ => rfl) (show FnScope ["model", "banks", "owed", "out", "made", "more", "payments", "worths", "bank", "due"] ["model"] (defScope (top 63)) from ⟨rfl, rfl, rfl, by decide +kernel, rfl, by decide +kernel, by decide +kernel⟩) c_least_rounds (by decide) (by decide)
def b_pays_by : List IS := [.asg (.nm 1) (.call F_greatest_rounds [(.var 0)]), .ret (.tup [(.call F_Pays [(.ix (.ix (.var 1) (.neg (.cst (.int 1)))) (.cst (.int 1))), (.ix (.ix (.var 1) (.neg (.cst (.int 1)))) (.cst (.int 2)))]), (.var 1)])]
def F_pays_by : DFun := evD 1 2 b_pays_by
theorem c_pays_by : cB T_52 ⟨["model", "rounds"], defScope (top 64), [], [], none, []⟩ (defBody (top 64)) = some b_pays_by := by kernel_rfl
def T_53 : Tb := T_52.add "pays_by" F_pays_by
theorem g_53 (H : Hyp K mg base) : Gf w K mg base P 58 T_53 := gf_defX (g_52 H) H.X H.N H.D 53 rfl (H.D.fact 52 (f := .glo "pays_by") rfl) (fun _ _ _ _ _ _ us hl => match us, hl with | [_], _ => rfl) (show FnScope ["model", "rounds"] ["model"] (defScope (top 64)) from ⟨rfl, rfl, rfl, by decide +kernel, rfl, by decide +kernel, by decide +kernel⟩) c_pays_by (by decide) (by decide)
def b_pays : List IS := [.drop (.call F_need_model [(.var 0)]), .ret (.call F_pays_by [(.var 0)])]
def F_pays : DFun := evD 1 1 b_pays
theorem c_pays : cB T_53 ⟨["model"], defScope (top 65), [], [], none, []⟩ (defBody (top 65)) = some b_pays := by kernel_rfl
def T_54 : Tb := T_53.add "pays" F_pays
theorem g_54 (H : Hyp K mg base) : Gf w K mg base P 59 T_54 := gf_defX (g_53 H) H.X H.N H.D 54 rfl (H.D.fact 53 (f := .glo "pays") rfl) (fun _ _ _ _ _ _ us hl => match us, hl with | [_], _ => rfl) (show FnScope ["model"] ["model"] (defScope (top 65)) from ⟨rfl, rfl, rfl, by decide +kernel, rfl, by decide +kernel, by decide +kernel⟩) c_pays (by decide) (by decide)
def b_least_by : List IS := [.asg (.nm 1) (.call F_least_rounds [(.var 0)]), .ret (.tup [(.call F_Least [(.ix (.ix (.var 1) (.neg (.cst (.int 1)))) (.cst (.int 1))), (.ix (.ix (.var 1) (.neg (.cst (.int 1)))) (.cst (.int 2)))]), (.var 1)])]
def F_least_by : DFun := evD 1 2 b_least_by
theorem c_least_by : cB T_54 ⟨["model", "rounds"], defScope (top 66), [], [], none, []⟩ (defBody (top 66)) = some b_least_by := by kernel_rfl
def T_55 : Tb := T_54.add "least_by" F_least_by
theorem g_55 (H : Hyp K mg base) : Gf w K mg base P 60 T_55 := gf_defX (g_54 H) H.X H.N H.D 55 rfl (H.D.fact 54 (f := .glo "least_by") rfl) (fun _ _ _ _ _ _ us hl => match us, hl with | [_], _ => rfl) (show FnScope ["model", "rounds"] ["model"] (defScope (top 66)) from ⟨rfl, rfl, rfl, by decide +kernel, rfl, by decide +kernel, by decide +kernel⟩) c_least_by (by decide) (by decide)
def b_least : List IS := [.drop (.call F_need_model [(.var 0)]), .ret (.call F_least_by [(.var 0)])]
def F_least : DFun := evD 1 1 b_least
theorem c_least : cB T_55 ⟨["model"], defScope (top 67), [], [], none, []⟩ (defBody (top 67)) = some b_least := by kernel_rfl
def T_56 : Tb := T_55.add "least" F_least
theorem g_56 (H : Hyp K mg base) : Gf w K mg base P 61 T_56 := gf_defX (g_55 H) H.X H.N H.D 56 rfl (H.D.fact 55 (f := .glo "least") rfl) (fun _ _ _ _ _ _ us hl => match us, hl with | [_], _ => rfl) (show FnScope ["model"] ["model"] (defScope (top 67)) from ⟨rfl, rfl, rfl, by decide +kernel, rfl, by decide +kernel, by decide +kernel⟩) c_least (by decide) (by decide)
def b_worst_failing : List IS := [.asg (.nm 1) (.ix (.call F_least_rounds [(.var 0)]) (.neg (.cst (.int 1)))), .ret (.call F_failing_by [(.var 0), (.ix (.var 1) (.cst (.int 1))), (.ix (.var 1) (.cst (.int 2)))])]
def F_worst_failing : DFun := evD 1 2 b_worst_failing
theorem c_worst_failing : cB T_56 ⟨["model", "last"], defScope (top 69), [], [], none, []⟩ (defBody (top 69)) = some b_worst_failing := by kernel_rfl
def T_57 : Tb := T_56.add "worst_failing" F_worst_failing
theorem g_57 (H : Hyp K mg base) : Gf w K mg base P 62 T_57 := gf_defX (g_56 H) H.X H.N H.D 57 rfl (H.D.fact 56 (f := .glo "worst_failing") rfl) (fun _ _ _ _ _ _ us hl => match us, hl with | [_], _ => rfl) (show FnScope ["model", "last"] ["model"] (defScope (top 69)) from ⟨rfl, rfl, rfl, by decide +kernel, rfl, by decide +kernel, by decide +kernel⟩) c_worst_failing (by decide) (by decide)
def b_safe : List IS := [.drop (.call F_need_model [(.var 0)]), .asg (.nm 1) (.call F_worst_failing [(.var 0)]), .ret (.call (pF fTuple) [(.cmpr [2] (.nm 2) (.rng1 (.call (pF fLen) [(.atr (.var 0) [(4, 0)])])) [(.tst (.cmp .notIn (.var 2) (.var 1)))] (.var 2))])]
def F_safe : DFun := evD 1 3 b_safe
theorem c_safe : cB T_57 ⟨["model", "out", "bank"], defScope (top 70), [], [], none, []⟩ (defBody (top 70)) = some b_safe := by kernel_rfl
def T_58 : Tb := T_57.add "safe" F_safe
theorem g_58 (H : Hyp K mg base) : Gf w K mg base P 63 T_58 := gf_defX (g_57 H) H.X H.N H.D 58 rfl (H.D.fact 57 (f := .glo "safe") rfl) (fun _ _ _ _ _ _ us hl => match us, hl with | [_], _ => rfl) (show FnScope ["model", "out", "bank"] ["model"] (defScope (top 70)) from ⟨rfl, rfl, rfl, by decide +kernel, rfl, by decide +kernel, by decide +kernel⟩) c_safe (by decide) (by decide)
def b_torn : List IS := [.drop (.call F_need_model [(.var 0)]), .asg (.nm 1) (.ix (.ix (.call F_greatest_rounds [(.var 0)]) (.neg (.cst (.int 1)))) (.cst (.int 0))), .ret (.call (pF fTuple) [(.cmpr [2] (.nm 2) (.seq (.call F_worst_failing [(.var 0)])) [(.tst (.cmp .notIn (.var 2) (.var 1)))] (.var 2))])]
def F_torn : DFun := evD 1 3 b_torn
theorem c_torn : cB T_58 ⟨["model", "last", "bank"], defScope (top 71), [], [], none, []⟩ (defBody (top 71)) = some b_torn := by kernel_rfl
def T_59 : Tb := T_58.add "torn" F_torn
theorem g_59 (H : Hyp K mg base) : Gf w K mg base P 64 T_59 := gf_defX (g_58 H) H.X H.N H.D 59 rfl (H.D.fact 58 (f := .glo "torn") rfl) (fun _ _ _ _ _ _ us hl => match us, hl with | [_], _ => rfl) (show FnScope ["model", "last", "bank"] ["model"] (defScope (top 71)) from ⟨rfl, rfl, rfl, by decide +kernel, rfl, by decide +kernel, by decide +kernel⟩) c_torn (by decide) (by decide)
def b__law_draw : List IS := [.pset 0 3 (.bin .add (.pget 0 3) (.cst (.int 1))), .ite (.and (.tst (.cmp .eq (.pget 0 2) (.cst (.int 0)))) (.tst (.cmp .lt (.pget 0 1) (.call (pF fLen) [(.pget 0 0)])))) [.asg (.nm 3) (.ix (.pget 0 0) (.pget 0 1)), .pset 0 1 (.bin .add (.pget 0 1) (.cst (.int 1))), .ite (.tst (.cmp .ge (.var 3) (.bin .pow (.cst (.int 10)) (.cst (.int 18))))) [.pset 0 2 (.bin .sub (.var 3) (.bin .pow (.cst (.int 10)) (.cst (.int 18))))] [.pset 0 4 (.bin .mod (.call (pF fInt) [(.bin .add (.bin .mul (.pget 0 4) (.cst (.int 31013))) (.var 3))]) (.cst (.int 2147482909)))]] [], .ite (.tst (.cmp .gt (.pget 0 2) (.cst (.int 0)))) [.asg (.nm 4) (.bin .mod (.call (pF fInt) [(.pget 0 2)]) (.var 1)), .pset 0 2 (.bin .fdiv (.pget 0 2) (.var 1)), .ret (.var 4)] [], .asg (.nm 2) (.bin .add (.bin .add (.pget 0 4) (.bin .mul (.pget 0 3) (.cst (.int 6317)))) (.cst (.int 191))), .ret (.bin .mod (.bin .fdiv (.call (pF fInt) [(.bin .mod (.bin .pow (.var 2) (.cst (.int 53))) (.cst (.int 2305843009213693951)))]) (.cst (.int 2048))) (.var 1))]
def F__law_draw : DFun := evD 2 5 b__law_draw
theorem c__law_draw : cB T_59 ⟨["pen", "many", "blend", "cell", "digit"], defScope (top 74), [], [], none, [0]⟩ (defBody (top 74)) = some b__law_draw := by kernel_rfl
def T_60 : Tb := T_59.add "_law_draw" F__law_draw
theorem g_60 (H : Hyp K mg base) : Gf w K mg base P 65 T_60 := gf_defX (g_59 H) H.X H.N H.D 61 rfl (H.D.fact 60 (f := .glo "_law_draw") rfl) (fun _ _ _ _ _ _ us hl => match us, hl with | [_, _], _ => rfl) (show FnScope ["pen", "many", "blend", "cell", "digit"] ["pen", "many"] (defScope (top 74)) from ⟨rfl, rfl, rfl, by decide +kernel, rfl, by decide +kernel, by decide +kernel⟩) c__law_draw (by decide) (by decide)
def b__law_pick : List IS := [.ret (.ix (.var 1) (.call F__law_draw [(.var 0), (.call (pF fLen) [(.var 1)])]))]
def F__law_pick : DFun := evD 2 2 b__law_pick
theorem c__law_pick : cB T_60 ⟨["pen", "some"], defScope (top 75), [], [], none, []⟩ (defBody (top 75)) = some b__law_pick := by kernel_rfl
def T_61 : Tb := T_60.add "_law_pick" F__law_pick
theorem g_61 (H : Hyp K mg base) : Gf w K mg base P 66 T_61 := gf_defX (g_60 H) H.X H.N H.D 62 rfl (H.D.fact 61 (f := .glo "_law_pick") rfl) (fun _ _ _ _ _ _ us hl => match us, hl with | [_, _], _ => rfl) (show FnScope ["pen", "some"] ["pen", "some"] (defScope (top 75)) from ⟨rfl, rfl, rfl, by decide +kernel, rfl, by decide +kernel, by decide +kernel⟩) c__law_pick (by decide) (by decide)
def b__law_gcd : List IS := [.par [0, 1] [(.call (pF fAbs) [(.var 0)]), (.call (pF fAbs) [(.var 1)])], .for_ (.nm 2) (.rng1 (.bin .add (.cst (.int 4)) (.bin .mul (.cst (.int 2)) (.bitlen (.call (pF fInt) [(.var 1)]))))) [.ite (.tst (.cmp .eq (.var 1) (.cst (.int 0)))) [.brk] [], .par [0, 1] [(.var 1), (.bin .mod (.call (pF fInt) [(.var 0)]) (.var 1))]], .ret (.var 0)]
def F__law_gcd : DFun := evD 2 3 b__law_gcd
theorem c__law_gcd : cB T_61 ⟨["one", "two", "lap"], defScope (top 76), [], [], none, []⟩ (defBody (top 76)) = some b__law_gcd := by kernel_rfl
def T_62 : Tb := T_61.add "_law_gcd" F__law_gcd
theorem g_62 (H : Hyp K mg base) : Gf w K mg base P 67 T_62 := gf_defX (g_61 H) H.X H.N H.D 63 rfl (H.D.fact 62 (f := .glo "_law_gcd") rfl) (fun _ _ _ _ _ _ us hl => match us, hl with | [_, _], _ => rfl) (show FnScope ["one", "two", "lap"] ["one", "two"] (defScope (top 76)) from ⟨rfl, rfl, rfl, by decide +kernel, rfl, by decide +kernel, by decide +kernel⟩) c__law_gcd (by decide) (by decide)
def b__law_q : List IS := [.asg (.nm 2) (.call F__law_gcd [(.var 0), (.var 1)]), .asg (.nm 2) (.ife (.tst (.cmp .lt (.var 1) (.cst (.int 0)))) (.neg (.var 2)) (.var 2)), .ret (.tup [(.bin .fdiv (.var 0) (.var 2)), (.bin .fdiv (.var 1) (.var 2))])]
def F__law_q : DFun := evD 2 3 b__law_q
theorem c__law_q : cB T_62 ⟨["top", "bottom", "by"], defScope (top 77), [], [], none, []⟩ (defBody (top 77)) = some b__law_q := by kernel_rfl
def T_63 : Tb := T_62.add "_law_q" F__law_q
theorem g_63 (H : Hyp K mg base) : Gf w K mg base P 68 T_63 := gf_defX (g_62 H) H.X H.N H.D 64 rfl (H.D.fact 63 (f := .glo "_law_q") rfl) (fun _ _ _ _ _ _ us hl => match us, hl with | [_, _], _ => rfl) (show FnScope ["top", "bottom", "by"] ["top", "bottom"] (defScope (top 77)) from ⟨rfl, rfl, rfl, by decide +kernel, rfl, by decide +kernel, by decide +kernel⟩) c__law_q (by decide) (by decide)
def b__law_plus : List IS := [.ret (.call F__law_q [(.bin .add (.bin .mul (.ix (.var 0) (.cst (.int 0))) (.ix (.var 1) (.cst (.int 1)))) (.bin .mul (.ix (.var 1) (.cst (.int 0))) (.ix (.var 0) (.cst (.int 1))))), (.bin .mul (.ix (.var 0) (.cst (.int 1))) (.ix (.var 1) (.cst (.int 1))))])]
def F__law_plus : DFun := evD 2 2 b__law_plus
theorem c__law_plus : cB T_63 ⟨["one", "two"], defScope (top 78), [], [], none, []⟩ (defBody (top 78)) = some b__law_plus := by kernel_rfl
def T_64 : Tb := T_63.add "_law_plus" F__law_plus
theorem g_64 (H : Hyp K mg base) : Gf w K mg base P 69 T_64 := gf_defX (g_63 H) H.X H.N H.D 65 rfl (H.D.fact 64 (f := .glo "_law_plus") rfl) (fun _ _ _ _ _ _ us hl => match us, hl with | [_, _], _ => rfl) (show FnScope ["one", "two"] ["one", "two"] (defScope (top 78)) from ⟨rfl, rfl, rfl, by decide +kernel, rfl, by decide +kernel, by decide +kernel⟩) c__law_plus (by decide) (by decide)
def b__law_times : List IS := [.ret (.call F__law_q [(.bin .mul (.ix (.var 0) (.cst (.int 0))) (.ix (.var 1) (.cst (.int 0)))), (.bin .mul (.ix (.var 0) (.cst (.int 1))) (.ix (.var 1) (.cst (.int 1))))])]
def F__law_times : DFun := evD 2 2 b__law_times
theorem c__law_times : cB T_64 ⟨["one", "two"], defScope (top 79), [], [], none, []⟩ (defBody (top 79)) = some b__law_times := by kernel_rfl
def T_65 : Tb := T_64.add "_law_times" F__law_times
theorem g_65 (H : Hyp K mg base) : Gf w K mg base P 70 T_65 := gf_defX (g_64 H) H.X H.N H.D 66 rfl (H.D.fact 65 (f := .glo "_law_times") rfl) (fun _ _ _ _ _ _ us hl => match us, hl with | [_, _], _ => rfl) (show FnScope ["one", "two"] ["one", "two"] (defScope (top 79)) from ⟨rfl, rfl, rfl, by decide +kernel, rfl, by decide +kernel, by decide +kernel⟩) c__law_times (by decide) (by decide)
def b__law_less : List IS := [.ret (.cmp .lt (.bin .mul (.ix (.var 0) (.cst (.int 0))) (.ix (.var 1) (.cst (.int 1)))) (.bin .mul (.ix (.var 1) (.cst (.int 0))) (.ix (.var 0) (.cst (.int 1)))))]
def F__law_less : DFun := evD 2 2 b__law_less
theorem c__law_less : cB T_65 ⟨["one", "two"], defScope (top 80), [], [], none, []⟩ (defBody (top 80)) = some b__law_less := by kernel_rfl
def T_66 : Tb := T_65.add "_law_less" F__law_less
theorem g_66 (H : Hyp K mg base) : Gf w K mg base P 71 T_66 := gf_defX (g_65 H) H.X H.N H.D 67 rfl (H.D.fact 66 (f := .glo "_law_less") rfl) (fun _ _ _ _ _ _ us hl => match us, hl with | [_, _], _ => rfl) (show FnScope ["one", "two"] ["one", "two"] (defScope (top 80)) from ⟨rfl, rfl, rfl, by decide +kernel, rfl, by decide +kernel, by decide +kernel⟩) c__law_less (by decide) (by decide)
def b__law_minus : List IS := [.ret (.call F__law_q [(.bin .sub (.bin .mul (.ix (.var 0) (.cst (.int 0))) (.ix (.var 1) (.cst (.int 1)))) (.bin .mul (.ix (.var 1) (.cst (.int 0))) (.ix (.var 0) (.cst (.int 1))))), (.bin .mul (.ix (.var 0) (.cst (.int 1))) (.ix (.var 1) (.cst (.int 1))))])]
def F__law_minus : DFun := evD 2 2 b__law_minus
theorem c__law_minus : cB T_66 ⟨["one", "two"], defScope (top 81), [], [], none, []⟩ (defBody (top 81)) = some b__law_minus := by kernel_rfl
def T_67 : Tb := T_66.add "_law_minus" F__law_minus
theorem g_67 (H : Hyp K mg base) : Gf w K mg base P 72 T_67 := gf_defX (g_66 H) H.X H.N H.D 68 rfl (H.D.fact 67 (f := .glo "_law_minus") rfl) (fun _ _ _ _ _ _ us hl => match us, hl with | [_, _], _ => rfl) (show FnScope ["one", "two"] ["one", "two"] (defScope (top 81)) from ⟨rfl, rfl, rfl, by decide +kernel, rfl, by decide +kernel, by decide +kernel⟩) c__law_minus (by decide) (by decide)
def b__law_share : List IS := [.ret (.call F__law_q [(.bin .mul (.ix (.var 0) (.cst (.int 0))) (.ix (.var 1) (.cst (.int 1)))), (.bin .mul (.ix (.var 0) (.cst (.int 1))) (.ix (.var 1) (.cst (.int 0))))])]
def F__law_share : DFun := evD 2 2 b__law_share
theorem c__law_share : cB T_67 ⟨["one", "two"], defScope (top 82), [], [], none, []⟩ (defBody (top 82)) = some b__law_share := by kernel_rfl
def T_68 : Tb := T_67.add "_law_share" F__law_share
theorem g_68 (H : Hyp K mg base) : Gf w K mg base P 73 T_68 := gf_defX (g_67 H) H.X H.N H.D 69 rfl (H.D.fact 68 (f := .glo "_law_share") rfl) (fun _ _ _ _ _ _ us hl => match us, hl with | [_, _], _ => rfl) (show FnScope ["one", "two"] ["one", "two"] (defScope (top 82)) from ⟨rfl, rfl, rfl, by decide +kernel, rfl, by decide +kernel, by decide +kernel⟩) c__law_share (by decide) (by decide)
def b__law_built : List IS := [.ret (.call F_Model [(.call (pF fTuple) [(.key (.var 0) 5)]), (.call (pF fTuple) [(.key (.var 0) 6)]), (.call (pF fTuple) [(.key (.var 0) 7)]), (.call (pF fTuple) [(.key (.var 0) 8)]), (.call (pF fTuple) [(.key (.var 0) 9)]), (.call (pF fTuple) [(.key (.var 0) 10)])])]
def F__law_built : DFun := evD 1 1 b__law_built
theorem c__law_built : cB T_68 ⟨["book"], defScope (top 83), [], [], none, []⟩ (defBody (top 83)) = some b__law_built := by kernel_rfl
def T_69 : Tb := T_68.add "_law_built" F__law_built
theorem g_69 (H : Hyp K mg base) : Gf w K mg base P 74 T_69 := gf_defX (g_68 H) H.X H.N H.D 70 rfl (H.D.fact 69 (f := .glo "_law_built") rfl) (fun _ _ _ _ _ _ us hl => match us, hl with | [_], _ => rfl) (show FnScope ["book"] ["book"] (defScope (top 83)) from ⟨rfl, rfl, rfl, by decide +kernel, rfl, by decide +kernel, by decide +kernel⟩) c__law_built (by decide) (by decide)
def b__law_ring_book : List IS := [.asg (.nm 5) (.cmpr [6] (.nm 6) (.rng1 (.var 0)) [] (.call (pF fTuple) [(.cmpr [7] (.nm 7) (.rng1 (.bin .add (.var 0) (.cst (.int 1)))) [] (.ife (.tst (.cmp .eq (.var 7) (.bin .mod (.bin .add (.var 6) (.cst (.int 1))) (.var 0)))) (.var 1) (.ife (.tst (.cmp .eq (.var 7) (.var 0))) (.var 3) (.tup [(.cst (.int 0)), (.cst (.int 1))]))))])), .ret (.dct [5, 6, 7, 8, 9, 10] [(.call (pF fTuple) [(.cmpr [8] (.nm 8) (.rng1 (.var 0)) [] (.bin .add (.cst (.str "b")) (.call (pF fStr) [(.var 8)])))]), (.var 2), (.var 5), (.bin .mul (.lst [(.bin .mul (.tup [(.tup [(.cst (.int 0)), (.cst (.int 1))])]) (.var 0))]) (.var 0)), (.bin .mul (.tup [(.var 4)]) (.var 0)), (.lst [])])]
def F__law_ring_book : DFun := evD 5 9 b__law_ring_book
theorem c__law_ring_book : cB T_69 ⟨["size", "like", "cash", "world", "keep", "rows", "i", "j", "k"], defScope (top 84), [], [], none, []⟩ (defBody (top 84)) = some b__law_ring_book := by kernel_rfl
def T_70 : Tb := T_69.add "_law_ring_book" F__law_ring_book
theorem g_70 (H : Hyp K mg base) : Gf w K mg base P 75 T_70 := gf_defX (g_69 H) H.X H.N H.D 71 rfl (H.D.fact 70 (f := .glo "_law_ring_book") rfl) (fun _ _ _ _ _ _ us hl => match us, hl with | [_, _, _, _, _], _ => rfl) (show FnScope ["size", "like", "cash", "world", "keep", "rows", "i", "j", "k"] ["size", "like", "cash", "world", "keep"] (defScope (top 84)) from ⟨rfl, rfl, rfl, by decide +kernel, rfl, by decide +kernel, by decide +kernel⟩) c__law_ring_book (by decide) (by decide)
def b_law : List IS := [.par [12, 13] [(.bin .add (.cst (.int 2)) (.call F__law_draw [(.var 1), (.cst (.int 3))])), (.tup [(.bin .add (.cst (.int 1)) (.call F__law_draw [(.var 1), (.cst (.int 5))])), (.cst (.int 1))])], .par [14, 15] [(.bin .mul (.tup [(.tup [(.cst (.int 0)), (.cst (.int 1))])]) (.var 12)), (.rngL true (.var 12))], .asg (.nm 2) (.call F__law_built [(.call F__law_ring_book [(.var 12), (.var 13), (.var 14), (.tup [(.cst (.int 0)), (.cst (.int 1))]), (.tup [(.cst (.int 1)), (.cst (.int 1))])])]), .ite (.or (.tst (.cmp .ne (.atr (.ix (.call F_pays [(.var 2)]) (.cst (.int 0))) [(2, 0), (3, 0)]) (.bin .mul (.tup [(.var 13)]) (.var 12)))) (.or (.tst (.cmp .ne (.atr (.ix (.call F_least [(.var 2)]) (.cst (.int 0))) [(2, 0), (3, 0)]) (.var 14))) (.tst (.cmp .ne (.call F_torn [(.var 2)]) (.var 15))))) [.ret (.cst (.bl false))] [], .asg (.nm 3) (.call F__law_times [(.var 13), (.call F__law_pick [(.var 1), (.lst [(.tup [(.cst (.int 1)), (.cst (.int 2))]), (.tup [(.cst (.int 1)), (.cst (.int 3))]), (.tup [(.cst (.int 3)), (.cst (.int 4))])])])]), .ite (.tst (.cmp .notN (.call F_is_clearing [(.var 2), (.tup [(.bin .mul (.tup [(.var 3)]) (.var 12)), (.var 14)])]) (.cst (.bl true)))) [.ret (.cst (.bl false))] [], .par [16, 17] [(.call F__law_draw [(.var 1), (.var 12)]), (.call F__law_pick [(.var 1), (.lst [(.tup [(.cst (.int 1)), (.cst (.int 1))]), (.tup [(.cst (.int 1)), (.cst (.int 2))]), (.tup [(.cst (.int 3)), (.cst (.int 1))])])])], .asg (.nm 4) (.call F__law_built [(.call F__law_ring_book [(.var 12), (.var 13), (.call (pF fTuple) [(.cmpr [22] (.nm 22) (.rng1 (.var 12)) [] (.ife (.tst (.cmp .eq (.var 22) (.var 16))) (.var 17) (.tup [(.cst (.int 0)), (.cst (.int 1))])))]), (.tup [(.cst (.int 0)), (.cst (.int 1))]), (.tup [(.cst (.int 1)), (.cst (.int 1))])])]), .asg (.nm 5) (.ix (.call F_least [(.var 4)]) (.cst (.int 0))), .ite (.or (.tst (.cmp .ne (.atr (.var 5) [(2, 0), (3, 0)]) (.bin .mul (.tup [(.var 13)]) (.var 12)))) (.or (.tst (.call (richD O_2 true) [(.var 5), (.ix (.call F_least [(.var 4)]) (.cst (.int 0)))])) (.or (.tst (.cmp .ne (.call F_safe [(.var 4)]) (.var 15))) (.tst (.cmp .ne (.atr (.var 5) [(2, 1), (3, 1)]) (.call (pF fTuple) [(.cmpr [22] (.nm 22) (.rng1 (.var 12)) [] (.ife (.tst (.cmp .eq (.var 22) (.var 16))) (.var 17) (.tup [(.cst (.int 0)), (.cst (.int 1))])))])))))) [.ret (.cst (.bl false))] [], .par [18, 19, 20] [(.call F__law_pick [(.var 1), (.lst [(.tup [(.cst (.int 1)), (.cst (.int 2))]), (.tup [(.cst (.int 3)), (.cst (.int 4))]), (.tup [(.cst (.int 1)), (.cst (.int 3))])])]), (.tup [(.bin .add (.cst (.int 1)) (.call F__law_draw [(.var 1), (.cst (.int 4))])), (.cst (.int 1))]), (.call F__law_pick [(.var 1), (.lst [(.tup [(.cst (.int 1)), (.cst (.int 1))]), (.tup [(.cst (.int 1)), (.cst (.int 2))]), (.tup [(.cst (.int 2)), (.cst (.int 1))]), (.tup [(.cst (.int 0)), (.cst (.int 1))])])])], .asg (.nm 6) (.call F__law_plus [(.var 13), (.var 19)]), .asg (.nm 7) (.call F__law_share [(.var 13), (.var 6)]), .asg (.nm 8) (.call F__law_share [(.call F__law_times [(.var 18), (.var 20)]), (.call F__law_minus [(.tup [(.cst (.int 1)), (.cst (.int 1))]), (.call F__law_times [(.var 18), (.var 7)])])]), .asg (.nm 9) (.call F__law_plus [(.var 20), (.call F__law_times [(.var 7), (.var 8)])]), .asg (.nm 10) (.call F__law_ring_book [(.var 12), (.var 13), (.bin .mul (.tup [(.var 20)]) (.var 12)), (.var 19), (.var 18)]), .ite (.tst (.call F__law_less [(.var 9), (.var 6)])) [.asg (.nm 21) (.bin .mul (.tup [(.var 8)]) (.var 12))] [.asg (.nm 21) (.bin .mul (.tup [(.var 6)]) (.var 12))], .ite (.tst (.cmp .ne (.atr (.ix (.call F_least [(.call F__law_built [(.var 10)])]) (.cst (.int 0))) [(2, 0), (3, 0)]) (.var 21))) [.ret (.cst (.bl false))] [], .asg (.nm 11) (.not (.tst (.call F__law_less [(.call F__law_plus [(.var 20), (.var 13)]), (.var 6)]))), .ret (.cmp .eq (.atr (.ix (.call F_pays [(.call F__law_built [(.var 10)])]) (.cst (.int 0))) [(2, 0), (3, 0)]) (.ife (.tst (.var 11)) (.bin .mul (.tup [(.var 6)]) (.var 12)) (.bin .mul (.tup [(.var 8)]) (.var 12))))]
theorem c_law : cSs (cS T_70 fuel ⟨["script", "pen", "empty", "part", "fed", "low", "owed", "share", "level", "assets", "book", "full", "size", "like", "none", "all_banks", "k", "some", "keep", "world", "cash", "due", "n"], defScope (top 85), [], [], none, []⟩) (defBody (top 85)).tail = some b_law := by kernel_rfl
def penP (i : Nat) : Pos := ([⟨273, 4, 273, 8⟩, ⟨273, 11, 273, 12⟩, ⟨273, 4, 273, 12⟩, ⟨274, 8, 274, 12⟩, ⟨274, 16, 274, 22⟩, ⟨275, 8, 275, 12⟩, ⟨275, 15, 275, 18⟩, ⟨275, 19, 275, 23⟩, ⟨275, 26, 275, 29⟩, ⟨275, 19, 275, 29⟩, ⟨275, 32, 275, 36⟩, ⟨275, 19, 275, 36⟩, ⟨275, 15, 275, 37⟩, ⟨275, 40, 275, 49⟩, ⟨275, 15, 275, 49⟩, ⟨275, 8, 275, 49⟩, ⟨274, 4, 275, 49⟩, ⟨276, 12, 276, 19⟩, ⟨276, 35, 276, 39⟩, ⟨276, 44, 276, 52⟩, ⟨276, 57, 276, 64⟩, ⟨276, 69, 276, 75⟩, ⟨276, 21, 276, 25⟩, ⟨276, 26, 276, 32⟩, ⟨276, 21, 276, 33⟩, ⟨276, 41, 276, 42⟩, ⟨276, 54, 276, 55⟩, ⟨276, 66, 276, 67⟩, ⟨276, 77, 276, 81⟩, ⟨276, 11, 276, 82⟩, ⟨276, 4, 276, 82⟩] : List Pos).getD i ⟨0, 0, 0, 0⟩
def PL : Prop := ∀ ns : List Int, ns.length ≤ 63 → ∃ ρ' S', evSs b_law (lawRho 23 1) (pen0 ns) = .ok (.ret (.im (.bl true))) ρ' S'
theorem facts (pl : PL) (D : He.SaysD fa fn K) (e : ex K = true) : ∃ fd : FuncData, (∀ (s : Shared) (v : Value), BindsTo s fd ⟨[v], []⟩ [("script", v)]) ∧ ∀ base : Heap, K.In base → base.Ns mainGlobals mg → FnOk Pr w K mg base (L2.CX Pr w) 76 (He.ga K "law") fd ["script"] (spLaw K 63) := by
  obtain ⟨fdP, FP⟩ := D.def_ 60 (d := dfn "_law_pen" (top 73)) rfl
  obtain ⟨fd, F⟩ := D.def_ 72 (d := dfn "law" (top 85)) rfl
  have b := FunD.bindsA (ps := ["script"]) F (fun _ _ _ _ _ _ us hl => match us, hl with | [_], _ => rfl)
  refine ⟨fd, fun s v => b s [v] rfl, fun base X N => ?_⟩
  have H : Hyp K mg base := ⟨X, N, D, e⟩
  exact law_X (stL := top 85) (stP := top 73) (k := 74) (p := penP) (s := spc) X N F FP (D.fact 59 (f := .glo "_law_pen") rfl) H.e1 (D.fact 72 (f := .free "list") rfl) (by kernel_rfl) (by kernel_rfl) (fun _ _ _ _ _ _ us hl => match us, hl with | [_], _ => rfl) (fun P => g_70 H) (show FnScope ["script", "pen", "empty", "part", "fed", "low", "owed", "share", "level", "assets", "book", "full", "size", "like", "none", "all_banks", "k", "some", "keep", "world", "cash", "due", "n"] ["script"] (defScope (top 85)) from ⟨rfl, rfl, rfl, by decide +kernel, rfl, by decide +kernel, by decide +kernel⟩) rfl rfl rfl (by decide +kernel) (by decide +kernel) (by decide +kernel) c_law pl
end

end PdL
set_option Elab.async false
set_option linter.all false
namespace Th
/-! ### sums -/
def sumR (n : Nat) (f : Nat → Rat) : Rat := match n with
  | 0 => 0
  | n + 1 => sumR n f + f n
theorem sumR_congr {n : Nat} {f g : Nat → Rat} (h : ∀ i, i < n → f i = g i) : sumR n f = sumR n g := by
  induction n with
  | zero => rfl
  | succ n ih => rw [sumR, sumR, ih (fun i hi => h i (by omega)), h n (by omega)]
theorem sumR_zero {n : Nat} {f : Nat → Rat} (h : ∀ i, i < n → f i = 0) : sumR n f = 0 := by
  induction n with
  | zero => rfl
  | succ n ih => rw [sumR, ih (fun i hi => h i (by omega)), h n (by omega)]; grind
theorem sumR_add {n : Nat} {f g : Nat → Rat} : sumR n (fun i => f i + g i) = sumR n f + sumR n g := by
  induction n with
  | zero => rw [sumR, sumR, sumR]; grind
  | succ n ih => rw [sumR, sumR, sumR, ih]; grind
theorem sumR_sub {n : Nat} {f g : Nat → Rat} : sumR n (fun i => f i - g i) = sumR n f - sumR n g := by
  induction n with
  | zero => rw [sumR, sumR, sumR]; grind
  | succ n ih => rw [sumR, sumR, sumR, ih]; grind
theorem sumR_mul {n : Nat} {f : Nat → Rat} (c : Rat) : sumR n (fun i => c * f i) = c * sumR n f := by
  induction n with
  | zero => rw [sumR, sumR]; grind
  | succ n ih => rw [sumR, sumR, ih]; grind
theorem sumR_mulr {n : Nat} {f : Nat → Rat} (c : Rat) : sumR n (fun i => f i * c) = sumR n f * c := by
  induction n with
  | zero => rw [sumR, sumR]; grind
  | succ n ih => rw [sumR, sumR, ih]; grind
theorem sumR_le {n : Nat} {f g : Nat → Rat} (h : ∀ i, i < n → f i ≤ g i) : sumR n f ≤ sumR n g := by
  induction n with
  | zero => rw [sumR, sumR]; grind
  | succ n ih =>
    rw [sumR, sumR]
    have a := ih (fun i hi => h i (by omega))
    have b := h n (by omega)
    grind
theorem sumR_nonneg {n : Nat} {f : Nat → Rat} (h : ∀ i, i < n → 0 ≤ f i) : 0 ≤ sumR n f := by
  have := sumR_le (n := n) (f := fun _ => 0) h
  rw [sumR_zero (fun _ _ => rfl)] at this
  exact this
theorem sumR_single {n : Nat} {f : Nat → Rat} {p : Nat} (hp : p < n) (h : ∀ i, i < n → i ≠ p → f i = 0) : sumR n f = f p := by
  induction n with
  | zero => omega
  | succ n ih =>
    rw [sumR]
    by_cases q : p = n
    · subst q
      rw [sumR_zero (fun i hi => h i (by omega) (by omega))]
      grind
    · rw [ih (by omega) (fun i hi => h i (by omega)), h n (by omega) (fun z => q z.symm)]
      grind
theorem sumR_comm {n m : Nat} {f : Nat → Nat → Rat} : sumR n (fun i => sumR m (fun j => f i j)) = sumR m (fun j => sumR n (fun i => f i j)) := by
  induction n with
  | zero => rw [sumR, sumR_zero]; intro i hi; rfl
  | succ n ih =>
    rw [sumR, ih, ← sumR_add]
    rfl
theorem sumR_eq_zero {n : Nat} {f : Nat → Rat} (h : ∀ i, i < n → 0 ≤ f i) (e : sumR n f = 0) : ∀ i, i < n → f i = 0 := by
  induction n with
  | zero => intro i hi; omega
  | succ n ih =>
    rw [sumR] at e
    have a := sumR_nonneg (fun i hi => h i (by omega) : ∀ i, i < n → 0 ≤ f i)
    have b := h n (by omega)
    intro i hi
    by_cases q : i = n
    · subst q; grind
    · exact ih (fun i hi => h i (by omega)) (by grind) i (by omega)

/-! ### rows -/
def ent (r : List Rat) (j : Nat) : Rat := r.getD j 0
def plusTimes (r : List Rat) (c : Rat) (o : List Rat) : List Rat := List.zipWith (fun a b => a + c * b) r o
theorem ent_plusTimes {r o : List Rat} {c : Rat} {j : Nat} (h : r.length = o.length) : ent (plusTimes r c o) j = ent r j + c * ent o j := by
  unfold ent plusTimes
  rw [List.getD_eq_getElem?_getD, List.getD_eq_getElem?_getD, List.getD_eq_getElem?_getD, List.getElem?_zipWith]
  by_cases q : j < r.length
  · rw [List.getElem?_eq_getElem q, List.getElem?_eq_getElem (h ▸ q)]
    rfl
  · rw [List.getElem?_eq_none (by omega), List.getElem?_eq_none (by omega)]
    simp
    grind
theorem len_plusTimes {r o : List Rat} {c : Rat} (h : r.length = o.length) : (plusTimes r c o).length = o.length := by
  unfold plusTimes
  rw [List.length_zipWith, h, Nat.min_self]
def headOf (r : List Rat) (p : Nat) : List Rat := r.map (fun a => a / ent r p)
theorem ent_headOf {r : List Rat} {p j : Nat} : ent (headOf r p) j = ent r j / ent r p := by
  have : ∀ c : Rat, (r.map (fun a => a / c)).getD j 0 = r.getD j 0 / c := fun c => by
    rw [List.getD_eq_getElem?_getD, List.getD_eq_getElem?_getD, List.getElem?_map]
    cases r[j]? with
    | none => show (0 : Rat) = 0 / _; grind
    | some a => rfl
  exact this _
theorem len_headOf {r : List Rat} {p : Nat} : (headOf r p).length = r.length := by unfold headOf; rw [List.length_map]
/-- a row (its right last) is satisfied -/
def sat (w : Nat) (x : Nat → Rat) (r : List Rat) : Prop := sumR w (fun j => ent r j * x j) = ent r w
theorem sat_plusTimes {w : Nat} {x : Nat → Rat} {r o : List Rat} {c : Rat} (h : r.length = o.length) (so : sat w x o) : sat w x (plusTimes r c o) ↔ sat w x r := by
  unfold sat at *
  have : sumR w (fun j => ent (plusTimes r c o) j * x j) = sumR w (fun j => ent r j * x j) + c * sumR w (fun j => ent o j * x j) := by
    rw [← sumR_mul, ← sumR_add]
    exact sumR_congr fun i _ => by rw [ent_plusTimes h]; grind
  rw [this, ent_plusTimes h, so]
  grind
theorem sat_headOf {w : Nat} {x : Nat → Rat} {r : List Rat} {p : Nat} (hp : ent r p ≠ 0) : sat w x (headOf r p) ↔ sat w x r := by
  unfold sat
  have : sumR w (fun j => ent (headOf r p) j * x j) = sumR w (fun j => ent r j * x j) * (1 / ent r p) := by
    rw [← sumR_mulr]
    exact sumR_congr fun i _ => by rw [ent_headOf]; grind
  rw [this, ent_headOf]
  constructor
  · intro h
    have e : sumR w (fun j => ent r j * x j) = (sumR w (fun j => ent r j * x j) * (1 / ent r p)) * ent r p := by grind
    rw [e, h]
    grind
  · intro h
    rw [h]
    grind
abbrev Led := List (Nat × List Rat) × List (List Rat)
def ledStep (p : Nat) (s : Led) : Led := match s.2.filter (fun r => ent r p != 0) with
  | [] => s
  | r0 :: more => (s.1.map (fun q => (q.1, plusTimes q.2 (-(ent q.2 p)) (headOf r0 p))) ++ [(p, headOf r0 p)], s.2.filter (fun r => ent r p == 0) ++ more.map (fun r => plusTimes r (-(ent r p)) (headOf r0 p)))
def ledTo (rows : List (List Rat)) : Nat → Led
  | 0 => ([], rows)
  | k + 1 => ledStep k (ledTo rows k)
/-- what stands behind k places -/
structure LedI (w k : Nat) (rows : List (List Rat)) (s : Led) : Prop where
  l1 : ∀ q ∈ s.1, q.2.length = w + 1
  l2 : ∀ r ∈ s.2, r.length = w + 1
  z : ∀ r ∈ s.2, ∀ j, j < k → ent r j = 0
  lt : ∀ q ∈ s.1, q.1 < k
  one : ∀ q ∈ s.1, ent q.2 q.1 = 1
  pw : s.1.Pairwise (fun a b => a.1 ≠ b.1)
  off : ∀ a ∈ s.1, ∀ b ∈ s.1, a.1 ≠ b.1 → ent b.2 a.1 = 0
  eq : ∀ x, (∀ r ∈ rows, sat w x r) ↔ (∀ q ∈ s.1, sat w x q.2) ∧ ∀ r ∈ s.2, sat w x r
theorem led_step {w k : Nat} {rows : List (List Rat)} {s : Led} (hk : k < w) (I : LedI w k rows s) : LedI w (k + 1) rows (ledStep k s) := by
  unfold ledStep
  cases e : s.2.filter (fun r => ent r k != 0) with
  | nil =>
    have hz : ∀ r ∈ s.2, ent r k = 0 := fun r hr => by
      rw [List.filter_eq_nil_iff] at e
      simpa using e r hr
    exact ⟨I.l1, I.l2, fun r hr j hj => by
      by_cases q : j = k
      · rw [q]; exact hz r hr
      · exact I.z r hr j (by omega), fun q hq => by have := I.lt q hq; omega, I.one, I.pw, I.off, I.eq⟩
  | cons r0 more =>
    have m0 : ∀ r, r ∈ r0 :: more ↔ r ∈ s.2 ∧ ent r k ≠ 0 := fun r => by
      rw [← e, List.mem_filter]
      simp
    have h0 := (m0 r0).mp (List.mem_cons_self ..)
    have hl : (headOf r0 k).length = w + 1 := by rw [len_headOf]; exact I.l2 _ h0.1
    have hh : ent (headOf r0 k) k = 1 := by rw [ent_headOf]; have := h0.2; grind
    have hz : ∀ j, j < k → ent (headOf r0 k) j = 0 := fun j hj => by rw [ent_headOf, I.z _ h0.1 j hj]; grind
    have ne : ∀ q ∈ s.1, q.1 ≠ k := fun q hq => by have := I.lt q hq; omega
    refine ⟨fun q hq => ?_, fun r hr => ?_, fun r hr j hj => ?_, fun q hq => ?_, fun q hq => ?_, ?_, fun a ha b hb hab => ?_, fun x => ?_⟩
    · rcases List.mem_append.mp hq with hq | hq
      · obtain ⟨q', h1, rfl⟩ := List.mem_map.mp hq
        dsimp only
        rw [len_plusTimes (by rw [I.l1 _ h1, hl]), hl]
      · rw [List.mem_singleton.mp hq]; exact hl
    · rcases List.mem_append.mp hr with hr | hr
      · exact I.l2 r (List.mem_filter.mp hr).1
      · obtain ⟨r', h1, rfl⟩ := List.mem_map.mp hr
        have := ((m0 r').mp (List.mem_cons_of_mem _ h1)).1
        rw [len_plusTimes (by rw [I.l2 _ this, hl]), hl]
    · rcases List.mem_append.mp hr with hr | hr
      · by_cases q : j = k
        · rw [q]; simpa using (List.mem_filter.mp hr).2
        · exact I.z r (List.mem_filter.mp hr).1 j (by omega)
      · obtain ⟨r', h1, rfl⟩ := List.mem_map.mp hr
        have h2 := ((m0 r').mp (List.mem_cons_of_mem _ h1)).1
        rw [ent_plusTimes (by rw [I.l2 _ h2, hl])]
        by_cases q : j = k
        · rw [q, hh]; grind
        · rw [I.z r' h2 j (by omega), hz j (by omega)]; grind
    · rcases List.mem_append.mp hq with hq | hq
      · obtain ⟨q', h1, rfl⟩ := List.mem_map.mp hq
        have := I.lt q' h1
        dsimp only
        omega
      · rw [List.mem_singleton.mp hq]; dsimp only; omega
    · rcases List.mem_append.mp hq with hq | hq
      · obtain ⟨q', h1, rfl⟩ := List.mem_map.mp hq
        dsimp only
        rw [ent_plusTimes (by rw [I.l1 _ h1, hl]), I.one _ h1, hz _ (I.lt _ h1)]; grind
      · rw [List.mem_singleton.mp hq]; exact hh
    · rw [List.pairwise_append]
      refine ⟨?_, List.pairwise_singleton .., fun a ha b hb => ?_⟩
      · rw [List.pairwise_map]
        exact I.pw
      · obtain ⟨q', h1, rfl⟩ := List.mem_map.mp ha
        rw [List.mem_singleton.mp hb]
        exact ne q' h1
    · rcases List.mem_append.mp ha with ha | ha
      · obtain ⟨a', a1, rfl⟩ := List.mem_map.mp ha
        rcases List.mem_append.mp hb with hb | hb
        · obtain ⟨b', b1, rfl⟩ := List.mem_map.mp hb
          dsimp only at hab ⊢
          rw [ent_plusTimes (by rw [I.l1 _ b1, hl]), I.off _ a1 _ b1 hab, hz _ (I.lt _ a1)]; grind
        · rw [List.mem_singleton.mp hb]
          exact hz _ (I.lt a' a1)
      · rw [List.mem_singleton.mp ha] at hab ⊢
        rcases List.mem_append.mp hb with hb | hb
        · obtain ⟨b', b1, rfl⟩ := List.mem_map.mp hb
          dsimp only
          rw [ent_plusTimes (by rw [I.l1 _ b1, hl]), hh]; grind
        · rw [List.mem_singleton.mp hb] at hab
          exact absurd rfl hab
    · rw [I.eq x]
      constructor
      · rintro ⟨h1, h2⟩
        have s0 : sat w x (headOf r0 k) := (sat_headOf h0.2).mpr (h2 _ h0.1)
        refine ⟨fun q hq => ?_, fun r hr => ?_⟩
        · rcases List.mem_append.mp hq with hq | hq
          · obtain ⟨q', q1, rfl⟩ := List.mem_map.mp hq
            exact (sat_plusTimes (by rw [I.l1 _ q1, hl]) s0).mpr (h1 _ q1)
          · rw [List.mem_singleton.mp hq]; exact s0
        · rcases List.mem_append.mp hr with hr | hr
          · exact h2 r (List.mem_filter.mp hr).1
          · obtain ⟨r', r1, rfl⟩ := List.mem_map.mp hr
            have r2 := ((m0 r').mp (List.mem_cons_of_mem _ r1)).1
            exact (sat_plusTimes (by rw [I.l2 _ r2, hl]) s0).mpr (h2 _ r2)
      · rintro ⟨h1, h2⟩
        have s0 : sat w x (headOf r0 k) := h1 (k, headOf r0 k) (List.mem_append_right _ (List.mem_singleton.mpr rfl))
        refine ⟨fun q hq => ?_, fun r hr => ?_⟩
        · exact (sat_plusTimes (by rw [I.l1 _ hq, hl]) s0).mp (h1 _ (List.mem_append_left _ (List.mem_map.mpr ⟨q, hq, rfl⟩)))
        · by_cases q : ent r k = 0
          · exact h2 r (List.mem_append_left _ (List.mem_filter.mpr ⟨hr, by simpa using q⟩))
          · rcases List.mem_cons.mp ((m0 r).mpr ⟨hr, q⟩) with e | e
            · rw [e]; exact (sat_headOf h0.2).mp s0
            · exact (sat_plusTimes (by rw [I.l2 _ hr, hl]) s0).mp (h2 _ (List.mem_append_right _ (List.mem_map.mpr ⟨r, e, rfl⟩)))
theorem led_to {w : Nat} {rows : List (List Rat)} (hl : ∀ r ∈ rows, r.length = w + 1) : ∀ {k : Nat}, k ≤ w → LedI w k rows (ledTo rows k)
  | 0, _ => ⟨fun _ h => (by cases h), hl, fun _ _ j hj => (by omega), fun _ h => (by cases h), fun _ h => (by cases h), List.Pairwise.nil, fun _ h => (by cases h), fun x => ⟨fun h => ⟨fun _ h => (by cases h), h⟩, fun h => h.2⟩⟩
  | k + 1, h => led_step (by omega) (led_to hl (by omega))
/-- the row by which rows come to rights, 0 where it is free -/
def outOf (w : Nat) (done : List (Nat × List Rat)) : List Rat := done.foldl (fun o q => o.set q.1 (ent q.2 w)) (List.replicate w 0)
def solved (rows : List (List Rat)) (w : Nat) : Option (List Rat) := if (ledTo rows w).2.any (fun r => ent r w != 0) then none else some (outOf w (ledTo rows w).1)
theorem out_len {w : Nat} : ∀ {done : List (Nat × List Rat)} {o : List Rat}, (done.foldl (fun o q => o.set q.1 (ent q.2 w)) o).length = o.length
  | [], _ => rfl
  | q :: done, o => by rw [List.foldl_cons, out_len, List.length_set]
theorem out_no {w j : Nat} : ∀ {done : List (Nat × List Rat)} {o : List Rat}, (∀ q ∈ done, q.1 ≠ j) → (done.foldl (fun o q => o.set q.1 (ent q.2 w)) o)[j]? = o[j]?
  | [], _, _ => rfl
  | q :: done, o, h => by
    rw [List.foldl_cons, out_no (fun q hq => h q (List.mem_cons_of_mem _ hq)), List.getElem?_set_ne (h q (List.mem_cons_self ..))]
theorem out_at {w : Nat} {a : Nat × List Rat} : ∀ {done : List (Nat × List Rat)} {o : List Rat}, a ∈ done → done.Pairwise (fun a b => a.1 ≠ b.1) → a.1 < o.length → (done.foldl (fun o q => o.set q.1 (ent q.2 w)) o)[a.1]? = some (ent a.2 w)
  | q :: done, o, ha, hp, hl => by
    rw [List.foldl_cons]
    rw [List.pairwise_cons] at hp
    rcases List.mem_cons.mp ha with e | e
    · rw [out_no (fun q' hq' z => hp.1 q' hq' (by rw [← e]; exact z.symm)), e, List.getElem?_set_self (by rw [← e]; exact hl)]
    · exact out_at e hp.2 (by rw [List.length_set]; exact hl)
theorem solved_some {rows : List (List Rat)} {w : Nat} {x : List Rat} (hl : ∀ r ∈ rows, r.length = w + 1) (e : solved rows w = some x) : x.length = w ∧ ∀ r ∈ rows, sat w (ent x) r := by
  have I := led_to hl (Nat.le_refl w)
  unfold solved at e
  split at e
  · cases e
  · rename_i hn
    cases e
    have hx : (outOf w (ledTo rows w).1).length = w := by unfold outOf; rw [out_len, List.length_replicate]
    refine ⟨hx, (I.eq _).mpr ⟨fun q hq => ?_, fun r hr => ?_⟩⟩
    · have hq1 := I.lt q hq
      have at_ : ent (outOf w (ledTo rows w).1) q.1 = ent q.2 w := by
        unfold ent outOf
        rw [List.getD_eq_getElem?_getD, out_at hq I.pw (by rw [List.length_replicate]; exact hq1)]
        rfl
      unfold sat
      rw [sumR_single hq1, I.one q hq, at_]
      · grind
      · intro i hi ne
        by_cases z : ∃ b ∈ (ledTo rows w).1, b.1 = i
        · obtain ⟨b, hb, rfl⟩ := z
          rw [I.off b hb q hq ne]; grind
        · have : ent (outOf w (ledTo rows w).1) i = 0 := by
            unfold ent outOf
            rw [List.getD_eq_getElem?_getD, out_no (fun b hb y => z ⟨b, hb, y⟩), List.getElem?_replicate]
            split <;> rfl
          rw [this]; grind
    · unfold sat
      rw [sumR_zero]
      · have : ¬ (ent r w != 0) = true := fun z => hn (List.any_eq_true.mpr ⟨r, hr, z⟩)
        simp at this
        exact this.symm
      · intro i hi
        rw [I.z r hr i hi]; grind
theorem solved_none {rows : List (List Rat)} {w : Nat} (hl : ∀ r ∈ rows, r.length = w + 1) (e : solved rows w = none) (x : Nat → Rat) : ¬ ∀ r ∈ rows, sat w x r := by
  intro h
  have I := led_to hl (Nat.le_refl w)
  unfold solved at e
  split at e
  · rename_i hn
    obtain ⟨r, hr, hz⟩ := List.any_eq_true.mp hn
    have s := ((I.eq x).mp h).2 r hr
    unfold sat at s
    rw [sumR_zero (fun i hi => by rw [I.z r hr i hi]; grind)] at s
    simp at hz
    exact hz s.symm
  · cases e
end Th
set_option Elab.async false
set_option linter.all false
namespace Th
/-! ### inequalities: one variable led out -/
structure Ineq where
  co : Nat → Rat
  rh : Rat
def Ineq.ok (m : Nat) (x : Nat → Rat) (q : Ineq) : Prop := sumR m (fun j => q.co j * x j) ≤ q.rh
def put (x : Nat → Rat) (m : Nat) (t : Rat) : Nat → Rat := fun j => if j = m then t else x j
theorem ok_put {m : Nat} {x : Nat → Rat} {t : Rat} {q : Ineq} : q.ok (m + 1) (put x m t) ↔ sumR m (fun j => q.co j * x j) + q.co m * t ≤ q.rh := by
  unfold Ineq.ok
  rw [sumR]
  have : sumR m (fun j => q.co j * put x m t j) = sumR m (fun j => q.co j * x j) := sumR_congr fun i hi => by unfold put; rw [if_neg (by omega)]
  rw [this]
  unfold put
  rw [if_pos rfl]
def mix (m : Nat) (q s : Ineq) : Ineq := ⟨fun j => q.co j * (-(s.co m)) + s.co j * q.co m, q.rh * (-(s.co m)) + s.rh * q.co m⟩
def elim (m : Nat) (S : List Ineq) : List Ineq := S.filter (fun q => q.co m == 0) ++ (S.filter (fun q => 0 < q.co m)).flatMap (fun q => (S.filter (fun s => s.co m < 0)).map (mix m q))
theorem between : ∀ (L U : List Rat), (∀ l ∈ L, ∀ u ∈ U, l ≤ u) → ∃ t, (∀ l ∈ L, l ≤ t) ∧ ∀ u ∈ U, t ≤ u
  | [], [], _ => ⟨0, by simp, by simp⟩
  | [], u :: U, h => by
    obtain ⟨t, _, h2⟩ := between [] U (by simp)
    refine ⟨if t ≤ u then t else u, by simp, fun v hv => ?_⟩
    rcases List.mem_cons.mp hv with e | e
    · subst e; split <;> grind
    · have := h2 v e; split <;> grind
  | l :: L, U, h => by
    obtain ⟨t, h1, h2⟩ := between L U (fun a ha u hu => h a (List.mem_cons_of_mem _ ha) u hu)
    refine ⟨if l ≤ t then t else l, fun a ha => ?_, fun u hu => ?_⟩
    · rcases List.mem_cons.mp ha with e | e
      · subst e; split <;> grind
      · have := h1 a e; split <;> grind
    · have := h2 u hu
      have := h l (List.mem_cons_self ..) u hu
      split <;> grind
theorem sum_mix {m : Nat} {x : Nat → Rat} {q s : Ineq} : sumR m (fun j => (mix m q s).co j * x j) = sumR m (fun j => q.co j * x j) * (-(s.co m)) + sumR m (fun j => s.co j * x j) * q.co m := by
  rw [← sumR_mulr, ← sumR_mulr, ← sumR_add]
  exact sumR_congr fun i _ => by unfold mix; dsimp only; grind
theorem le_mulc {a b c : Rat} (h : a ≤ b) (hc : 0 ≤ c) : a * c ≤ b * c := Rat.mul_le_mul_of_nonneg_right h hc
theorem div_le' {a b c : Rat} (hc : 0 < c) : a / c ≤ b ↔ a ≤ b * c := by
  rw [← Rat.not_lt, Rat.lt_div_iff hc, Rat.not_lt]
theorem le_div' {a b c : Rat} (hc : 0 < c) : b ≤ a / c ↔ b * c ≤ a := by
  rw [← Rat.not_lt, Rat.div_lt_iff hc, Rat.not_lt]
theorem elim_ok {m : Nat} {S : List Ineq} {x : Nat → Rat} : (∀ q ∈ elim m S, q.ok m x) ↔ ∃ t, ∀ q ∈ S, q.ok (m + 1) (put x m t) := by
  constructor
  · intro h
    have hz : ∀ q ∈ S, q.co m = 0 → q.ok m x := fun q hq e => h q (List.mem_append_left _ (List.mem_filter.mpr ⟨hq, by simpa using e⟩))
    have hm : ∀ q ∈ S, ∀ s ∈ S, 0 < q.co m → s.co m < 0 → (mix m q s).ok m x := fun q hq s hs a b =>
      h _ (List.mem_append_right _ (List.mem_flatMap.mpr ⟨q, List.mem_filter.mpr ⟨hq, by simpa using a⟩, List.mem_map.mpr ⟨s, List.mem_filter.mpr ⟨hs, by simpa using b⟩, rfl⟩⟩))
    obtain ⟨t, h1, h2⟩ := between ((S.filter (fun s => s.co m < 0)).map fun s => (sumR m (fun j => s.co j * x j) - s.rh) / (-(s.co m))) ((S.filter (fun q => 0 < q.co m)).map fun q => (q.rh - sumR m (fun j => q.co j * x j)) / q.co m) (fun l hl u hu => by
      obtain ⟨s, hs, rfl⟩ := List.mem_map.mp hl
      obtain ⟨q, hq, rfl⟩ := List.mem_map.mp hu
      have hs := List.mem_filter.mp hs
      have hq := List.mem_filter.mp hq
      have sn : s.co m < 0 := by simpa using hs.2
      have qn : 0 < q.co m := by simpa using hq.2
      have z := hm q hq.1 s hs.1 qn sn
      unfold Ineq.ok at z
      rw [sum_mix] at z
      unfold mix at z
      dsimp only at z
      rw [div_le' (by grind), ← Rat.mul_comm, Rat.div_def, ← Rat.mul_assoc, ← Rat.div_def, le_div' qn]
      grind)
    refine ⟨t, fun q hq => ok_put.mpr ?_⟩
    by_cases e : q.co m = 0
    · have := hz q hq e
      unfold Ineq.ok at this
      rw [e]
      grind
    · by_cases g : 0 < q.co m
      · have := h2 _ (List.mem_map.mpr ⟨q, List.mem_filter.mpr ⟨hq, by simpa using g⟩, rfl⟩)
        rw [le_div' g] at this
        grind
      · have g : q.co m < 0 := by grind
        have := h1 _ (List.mem_map.mpr ⟨q, List.mem_filter.mpr ⟨hq, by simpa using g⟩, rfl⟩)
        rw [div_le' (by grind)] at this
        grind
  · rintro ⟨t, h⟩ q hq
    rcases List.mem_append.mp hq with hq | hq
    · have := ok_put.mp (h q (List.mem_filter.mp hq).1)
      have e : q.co m = 0 := by simpa using (List.mem_filter.mp hq).2
      rw [e] at this
      unfold Ineq.ok
      grind
    · obtain ⟨a, ha, hq⟩ := List.mem_flatMap.mp hq
      obtain ⟨s, hs, rfl⟩ := List.mem_map.mp hq
      have hs := List.mem_filter.mp hs
      have ha := List.mem_filter.mp ha
      have sn : s.co m < 0 := by simpa using hs.2
      have qn : 0 < a.co m := by simpa using ha.2
      have h1 := ok_put.mp (h a ha.1)
      have h2 := ok_put.mp (h s hs.1)
      unfold Ineq.ok
      rw [sum_mix]
      unfold mix
      dsimp only
      have k1 := le_mulc h1 (show 0 ≤ -(s.co m) by grind)
      have k2 := le_mulc h2 (show 0 ≤ a.co m by grind)
      grind
/-- all variables but the first led out -/
theorem elim_all : ∀ (m : Nat) (S : List Ineq), ∃ S1 : List Ineq, ∀ t, (∀ q ∈ S1, q.co 0 * t ≤ q.rh) ↔ ∃ x : Nat → Rat, x 0 = t ∧ ∀ q ∈ S, q.ok (m + 1) x
  | 0, S => ⟨S, fun t => ⟨fun h => ⟨fun _ => t, rfl, fun q hq => by
      unfold Ineq.ok
      rw [sumR, sumR]
      have := h q hq
      grind⟩, fun ⟨x, e, h⟩ q hq => by
      have := h q hq
      unfold Ineq.ok at this
      rw [sumR, sumR, e] at this
      grind⟩⟩
  | m + 1, S => by
    obtain ⟨S1, h1⟩ := elim_all m (elim (m + 1) S)
    refine ⟨S1, fun t => (h1 t).trans ⟨fun ⟨x, e, h⟩ => ?_, fun ⟨x, e, h⟩ => ⟨x, e, ?_⟩⟩⟩
    · obtain ⟨u, hu⟩ := elim_ok.mp h
      exact ⟨put x (m + 1) u, by unfold put; rw [if_neg (by omega), e], hu⟩
    · refine elim_ok.mpr ⟨x (m + 1), ?_⟩
      have : put x (m + 1) (x (m + 1)) = x := by
        funext j
        unfold put
        split
        · rename_i q; rw [q]
        · rfl
      rw [this]
      exact h
theorem has_min : ∀ (L : List Rat), L ≠ [] → ∃ u ∈ L, ∀ v ∈ L, u ≤ v
  | [u], _ => ⟨u, List.mem_singleton.mpr rfl, fun v hv => by rw [List.mem_singleton.mp hv]; grind⟩
  | u :: w :: L, _ => by
    obtain ⟨t, h1, h2⟩ := has_min (w :: L) (by simp)
    by_cases q : u ≤ t
    · exact ⟨u, List.mem_cons_self .., fun v hv => by
        rcases List.mem_cons.mp hv with e | e
        · rw [e]; grind
        · have := h2 v e; grind⟩
    · exact ⟨t, List.mem_cons_of_mem _ h1, fun v hv => by
        rcases List.mem_cons.mp hv with e | e
        · rw [e]; grind
        · exact h2 v e⟩
/-- what is bounded above has a greatest -/
theorem attained {m : Nat} {S : List Ineq} {B : Rat} {x0 : Nat → Rat} (h0 : ∀ q ∈ S, q.ok (m + 1) x0) (hB : ∀ x, (∀ q ∈ S, q.ok (m + 1) x) → x 0 ≤ B) : ∃ x, (∀ q ∈ S, q.ok (m + 1) x) ∧ ∀ y, (∀ q ∈ S, q.ok (m + 1) y) → y 0 ≤ x 0 := by
  obtain ⟨S1, h⟩ := elim_all m S
  have hB' : ∀ t, (∀ q ∈ S1, q.co 0 * t ≤ q.rh) → t ≤ B := fun t ht => by
    obtain ⟨x, e, hx⟩ := (h t).mp ht
    rw [← e]
    exact hB x hx
  have f0 := (h (x0 0)).mpr ⟨x0, rfl, h0⟩
  have ne : (S1.filter (fun q => 0 < q.co 0)).map (fun q => q.rh / q.co 0) ≠ [] := by
    intro e
    have e := List.map_eq_nil_iff.mp e
    rw [List.filter_eq_nil_iff] at e
    have nn : ∀ q ∈ S1, q.co 0 ≤ 0 := fun q hq => by have := e q hq; simp at this; exact Rat.not_lt.mp this
    have := hB' ((if x0 0 ≤ B then B else x0 0) + 1) fun q hq => by
      have a := nn q hq
      have b := f0 q hq
      have c : ((if x0 0 ≤ B then B else x0 0) + 1 - x0 0) * (-(q.co 0)) ≥ 0 := Rat.mul_nonneg (by split <;> grind) (by grind)
      grind
    split at this <;> grind
  obtain ⟨u, hu, hm⟩ := has_min _ ne
  obtain ⟨q0, hq0, rfl⟩ := List.mem_map.mp hu
  have hq0 := List.mem_filter.mp hq0
  have p0 : 0 < q0.co 0 := by simpa using hq0.2
  have ge : ∀ t, (∀ q ∈ S1, q.co 0 * t ≤ q.rh) → t ≤ q0.rh / q0.co 0 := fun t ht => by
    rw [le_div' p0]
    have := ht q0 hq0.1
    grind
  have fu : ∀ q ∈ S1, q.co 0 * (q0.rh / q0.co 0) ≤ q.rh := fun q hq => by
    by_cases g : 0 < q.co 0
    · have := hm _ (List.mem_map.mpr ⟨q, List.mem_filter.mpr ⟨hq, by simpa using g⟩, rfl⟩)
      rw [le_div' g] at this
      grind
    · have a := f0 q hq
      have b := ge _ f0
      have c : (q0.rh / q0.co 0 - x0 0) * (-(q.co 0)) ≥ 0 := Rat.mul_nonneg (by grind) (by grind)
      grind
  obtain ⟨x, e, hx⟩ := (h _).mp fu
  exact ⟨x, hx, fun y hy => by rw [e]; exact ge _ ((h _).mpr ⟨y, rfl, hy⟩)⟩
/-! ### shapes of inequalities -/
def Aff (m : Nat) (f : (Nat → Rat) → Rat) : Prop := ∃ (co : Nat → Rat) (k : Rat), ∀ x, f x = sumR m (fun j => co j * x j) + k
def Poly (m : Nat) (Φ : (Nat → Rat) → Prop) : Prop := ∃ S : List Ineq, ∀ x, Φ x ↔ ∀ q ∈ S, q.ok m x
theorem aff_const {m : Nat} (k : Rat) : Aff m (fun _ => k) := ⟨fun _ => 0, k, fun x => by rw [sumR_zero (fun i _ => by grind)]; grind⟩
theorem aff_var {m i : Nat} (h : i < m) : Aff m (fun x => x i) := ⟨fun j => if j = i then 1 else 0, 0, fun x => by
  rw [sumR_single h (fun j _ ne => by dsimp only; rw [if_neg ne]; grind)]; dsimp only; rw [if_pos rfl]; grind⟩
theorem aff_add {m : Nat} {f g : (Nat → Rat) → Rat} (hf : Aff m f) (hg : Aff m g) : Aff m (fun x => f x + g x) := by
  obtain ⟨c1, k1, h1⟩ := hf
  obtain ⟨c2, k2, h2⟩ := hg
  refine ⟨fun j => c1 j + c2 j, k1 + k2, fun x => ?_⟩
  dsimp only
  rw [h1, h2]
  have : sumR m (fun j => (c1 j + c2 j) * x j) = sumR m (fun j => c1 j * x j) + sumR m (fun j => c2 j * x j) := by
    rw [← sumR_add]
    exact sumR_congr fun i _ => by grind
  rw [this]
  grind
theorem aff_mul {m : Nat} {f : (Nat → Rat) → Rat} (c : Rat) (hf : Aff m f) : Aff m (fun x => f x * c) := by
  obtain ⟨c1, k1, h1⟩ := hf
  refine ⟨fun j => c1 j * c, k1 * c, fun x => ?_⟩
  dsimp only
  rw [h1]
  have : sumR m (fun j => (c1 j * c) * x j) = sumR m (fun j => c1 j * x j) * c := by
    rw [← sumR_mulr]
    exact sumR_congr fun i _ => by grind
  rw [this]
  grind
theorem aff_sum {m n : Nat} {f : Nat → (Nat → Rat) → Rat} (h : ∀ i, i < n → Aff m (f i)) : Aff m (fun x => sumR n (fun i => f i x)) := by
  induction n with
  | zero => exact aff_const 0
  | succ n ih => exact aff_add (ih fun i hi => h i (by omega)) (h n (by omega))
theorem poly_le {m : Nat} {f g : (Nat → Rat) → Rat} (hf : Aff m f) (hg : Aff m g) : Poly m (fun x => f x ≤ g x) := by
  obtain ⟨c1, k1, h1⟩ := hf
  obtain ⟨c2, k2, h2⟩ := hg
  refine ⟨[⟨fun j => c1 j - c2 j, k2 - k1⟩], fun x => ?_⟩
  dsimp only
  rw [h1, h2]
  have : sumR m (fun j => (c1 j - c2 j) * x j) = sumR m (fun j => c1 j * x j) - sumR m (fun j => c2 j * x j) := by
    rw [← sumR_sub]
    exact sumR_congr fun i _ => by grind
  constructor
  · intro h q hq
    rw [List.mem_singleton.mp hq]
    unfold Ineq.ok
    dsimp only
    rw [this]
    grind
  · intro h
    have := h _ (List.mem_singleton.mpr rfl)
    unfold Ineq.ok at this
    dsimp only at this
    grind
theorem poly_and {m : Nat} {Φ Ψ : (Nat → Rat) → Prop} (h1 : Poly m Φ) (h2 : Poly m Ψ) : Poly m (fun x => Φ x ∧ Ψ x) := by
  obtain ⟨S1, h1⟩ := h1
  obtain ⟨S2, h2⟩ := h2
  refine ⟨S1 ++ S2, fun x => ?_⟩
  dsimp only
  rw [h1, h2]
  exact ⟨fun h q hq => (List.mem_append.mp hq).elim (h.1 q) (h.2 q), fun h => ⟨fun q hq => h q (List.mem_append_left _ hq), fun q hq => h q (List.mem_append_right _ hq)⟩⟩
theorem poly_all {m n : Nat} {Φ : Nat → (Nat → Rat) → Prop} (h : ∀ i, i < n → Poly m (Φ i)) : Poly m (fun x => ∀ i, i < n → Φ i x) := by
  induction n with
  | zero => exact ⟨[], fun x => ⟨fun _ _ h => (by cases h), fun _ i hi => (by omega)⟩⟩
  | succ n ih =>
    obtain ⟨S, hS⟩ := poly_and (ih fun i hi => h i (by omega)) (h n (by omega))
    refine ⟨S, fun x => Iff.trans ⟨fun a => ⟨fun i hi => a i (by omega), a n (by omega)⟩, fun a i hi => ?_⟩ (hS x)⟩
    by_cases q : i = n
    · rw [q]; exact a.2
    · exact a.1 i (by omega)
theorem poly_true {m : Nat} : Poly m (fun _ => True) := ⟨[], fun x => ⟨fun _ _ h => (by cases h), fun _ => trivial⟩⟩
/-- finitely many shapes: a greatest sum -/
theorem greatest_sum {n : Nat} {Φ : (Nat → Rat) → Prop} (hp : Poly n Φ) {B : Rat} {x0 : Nat → Rat} (h0 : Φ x0) (hB : ∀ x, Φ x → sumR n x ≤ B) : ∃ x, Φ x ∧ ∀ y, Φ y → sumR n y ≤ sumR n x := by
  obtain ⟨S, hS⟩ := hp
  let up (q : Ineq) : Ineq := ⟨fun j => match j with | 0 => 0 | j + 1 => q.co j, q.rh⟩
  have key : ∀ (f : Nat → Rat) (k : Nat), sumR (k + 1) f = f 0 + sumR k (fun j => f (j + 1)) := fun f k => by
    induction k with
    | zero => rw [sumR, sumR, sumR]; grind
    | succ k ih => rw [sumR, ih]; conv => rhs; rw [sumR]
                   grind
  have upk : ∀ (q : Ineq) (x : Nat → Rat), (up q).ok (n + 1) x ↔ q.ok n (fun j => x (j + 1)) := fun q x => by
    unfold Ineq.ok
    rw [key]
    show (0 : Rat) * x 0 + sumR n (fun j => q.co j * x (j + 1)) ≤ q.rh ↔ _
    constructor <;> intro h <;> grind
  let ob : Ineq := ⟨fun j => match j with | 0 => 1 | _ + 1 => -1, 0⟩
  have obk : ∀ x : Nat → Rat, ob.ok (n + 1) x ↔ x 0 ≤ sumR n (fun j => x (j + 1)) := fun x => by
    unfold Ineq.ok
    rw [key]
    have : sumR n (fun j => (-1 : Rat) * x (j + 1)) = -1 * sumR n (fun j => x (j + 1)) := sumR_mul _
    show (1 : Rat) * x 0 + sumR n (fun j => (-1 : Rat) * x (j + 1)) ≤ 0 ↔ _
    rw [this]
    constructor <;> intro h <;> grind
  have all : ∀ x, (∀ q ∈ ob :: S.map up, q.ok (n + 1) x) ↔ x 0 ≤ sumR n (fun j => x (j + 1)) ∧ Φ (fun j => x (j + 1)) := fun x => by
    rw [hS]
    constructor
    · intro h
      exact ⟨(obk x).mp (h _ (List.mem_cons_self ..)), fun q hq => (upk q x).mp (h _ (List.mem_cons_of_mem _ (List.mem_map.mpr ⟨q, hq, rfl⟩)))⟩
    · rintro ⟨h1, h2⟩ q hq
      rcases List.mem_cons.mp hq with e | e
      · rw [e]; exact (obk x).mpr h1
      · obtain ⟨q', hq', rfl⟩ := List.mem_map.mp e
        exact (upk q' x).mpr (h2 q' hq')
  let mk (t : Rat) (y : Nat → Rat) : Nat → Rat := fun j => match j with | 0 => t | j + 1 => y j
  obtain ⟨x, hx, hm⟩ := attained (m := n) (S := ob :: S.map up) (B := B) (x0 := mk (sumR n x0) x0) ((all _).mpr ⟨by show sumR n x0 ≤ sumR n x0; grind, h0⟩) (fun x hx => by
    have := (all x).mp hx
    have := hB _ this.2
    grind)
  have hx := (all x).mp hx
  refine ⟨fun j => x (j + 1), hx.2, fun y hy => ?_⟩
  have := hm (mk (sumR n y) y) ((all _).mpr ⟨by show sumR n y ≤ sumR n y; grind, hy⟩)
  have : sumR n y ≤ x 0 := this
  grind
/-- .. of one of some shapes -/
theorem greatest_of_some {n : Nat} {Φ : Nat → (Nat → Rat) → Prop} {B : Rat} : ∀ (M : Nat), (∀ m, m < M → Poly n (Φ m)) → (∀ m x, m < M → Φ m x → sumR n x ≤ B) → (∃ m x, m < M ∧ Φ m x) → ∃ m x, m < M ∧ Φ m x ∧ ∀ m' y, m' < M → Φ m' y → sumR n y ≤ sumR n x
  | 0, _, _, ⟨m, _, h, _⟩ => by omega
  | M + 1, hp, hB, hne => by
    by_cases q1 : ∃ m x, m < M ∧ Φ m x
    · obtain ⟨m, x, a, b, c⟩ := greatest_of_some M (fun m hm => hp m (by omega)) (fun m x hm => hB m x (by omega)) q1
      by_cases q2 : ∃ x, Φ M x
      · obtain ⟨x0, h0⟩ := q2
        obtain ⟨y, y1, y2⟩ := greatest_sum (hp M (by omega)) h0 (fun x hx => hB M x (by omega) hx)
        by_cases g : sumR n x ≤ sumR n y
        · refine ⟨M, y, by omega, y1, fun m' z hm' hz => ?_⟩
          by_cases e : m' = M
          · subst e; exact y2 z hz
          · have := c m' z (by omega) hz; grind
        · refine ⟨m, x, by omega, b, fun m' z hm' hz => ?_⟩
          by_cases e : m' = M
          · subst e; have := y2 z hz; grind
          · exact c m' z (by omega) hz
      · refine ⟨m, x, by omega, b, fun m' z hm' hz => ?_⟩
        by_cases e : m' = M
        · subst e; exact absurd ⟨z, hz⟩ q2
        · exact c m' z (by omega) hz
    · obtain ⟨m, x0, hm, h0⟩ := hne
      have e : m = M := by
        by_cases e : m = M
        · exact e
        · exact absurd ⟨m, x0, by omega, h0⟩ q1
      subst e
      obtain ⟨y, y1, y2⟩ := greatest_sum (hp m hm) h0 (fun x hx => hB m x hm hx)
      refine ⟨m, y, hm, y1, fun m' z hm' hz => ?_⟩
      by_cases e : m' = m
      · subst e; exact y2 z hz
      · exact absurd ⟨m', z, by omega, hz⟩ q1
end Th
set_option Elab.async false
set_option linter.all false
namespace Th
/-! ### clearing maps: banks by two words each -/
structure Bk where
  n : Nat
  c : Nat → Rat
  p : Nat → Rat
  P : Nat → Nat → Rat
  H : Nat → Nat → Rat
  k : Nat → Rat
structure Bk.Ok (B : Bk) : Prop where
  c0 : ∀ i, i < B.n → 0 ≤ B.c i
  p0 : ∀ i, i < B.n → 0 ≤ B.p i
  P0 : ∀ j, j < B.n → ∀ i, i < B.n → 0 ≤ B.P j i
  P1 : ∀ j, j < B.n → sumR B.n (B.P j) ≤ 1
  H0 : ∀ j, j < B.n → ∀ i, i < B.n → 0 ≤ B.H j i
  H1 : ∀ j, j < B.n → sumR B.n (B.H j) < 1
  k0 : ∀ i, i < B.n → 0 ≤ B.k i
  k1 : ∀ i, i < B.n → B.k i ≤ 1
/-- payment and worth by assets: b, the bank is one of those that fail -/
def pay (b : Bool) (k p a : Rat) : Rat := if b then (if a ≤ p then k * a else k * p) else p
def wor (b : Bool) (p a : Rat) : Rat := if b then 0 else if a ≤ p then 0 else a - p
def sp (b r : Bool) (k : Rat) : Rat := if b && !r then k else 0
def sw (b r : Bool) : Rat := if !b && r then 1 else 0
def cp (b r : Bool) (k p : Rat) : Rat := if b then (if r then k * p else 0) else p
def cw (b r : Bool) (p : Rat) : Rat := if !b && r then -p else 0
def fit (r : Bool) (p a : Rat) : Prop := if r then p ≤ a else a ≤ p
theorem pay_fit {b r : Bool} {k p a : Rat} (h : fit r p a) : pay b k p a = sp b r k * a + cp b r k p := by
  unfold fit at h
  unfold pay sp cp
  cases b <;> cases r <;> simp at h ⊢
  · grind
  · grind
  · grind
  · by_cases q : a ≤ p
    · have : a = p := by grind
      rw [this]; simp; grind
    · simp [q]; grind
theorem wor_fit {b r : Bool} {p a : Rat} (h : fit r p a) : wor b p a = sw b r * a + cw b r p := by
  unfold fit at h
  unfold wor sw cw
  cases b <;> cases r <;> simp at h ⊢ <;> grind
theorem mulc_le {a b c : Rat} (h : a ≤ b) (hc : 0 ≤ c) : c * a ≤ c * b := Rat.mul_le_mul_of_nonneg_left h hc
theorem pay_mono {b : Bool} {k p a a' : Rat} (hk : 0 ≤ k) (h : a ≤ a') : pay b k p a ≤ pay b k p a' := by
  unfold pay
  cases b <;> simp
  split
  · split
    · exact mulc_le h hk
    · exact mulc_le (by assumption) hk
  · split
    · exact mulc_le (by grind) hk
    · exact Rat.le_refl
theorem wor_mono {b : Bool} {p a a' : Rat} (h : a ≤ a') : wor b p a ≤ wor b p a' := by
  unfold wor
  cases b <;> simp
  split <;> split <;> grind
theorem pay_nonneg {b : Bool} {k p a : Rat} (hk : 0 ≤ k) (hp : 0 ≤ p) (h : 0 ≤ a) : 0 ≤ pay b k p a := by
  unfold pay
  cases b <;> simp
  · exact hp
  · split
    · exact Rat.mul_nonneg hk h
    · exact Rat.mul_nonneg hk hp
theorem pay_le {b : Bool} {k p a : Rat} (hk : 0 ≤ k) (hk1 : k ≤ 1) (hp : 0 ≤ p) : pay b k p a ≤ p := by
  unfold pay
  have kp : k * p ≤ p := by have := le_mulc hk1 hp; grind
  cases b <;> simp
  split
  · have := mulc_le (by assumption : a ≤ p) hk
    grind
  · exact kp
theorem wor_nonneg {b : Bool} {p a : Rat} : 0 ≤ wor b p a := by
  unfold wor
  cases b <;> simp
  split <;> grind
theorem wor_le {b : Bool} {p a x : Rat} (hp : 0 ≤ p) (h : a ≤ x) (hx : 0 ≤ x) : wor b p a ≤ x := by
  unfold wor
  cases b <;> simp
  · split <;> grind
  · exact hx
section
variable (B : Bk) (b : Nat → Bool)
def F (a : Nat → Rat) (i : Nat) : Rat := B.c i + sumR B.n (fun j => pay (b j) (B.k j) (B.p j) (a j) * B.P j i + wor (b j) (B.p j) (a j) * B.H j i)
def Mx (r : Nat → Bool) (i j : Nat) : Rat := sp (b j) (r j) (B.k j) * B.P j i + sw (b j) (r j) * B.H j i
def Cx (r : Nat → Bool) (i : Nat) : Rat := B.c i + sumR B.n (fun j => cp (b j) (r j) (B.k j) (B.p j) * B.P j i + cw (b j) (r j) (B.p j) * B.H j i)
end
variable {B : Bk} {b : Nat → Bool} {a a' : Nat → Rat}
theorem F_mono (ok : B.Ok) (h : ∀ i, i < B.n → a i ≤ a' i) {i : Nat} (hi : i < B.n) : F B b a i ≤ F B b a' i := by
  unfold F
  have := sumR_le (n := B.n) (f := fun j => pay (b j) (B.k j) (B.p j) (a j) * B.P j i + wor (b j) (B.p j) (a j) * B.H j i) (g := fun j => pay (b j) (B.k j) (B.p j) (a' j) * B.P j i + wor (b j) (B.p j) (a' j) * B.H j i) (fun j hj => by
    have h1 := le_mulc (pay_mono (b := b j) (p := B.p j) (ok.k0 j hj) (h j hj)) (ok.P0 j hj i hi)
    have h2 := le_mulc (wor_mono (b := b j) (p := B.p j) (h j hj)) (ok.H0 j hj i hi)
    grind)
  grind
theorem F_nonneg (ok : B.Ok) (h : ∀ i, i < B.n → 0 ≤ a i) {i : Nat} (hi : i < B.n) : 0 ≤ F B b a i := by
  unfold F
  have := sumR_nonneg (n := B.n) (f := fun j => pay (b j) (B.k j) (B.p j) (a j) * B.P j i + wor (b j) (B.p j) (a j) * B.H j i) (fun j hj => by
    have h1 := Rat.mul_nonneg (pay_nonneg (b := b j) (ok.k0 j hj) (ok.p0 j hj) (h j hj)) (ok.P0 j hj i hi)
    have h2 := Rat.mul_nonneg (wor_nonneg (b := b j) (p := B.p j) (a := a j)) (ok.H0 j hj i hi)
    grind)
  have := ok.c0 i hi
  grind
theorem F_congr (h : ∀ i, i < B.n → a i = a' i) {i : Nat} : F B b a i = F B b a' i := by
  unfold F
  rw [sumR_congr (g := fun j => pay (b j) (B.k j) (B.p j) (a' j) * B.P j i + wor (b j) (B.p j) (a' j) * B.H j i) (fun j hj => by rw [h j hj])]
theorem F_fit {r : Nat → Bool} (h : ∀ j, j < B.n → fit (r j) (B.p j) (a j)) {i : Nat} : F B b a i = Cx B b r i + sumR B.n (fun j => Mx B b r i j * a j) := by
  unfold F Cx
  rw [Rat.add_assoc, ← sumR_add]
  congr 1
  refine sumR_congr fun j hj => ?_
  rw [pay_fit (h j hj), wor_fit (h j hj)]
  unfold Mx
  grind
def Post (B : Bk) (b : Nat → Bool) (a : Nat → Rat) : Prop := ∀ i, i < B.n → a i ≤ F B b a i
def Pre (B : Bk) (b : Nat → Bool) (a : Nat → Rat) : Prop := ∀ i, i < B.n → 0 ≤ a i ∧ F B b a i ≤ a i
/-! ### bounds -/
def Dx (B : Bk) (i : Nat) : Rat := B.c i + sumR B.n (fun j => B.p j * B.P j i)
theorem Dx_nonneg (ok : B.Ok) {i : Nat} (hi : i < B.n) : 0 ≤ Dx B i := by
  unfold Dx
  have := sumR_nonneg (n := B.n) (f := fun j => B.p j * B.P j i) (fun j hj => Rat.mul_nonneg (ok.p0 j hj) (ok.P0 j hj i hi))
  have := ok.c0 i hi
  grind
theorem F_le (ok : B.Ok) {i : Nat} (hi : i < B.n) : F B b a i ≤ Dx B i + sumR B.n (fun j => wor (b j) (B.p j) (a j) * B.H j i) := by
  unfold F Dx
  rw [Rat.add_assoc, ← sumR_add]
  have := sumR_le (n := B.n) (f := fun j => pay (b j) (B.k j) (B.p j) (a j) * B.P j i + wor (b j) (B.p j) (a j) * B.H j i) (g := fun j => B.p j * B.P j i + wor (b j) (B.p j) (a j) * B.H j i) (fun j hj => by
    have h1 := le_mulc (pay_le (b := b j) (a := a j) (ok.k0 j hj) (ok.k1 j hj) (ok.p0 j hj)) (ok.P0 j hj i hi)
    grind)
  grind
def Bd (B : Bk) : Rat := sumR B.n (Dx B) + sumR B.n (fun j => sumR B.n (Dx B) / (1 - sumR B.n (B.H j)))
theorem post_le (ok : B.Ok) (h : Post B b a) : sumR B.n a ≤ Bd B := by
  let W : Nat → Rat := fun j => wor (b j) (B.p j) (a j)
  have W0 : ∀ j, j < B.n → 0 ≤ W j := fun j _ => wor_nonneg
  have S0 : ∀ i, i < B.n → 0 ≤ sumR B.n (fun j => W j * B.H j i) := fun i hi => sumR_nonneg fun j hj => Rat.mul_nonneg (W0 j hj) (ok.H0 j hj i hi)
  have le : ∀ i, i < B.n → a i ≤ Dx B i + sumR B.n (fun j => W j * B.H j i) := fun i hi => Rat.le_trans (h i hi) (F_le ok hi)
  have Wle : ∀ i, i < B.n → W i ≤ Dx B i + sumR B.n (fun j => W j * B.H j i) := fun i hi => wor_le (ok.p0 i hi) (le i hi) (by have := S0 i hi; have := Dx_nonneg ok hi; grind)
  have sw_ : sumR B.n (fun i => sumR B.n (fun j => W j * B.H j i)) = sumR B.n (fun j => W j * sumR B.n (B.H j)) := by
    rw [sumR_comm]
    exact sumR_congr fun j _ => sumR_mul _
  have s1 := sumR_le Wle
  rw [sumR_add, sw_] at s1
  have s2 := sumR_le le
  rw [sumR_add, sw_] at s2
  have t0 : ∀ j, j < B.n → 0 ≤ W j * (1 - sumR B.n (B.H j)) := fun j hj => Rat.mul_nonneg (W0 j hj) (by have := ok.H1 j hj; grind)
  have s3 : sumR B.n (fun j => W j * (1 - sumR B.n (B.H j))) ≤ sumR B.n (Dx B) := by
    have : sumR B.n (fun j => W j * (1 - sumR B.n (B.H j))) = sumR B.n W - sumR B.n (fun j => W j * sumR B.n (B.H j)) := by
      rw [← sumR_sub]
      exact sumR_congr fun j _ => by grind
    rw [this]
    grind
  have one : ∀ (n : Nat) (f : Nat → Rat) (j : Nat), (∀ i, i < n → 0 ≤ f i) → j < n → f j ≤ sumR n f := fun n => by
    induction n with
    | zero => intro f j _ hj; omega
    | succ n ih =>
      intro f j hf hj
      rw [sumR]
      by_cases q : j = n
      · subst q
        have := sumR_nonneg (n := j) (f := f) (fun i hi => hf i (by omega))
        grind
      · have := ih f j (fun i hi => hf i (by omega)) (by omega)
        have := hf n (by omega)
        grind
  have Wb : ∀ j, j < B.n → W j * sumR B.n (B.H j) ≤ sumR B.n (Dx B) / (1 - sumR B.n (B.H j)) := fun j hj => by
    have a1 := one B.n _ j t0 hj
    have a2 : W j ≤ sumR B.n (Dx B) / (1 - sumR B.n (B.H j)) := (le_div' (by have := ok.H1 j hj; grind)).mpr (by grind)
    have a3 := mulc_le (Rat.le_of_lt (ok.H1 j hj)) (W0 j hj)
    grind
  have s4 := sumR_le Wb
  unfold Bd
  grind
/-! ### the greatest -/
def bit (m j : Nat) : Bool := m.testBit j
def Ph (B : Bk) (b : Nat → Bool) (m : Nat) (a : Nat → Rat) : Prop := (∀ i, i < B.n → a i ≤ Cx B b (bit m) i + sumR B.n (fun j => a j * Mx B b (bit m) i j)) ∧ ∀ i, i < B.n → fit (bit m i) (B.p i) (a i)
theorem aff_M {n : Nat} {C : Rat} {M : Nat → Rat} : Aff n (fun a => C + sumR n (fun j => a j * M j)) := aff_add (aff_const _) (aff_sum fun j hj => aff_mul _ (aff_var hj))
theorem poly_fit {n i : Nat} (hi : i < n) {r : Bool} {p : Rat} : Poly n (fun a => fit r p (a i)) := by
  unfold fit
  cases r
  · exact poly_le (aff_var hi) (aff_const p)
  · exact poly_le (aff_const p) (aff_var hi)
theorem poly_Ph {m : Nat} : Poly B.n (Ph B b m) := poly_and (poly_all fun i hi => poly_le (aff_var hi) aff_M) (poly_all fun i hi => poly_fit hi)
theorem Ph_post {m : Nat} (h : Ph B b m a) : Post B b a := fun i hi => by
  rw [F_fit h.2]
  have := h.1 i hi
  rw [sumR_congr (g := fun j => Mx B b (bit m) i j * a j) (fun j _ => Rat.mul_comm ..)] at this
  exact this
/-- a number for each choice -/
theorem bits_of : ∀ (n : Nat) (r : Nat → Bool), ∃ m, m < 2 ^ n ∧ ∀ j, j < n → bit m j = r j
  | 0, r => ⟨0, by decide, fun j hj => by omega⟩
  | n + 1, r => by
    obtain ⟨m, h1, h2⟩ := bits_of n r
    by_cases q : r n = true
    · refine ⟨2 ^ n + m, by rw [Nat.pow_succ]; omega, fun j hj => ?_⟩
      by_cases e : j = n
      · subst e
        unfold bit
        rw [Nat.testBit_two_pow_add_eq, Nat.testBit_lt_two_pow h1, q]
        rfl
      · unfold bit
        rw [Nat.testBit_two_pow_add_gt (by omega)]
        exact h2 j (by omega)
    · refine ⟨m, by rw [Nat.pow_succ]; omega, fun j hj => ?_⟩
      by_cases e : j = n
      · subst e
        unfold bit
        rw [Nat.testBit_lt_two_pow h1]
        simpa using q
      · exact h2 j (by omega)
theorem post_Ph (h : Post B b a) : ∃ m, m < 2 ^ B.n ∧ Ph B b m a := by
  obtain ⟨m, h1, h2⟩ := bits_of B.n (fun j => decide (B.p j ≤ a j))
  have hf : ∀ i, i < B.n → fit (bit m i) (B.p i) (a i) := fun i hi => by
    rw [h2 i hi]
    unfold fit
    by_cases q : B.p i ≤ a i
    · simp [q]
    · simp [q]; grind
  refine ⟨m, h1, fun i hi => ?_, hf⟩
  have := h i hi
  rw [F_fit hf] at this
  rw [sumR_congr (g := fun j => Mx B b (bit m) i j * a j) (fun j _ => Rat.mul_comm ..)]
  exact this
def mx (x y : Rat) : Rat := if x ≤ y then y else x
theorem sum_same {n : Nat} {f g : Nat → Rat} (h : ∀ i, i < n → f i ≤ g i) (e : sumR n g ≤ sumR n f) : ∀ i, i < n → g i = f i := fun i hi => by
  have := sumR_eq_zero (n := n) (f := fun i => g i - f i) (fun i hi => by have := h i hi; grind) (by
    rw [sumR_sub]
    have := sumR_le h
    grind) i hi
  grind
/-- the greatest row -/
theorem greatest (ok : B.Ok) : ∃ g : Nat → Rat, (∀ i, i < B.n → F B b g i = g i) ∧ (∀ i, i < B.n → 0 ≤ g i) ∧ ∀ y, Post B b y → ∀ i, i < B.n → y i ≤ g i := by
  have z0 : Post B b (fun _ => 0) := fun i hi => F_nonneg ok (fun _ _ => Rat.le_refl) hi
  obtain ⟨m, g, hm, hg, hmax⟩ := greatest_of_some (n := B.n) (Φ := Ph B b) (B := Bd B) (2 ^ B.n) (fun m _ => poly_Ph) (fun m x _ hx => post_le ok (Ph_post hx)) (by
    obtain ⟨m, h1, h2⟩ := post_Ph z0
    exact ⟨m, _, h1, h2⟩)
  have gp := Ph_post hg
  have le : ∀ y, Post B b y → ∀ i, i < B.n → y i ≤ g i := fun y hy => by
    have jp : Post B b (fun i => mx (y i) (g i)) := fun i hi => by
      have h1 := F_mono (b := b) ok (a := y) (a' := fun i => mx (y i) (g i)) (fun i _ => by unfold mx; split <;> grind) hi
      have h2 := F_mono (b := b) ok (a := g) (a' := fun i => mx (y i) (g i)) (fun i _ => by unfold mx; split <;> grind) hi
      have := hy i hi
      have := gp i hi
      show mx (y i) (g i) ≤ _
      unfold mx at *
      split <;> grind
    obtain ⟨m', h1, h2⟩ := post_Ph jp
    have := sum_same (n := B.n) (f := g) (g := fun i => mx (y i) (g i)) (fun i _ => by unfold mx; split <;> grind) (hmax m' _ h1 h2)
    intro i hi
    have := this i hi
    unfold mx at this
    split at this <;> grind
  refine ⟨g, fun i hi => ?_, fun i hi => le _ z0 i hi, le⟩
  have fp : Post B b (F B b g) := fun i hi => F_mono ok gp hi
  have := le _ fp i hi
  have := gp i hi
  grind
theorem small : ∀ (n : Nat) (d u : Nat → Rat), (∀ i, i < n → 0 ≤ u i) → ∃ e : Rat, 0 < e ∧ ∀ i, i < n → 0 < d i → e * u i ≤ d i
  | 0, _, _, _ => ⟨1, by decide, fun i hi => by omega⟩
  | n + 1, d, u, hu => by
    obtain ⟨e, h1, h2⟩ := small n d u (fun i hi => hu i (by omega))
    by_cases q : 0 < d n
    · have up := hu n (by omega)
      have dp : 0 < d n / (u n + 1) := by rw [Rat.lt_div_iff (by grind)]; grind
      have dl : d n / (u n + 1) * u n ≤ d n := by
        have e1 : d n / (u n + 1) * (u n + 1) = d n := Rat.div_mul_cancel (by grind)
        grind
      by_cases g : e ≤ d n / (u n + 1)
      · refine ⟨e, h1, fun i hi hd => ?_⟩
        by_cases z : i = n
        · subst z
          have := le_mulc g up
          grind
        · exact h2 i (by omega) hd
      · refine ⟨d n / (u n + 1), dp, fun i hi hd => ?_⟩
        by_cases z : i = n
        · subst z; exact dl
        · have := h2 i (by omega) hd
          have := le_mulc (show d n / (u n + 1) ≤ e by grind) (hu i (by omega))
          grind
    · refine ⟨e, h1, fun i hi hd => ?_⟩
      by_cases z : i = n
      · subst z; exact absurd hd q
      · exact h2 i (by omega) hd
def abs (x : Rat) : Rat := if 0 ≤ x then x else -x
theorem abs_nonneg {x : Rat} : 0 ≤ abs x := by unfold abs; split <;> grind
theorem abs_sum {n : Nat} {M v : Nat → Rat} (h : ∀ j, j < n → 0 ≤ M j) : abs (sumR n (fun j => M j * v j)) ≤ sumR n (fun j => M j * abs (v j)) := by
  induction n with
  | zero => rw [sumR, sumR]; decide
  | succ n ih =>
    rw [sumR, sumR]
    have a1 := ih (fun j hj => h j (by omega))
    have a2 : abs (M n * v n) = M n * abs (v n) := by
      have hm := h n (by omega)
      unfold abs
      by_cases q : 0 ≤ v n
      · rw [if_pos q, if_pos (Rat.mul_nonneg hm q)]
      · rw [if_neg q]
        have : 0 ≤ M n * -v n := Rat.mul_nonneg hm (by grind)
        split <;> grind
    rw [← a2]
    unfold abs at *
    split <;> split at a1 <;> split <;> grind
theorem Mx_nonneg (ok : B.Ok) {r : Nat → Bool} {i j : Nat} (hi : i < B.n) (hj : j < B.n) : 0 ≤ Mx B b r i j := by
  have h1 : 0 ≤ sp (b j) (r j) (B.k j) := by unfold sp; have := ok.k0 j hj; split <;> grind
  have h2 : 0 ≤ sw (b j) (r j) := by unfold sw; split <;> grind
  have := Rat.mul_nonneg h1 (ok.P0 j hj i hi)
  have := Rat.mul_nonneg h2 (ok.H0 j hj i hi)
  unfold Mx
  grind
/-- .. is the one row of its words -/
theorem greatest_one (ok : B.Ok) {g : Nat → Rat} (fx : ∀ i, i < B.n → F B b g i = g i) (gr : ∀ y, Post B b y → ∀ i, i < B.n → y i ≤ g i) {r : Nat → Bool} (hr : ∀ j, j < B.n → r j = decide (B.p j ≤ g j)) {y : Nat → Rat}
    (hy : ∀ i, i < B.n → y i = Cx B b r i + sumR B.n (fun j => Mx B b r i j * y j)) : ∀ i, i < B.n → y i = g i := by
  have hf : ∀ i, i < B.n → fit (r i) (B.p i) (g i) := fun i hi => by
    rw [hr i hi]
    unfold fit
    by_cases q : B.p i ≤ g i
    · simp [q]
    · simp [q]; grind
  let u : Nat → Rat := fun i => abs (y i - g i)
  have ule : ∀ i, i < B.n → u i ≤ sumR B.n (fun j => Mx B b r i j * u j) := fun i hi => by
    have e : y i - g i = sumR B.n (fun j => Mx B b r i j * (y j - g j)) := by
      have h1 := hy i hi
      have h2 := fx i hi
      rw [F_fit hf] at h2
      have : sumR B.n (fun j => Mx B b r i j * (y j - g j)) = sumR B.n (fun j => Mx B b r i j * y j) - sumR B.n (fun j => Mx B b r i j * g j) := by
        rw [← sumR_sub]
        exact sumR_congr fun j _ => by grind
      rw [this]
      grind
    show abs (y i - g i) ≤ _
    rw [e]
    exact abs_sum fun j hj => Mx_nonneg ok hi hj
  obtain ⟨e, e0, he⟩ := small B.n (fun i => B.p i - g i) u (fun i _ => abs_nonneg)
  let z : Nat → Rat := fun i => g i + e * u i
  have gz : ∀ i, g i ≤ z i := fun i => by have : 0 ≤ e * u i := Rat.mul_nonneg (Rat.le_of_lt e0) abs_nonneg; show g i ≤ g i + e * u i; grind
  have zp : Post B b z := fun i hi => by
    have key : F B b g i + e * sumR B.n (fun j => Mx B b r i j * u j) ≤ F B b z i := by
      unfold F
      rw [← sumR_mul, Rat.add_assoc, ← sumR_add]
      have := sumR_le (n := B.n) (f := fun j => pay (b j) (B.k j) (B.p j) (g j) * B.P j i + wor (b j) (B.p j) (g j) * B.H j i + e * (Mx B b r i j * u j)) (g := fun j => pay (b j) (B.k j) (B.p j) (z j) * B.P j i + wor (b j) (B.p j) (z j) * B.H j i) (fun j hj => by
        have c1 : pay (b j) (B.k j) (B.p j) (g j) + sp (b j) (r j) (B.k j) * (e * u j) ≤ pay (b j) (B.k j) (B.p j) (z j) := by
          have mono := pay_mono (b := b j) (p := B.p j) (ok.k0 j hj) (gz j)
          unfold sp
          rw [hr j hj]
          by_cases q : B.p j ≤ g j
          · simp [q]; grind
          · cases hb : b j
            · rw [hb] at mono; simp; grind
            · simp [q]
              have z1 := he j hj (by grind)
              have z2 : z j ≤ B.p j := by show g j + e * u j ≤ _; grind
              unfold pay
              simp
              rw [if_pos (by grind), if_pos z2]
              show _ ≤ B.k j * (g j + e * u j)
              grind
        have c2 : wor (b j) (B.p j) (g j) + sw (b j) (r j) * (e * u j) ≤ wor (b j) (B.p j) (z j) := by
          have mono := wor_mono (b := b j) (p := B.p j) (gz j)
          unfold sw
          rw [hr j hj]
          by_cases q : B.p j ≤ g j
          · cases hb : b j
            · simp [q]
              have z1 : z j = g j + e * u j := rfl
              have z2 := gz j
              unfold wor
              simp
              split <;> split <;> grind
            · rw [hb] at mono; simp; grind
          · simp [q]; grind
        have d1 := le_mulc c1 (ok.P0 j hj i hi)
        have d2 := le_mulc c2 (ok.H0 j hj i hi)
        unfold Mx
        grind)
      grind
    have k1 := fx i hi
    have k2 := mulc_le (ule i hi) (Rat.le_of_lt e0)
    show g i + e * u i ≤ _
    grind
  intro i hi
  have k1 := gr z zp i hi
  have k2 : e * u i ≤ 0 := by have : z i = g i + e * u i := rfl; grind
  have k3 : u i ≤ 0 := by
    apply Rat.not_lt.mp
    intro q
    have := Rat.mul_pos e0 q
    grind
  have k4 : abs (y i - g i) ≤ 0 := k3
  unfold abs at k4
  split at k4 <;> grind
end Th
set_option Elab.async false
set_option linter.all false
namespace Th
variable {B : Bk} {b : Nat → Bool} {a a' : Nat → Rat}
/-! ### the least -/
def Pl (B : Bk) (b : Nat → Bool) (m : Nat) (a : Nat → Rat) : Prop := (∀ i, i < B.n → 0 ≤ a i) ∧ (∀ i, i < B.n → Cx B b (bit m) i + sumR B.n (fun j => a j * Mx B b (bit m) i j) ≤ a i) ∧ ∀ i, i < B.n → fit (bit m i) (B.p i) (a i)
theorem poly_neg {n : Nat} {Φ : (Nat → Rat) → Prop} (h : Poly n Φ) : Poly n (fun x => Φ (fun i => -(x i))) := by
  obtain ⟨S, hS⟩ := h
  refine ⟨S.map fun q => ⟨fun j => -(q.co j), q.rh⟩, fun x => (hS _).trans ?_⟩
  have key : ∀ q : Ineq, q.ok n (fun i => -(x i)) ↔ (⟨fun j => -(q.co j), q.rh⟩ : Ineq).ok n x := fun q => by
    unfold Ineq.ok
    rw [sumR_congr (g := fun j => -(q.co j) * x j) (fun j _ => by grind)]
  constructor
  · intro h q hq
    obtain ⟨q', hq', rfl⟩ := List.mem_map.mp hq
    exact (key q').mp (h q' hq')
  · intro h q hq
    exact (key q).mpr (h _ (List.mem_map.mpr ⟨q, hq, rfl⟩))
theorem poly_Pl {m : Nat} : Poly B.n (Pl B b m) := poly_and (poly_all fun i hi => poly_le (aff_const 0) (aff_var hi)) (poly_and (poly_all fun i hi => poly_le aff_M (aff_var hi)) (poly_all fun i hi => poly_fit hi))
theorem Pl_pre {m : Nat} (h : Pl B b m a) : Pre B b a := fun i hi => by
  refine ⟨h.1 i hi, ?_⟩
  rw [F_fit h.2.2]
  have := h.2.1 i hi
  rw [sumR_congr (g := fun j => Mx B b (bit m) i j * a j) (fun j _ => Rat.mul_comm ..)] at this
  exact this
theorem pre_Pl (h : Pre B b a) : ∃ m, m < 2 ^ B.n ∧ Pl B b m a := by
  obtain ⟨m, h1, h2⟩ := bits_of B.n (fun j => decide (B.p j ≤ a j))
  have hf : ∀ i, i < B.n → fit (bit m i) (B.p i) (a i) := fun i hi => by
    rw [h2 i hi]
    unfold fit
    by_cases q : B.p i ≤ a i
    · simp [q]
    · simp [q]; grind
  refine ⟨m, h1, fun i hi => (h i hi).1, fun i hi => ?_, hf⟩
  have := (h i hi).2
  rw [F_fit hf] at this
  rw [sumR_congr (g := fun j => Mx B b (bit m) i j * a j) (fun j _ => Rat.mul_comm ..)]
  exact this
def mn (x y : Rat) : Rat := if x ≤ y then x else y
theorem sum_neg {n : Nat} {f : Nat → Rat} : sumR n (fun i => -(f i)) = -(sumR n f) := by
  have := sumR_mul (n := n) (f := f) (-1)
  rw [sumR_congr (g := fun i => -(f i)) (fun i _ => by grind)] at this
  grind
/-- the least row from 0 on -/
theorem least (ok : B.Ok) : ∃ l : Nat → Rat, (∀ i, i < B.n → F B b l i = l i) ∧ (∀ i, i < B.n → 0 ≤ l i) ∧ ∀ y, Pre B b y → ∀ i, i < B.n → l i ≤ y i := by
  obtain ⟨g, gf, g0, _⟩ := greatest (b := b) ok
  have gpre : Pre B b g := fun i hi => ⟨g0 i hi, by rw [gf i hi]; exact Rat.le_refl⟩
  obtain ⟨m, x, hm, hx, hmax⟩ := greatest_of_some (n := B.n) (Φ := fun m x => Pl B b m (fun i => -(x i))) (B := 0) (2 ^ B.n) (fun m _ => poly_neg poly_Pl) (fun m x _ hx => by
      have := sumR_nonneg hx.1
      rw [sum_neg] at this
      grind) (by
    obtain ⟨m, h1, h2⟩ := pre_Pl gpre
    exact ⟨m, fun i => -(g i), h1, by simpa using h2⟩)
  have lp := Pl_pre hx
  have le : ∀ y, Pre B b y → ∀ i, i < B.n → -(x i) ≤ y i := fun y hy => by
    have jp : Pre B b (fun i => mn (y i) (-(x i))) := fun i hi => by
      have h1 := F_mono (b := b) ok (a := fun i => mn (y i) (-(x i))) (a' := y) (fun i _ => by unfold mn; split <;> grind) hi
      have h2 := F_mono (b := b) ok (a := fun i => mn (y i) (-(x i))) (a' := fun i => -(x i)) (fun i _ => by unfold mn; split <;> grind) hi
      have := hy i hi
      have := lp i hi
      refine ⟨?_, ?_⟩
      · show 0 ≤ mn (y i) (-(x i))
        unfold mn
        split <;> grind
      · show _ ≤ mn (y i) (-(x i))
        unfold mn at *
        split <;> grind
    obtain ⟨m', h1, h2⟩ := pre_Pl jp
    have := sum_same (n := B.n) (f := x) (g := fun i => -(mn (y i) (-(x i)))) (fun i _ => by unfold mn; split <;> grind) (hmax m' _ h1 (by simpa using h2))
    intro i hi
    have := this i hi
    unfold mn at this
    split at this <;> grind
  refine ⟨fun i => -(x i), fun i hi => ?_, fun i hi => (lp i hi).1, le⟩
  have fp : Pre B b (F B b (fun i => -(x i))) := fun i hi => ⟨F_nonneg ok (fun j hj => (lp j hj).1) hi, F_mono ok (fun j hj => (lp j hj).2) hi⟩
  have := le _ fp i hi
  have := (lp i hi).2
  grind
theorem sp_sw (ok : B.Ok) {r : Nat → Bool} {j : Nat} (hj : j < B.n) : sumR B.n (fun i => Mx B b r i j) ≤ 1 := by
  have e : sumR B.n (fun i => Mx B b r i j) = sp (b j) (r j) (B.k j) * sumR B.n (B.P j) + sw (b j) (r j) * sumR B.n (B.H j) := by
    rw [← sumR_mul, ← sumR_mul, ← sumR_add]
    rfl
  rw [e]
  have h1 := ok.P1 j hj
  have h2 := ok.H1 j hj
  have h3 := sumR_nonneg (ok.P0 j hj)
  have h4 := ok.k0 j hj
  have h5 := ok.k1 j hj
  unfold sp sw
  cases b j <;> cases r j <;> simp
  · grind
  · grind
  · have := mulc_le h1 h4
    grind
  · grind
/-- .. is the row of its words that is 0 where others differ -/
theorem least_one (ok : B.Ok) {l : Nat → Rat} (fx : ∀ i, i < B.n → F B b l i = l i) (l0 : ∀ i, i < B.n → 0 ≤ l i) (lr : ∀ y, Pre B b y → ∀ i, i < B.n → l i ≤ y i) {r : Nat → Bool} (hr : ∀ j, j < B.n → r j = decide (B.p j < l j)) {y : Nat → Rat}
    (hy : ∀ i, i < B.n → y i = Cx B b r i + sumR B.n (fun j => Mx B b r i j * y j)) : ∀ i, i < B.n → y i ≠ l i → l i = 0 := by
  have hf : ∀ i, i < B.n → fit (r i) (B.p i) (l i) := fun i hi => by
    rw [hr i hi]
    unfold fit
    by_cases q : B.p i < l i
    · simp [q]; grind
    · simp [q]; grind
  let u : Nat → Rat := fun i => abs (y i - l i)
  have u0 : ∀ i, 0 ≤ u i := fun i => abs_nonneg
  have ule : ∀ i, i < B.n → u i ≤ sumR B.n (fun j => Mx B b r i j * u j) := fun i hi => by
    have e : y i - l i = sumR B.n (fun j => Mx B b r i j * (y j - l j)) := by
      have h1 := hy i hi
      have h2 := fx i hi
      rw [F_fit hf] at h2
      have : sumR B.n (fun j => Mx B b r i j * (y j - l j)) = sumR B.n (fun j => Mx B b r i j * y j) - sumR B.n (fun j => Mx B b r i j * l j) := by
        rw [← sumR_sub]
        exact sumR_congr fun j _ => by grind
      rw [this]
      grind
    show abs (y i - l i) ≤ _
    rw [e]
    exact abs_sum fun j hj => Mx_nonneg ok hi hj
  -- column sums
  have col : ∀ w : Nat → Rat, sumR B.n (fun i => sumR B.n (fun j => Mx B b r i j * w j)) = sumR B.n (fun j => sumR B.n (fun i => Mx B b r i j) * w j) := fun w => by
    rw [sumR_comm]
    exact sumR_congr fun j _ => sumR_mulr _
  have cle : ∀ j, j < B.n → 0 ≤ (1 - sumR B.n (fun i => Mx B b r i j)) * u j := fun j hj => Rat.mul_nonneg (by have := sp_sw (b := b) (r := r) ok hj; grind) (u0 j)
  have csum : sumR B.n (fun j => (1 - sumR B.n (fun i => Mx B b r i j)) * u j) = sumR B.n u - sumR B.n (fun j => sumR B.n (fun i => Mx B b r i j) * u j) := by
    rw [← sumR_sub]
    exact sumR_congr fun j _ => by grind
  have tot := sumR_le ule
  rw [col] at tot
  have ceq : ∀ j, j < B.n → (1 - sumR B.n (fun i => Mx B b r i j)) * u j = 0 := by
    refine sumR_eq_zero cle ?_
    have := sumR_nonneg cle
    rw [csum] at this ⊢
    grind
  have ueq : ∀ i, i < B.n → u i = sumR B.n (fun j => Mx B b r i j * u j) := by
    have z : sumR B.n (fun i => sumR B.n (fun j => Mx B b r i j * u j) - u i) = 0 := by
      rw [sumR_sub, col]
      have := sumR_nonneg cle
      rw [csum] at this
      have t0 : sumR B.n (fun j => (1 - sumR B.n (fun i => Mx B b r i j)) * u j) = 0 := sumR_zero ceq
      rw [csum] at t0
      grind
    intro i hi
    have := sumR_eq_zero (n := B.n) (f := fun i => sumR B.n (fun j => Mx B b r i j * u j) - u i) (fun i hi => by have := ule i hi; grind) z i hi
    grind
  -- rows of banks without assets
  have zr : ∀ i, i < B.n → l i = 0 → ∀ j, j < B.n → Mx B b r i j * l j = 0 := fun i hi li j hj => by
    have e := fx i hi
    unfold F at e
    rw [li] at e
    have tn : ∀ j, j < B.n → 0 ≤ pay (b j) (B.k j) (B.p j) (l j) * B.P j i + wor (b j) (B.p j) (l j) * B.H j i := fun j hj => by
      have h1 := Rat.mul_nonneg (pay_nonneg (b := b j) (ok.k0 j hj) (ok.p0 j hj) (l0 j hj)) (ok.P0 j hj i hi)
      have h2 := Rat.mul_nonneg (wor_nonneg (b := b j) (p := B.p j) (a := l j)) (ok.H0 j hj i hi)
      grind
    have sn := sumR_nonneg tn
    have c0 := ok.c0 i hi
    have t0 := sumR_eq_zero tn (by grind) j hj
    have h1 := Rat.mul_nonneg (pay_nonneg (b := b j) (ok.k0 j hj) (ok.p0 j hj) (l0 j hj)) (ok.P0 j hj i hi)
    have h2 := Rat.mul_nonneg (wor_nonneg (b := b j) (p := B.p j) (a := l j)) (ok.H0 j hj i hi)
    have q1 : pay (b j) (B.k j) (B.p j) (l j) * B.P j i = 0 := by grind
    have q2 : wor (b j) (B.p j) (l j) * B.H j i = 0 := by grind
    unfold Mx sp sw
    have rj := hr j hj
    unfold pay at q1
    unfold wor at q2
    by_cases q : B.p j < l j
    · have q' : ¬ l j ≤ B.p j := by grind
      have ne : l j - B.p j ≠ 0 := by grind
      rw [rj]
      cases hb : b j <;> rw [hb] at q1 q2 <;> simp [q, q'] at q1 q2 ⊢
      · have : B.H j i = 0 := by
          rcases Rat.mul_eq_zero.mp q2 with z | z
          · exact absurd z ne
          · exact z
        rw [this]; grind
      · grind
    · have q' : l j ≤ B.p j := by grind
      rw [rj]
      cases hb : b j <;> rw [hb] at q1 q2 <;> simp [q, q'] at q1 q2 ⊢ <;> grind
  let w : Nat → Rat := fun i => if l i = 0 then 0 else u i
  have w0 : ∀ i, 0 ≤ w i := fun i => by show 0 ≤ if l i = 0 then 0 else u i; split; exact Rat.le_refl; exact u0 i
  have wu : ∀ i, w i ≤ u i := fun i => by show (if l i = 0 then 0 else u i) ≤ u i; have := u0 i; split <;> grind
  have wle : ∀ i, i < B.n → sumR B.n (fun j => Mx B b r i j * w j) ≤ w i := fun i hi => by
    by_cases q : l i = 0
    · have : sumR B.n (fun j => Mx B b r i j * w j) = 0 := sumR_zero fun j hj => by
        by_cases z : l j = 0
        · show _ * (if l j = 0 then 0 else u j) = 0; rw [if_pos z]; grind
        · rcases Rat.mul_eq_zero.mp (zr i hi q j hj) with y | y
          · rw [y]; grind
          · exact absurd y z
      rw [this]; exact w0 i
    · have e : w i = u i := if_neg q
      rw [e, ueq i hi]
      exact sumR_le fun j hj => mulc_le (wu j) (Mx_nonneg ok hi hj)
  have weq : ∀ i, i < B.n → w i = sumR B.n (fun j => Mx B b r i j * w j) := by
    have z : sumR B.n (fun i => w i - sumR B.n (fun j => Mx B b r i j * w j)) = 0 := by
      rw [sumR_sub, col, ← sumR_sub]
      refine sumR_zero fun j hj => ?_
      have := ceq j hj
      by_cases q : l j = 0
      · have e : w j = 0 := if_pos q
        rw [e]; grind
      · have e : w j = u j := if_neg q
        rw [e]; grind
    intro i hi
    have := sumR_eq_zero (n := B.n) (f := fun i => w i - sumR B.n (fun j => Mx B b r i j * w j)) (fun i hi => by have := wle i hi; grind) z i hi
    grind
  obtain ⟨e1, e10, he1⟩ := small B.n (fun i => l i) w (fun i _ => w0 i)
  obtain ⟨e2, e20, he2⟩ := small B.n (fun i => l i - B.p i) w (fun i _ => w0 i)
  let e : Rat := mn e1 e2
  have e0 : 0 < e := by show 0 < mn e1 e2; unfold mn; split <;> grind
  have ee1 : e ≤ e1 := by show mn e1 e2 ≤ _; unfold mn; split <;> grind
  have ee2 : e ≤ e2 := by show mn e1 e2 ≤ _; unfold mn; split <;> grind
  have le1 : ∀ i, i < B.n → e * w i ≤ l i := fun i hi => by
    by_cases q : l i = 0
    · have : w i = 0 := if_pos q
      rw [this]; grind
    · have := he1 i hi (by have := l0 i hi; grind)
      have := le_mulc ee1 (w0 i)
      grind
  have le2 : ∀ i, i < B.n → B.p i < l i → e * w i ≤ l i - B.p i := fun i hi q => by
    have := he2 i hi (by grind)
    have := le_mulc ee2 (w0 i)
    grind
  let z : Nat → Rat := fun i => l i - e * w i
  have gz : ∀ i, z i ≤ l i := fun i => by have : 0 ≤ e * w i := Rat.mul_nonneg (Rat.le_of_lt e0) (w0 i); show l i - e * w i ≤ l i; grind
  have zp : Pre B b z := fun i hi => by
    refine ⟨by show 0 ≤ l i - e * w i; have := le1 i hi; grind, ?_⟩
    have key : F B b z i ≤ F B b l i - e * sumR B.n (fun j => Mx B b r i j * w j) := by
      unfold F
      rw [← sumR_mul]
      have := sumR_le (n := B.n) (f := fun j => pay (b j) (B.k j) (B.p j) (z j) * B.P j i + wor (b j) (B.p j) (z j) * B.H j i + e * (Mx B b r i j * w j)) (g := fun j => pay (b j) (B.k j) (B.p j) (l j) * B.P j i + wor (b j) (B.p j) (l j) * B.H j i) (fun j hj => by
        have c1 : pay (b j) (B.k j) (B.p j) (z j) + sp (b j) (r j) (B.k j) * (e * w j) ≤ pay (b j) (B.k j) (B.p j) (l j) := by
          have mono := pay_mono (b := b j) (p := B.p j) (ok.k0 j hj) (gz j)
          unfold sp
          rw [hr j hj]
          by_cases q : B.p j < l j
          · simp [q]; grind
          · cases hb : b j
            · rw [hb] at mono; simp; grind
            · simp [q]
              have z2 := gz j
              unfold pay
              simp
              rw [if_pos (by grind), if_pos (by grind)]
              show B.k j * (l j - e * w j) + _ ≤ _
              grind
        have c2 : wor (b j) (B.p j) (z j) + sw (b j) (r j) * (e * w j) ≤ wor (b j) (B.p j) (l j) := by
          have mono := wor_mono (b := b j) (p := B.p j) (gz j)
          unfold sw
          rw [hr j hj]
          by_cases q : B.p j < l j
          · cases hb : b j
            · simp [q]
              have z1 : z j = l j - e * w j := rfl
              have z2 := le2 j hj q
              unfold wor
              simp
              split <;> split <;> grind
            · rw [hb] at mono; simp; grind
          · simp [q]; grind
        have d1 := le_mulc c1 (ok.P0 j hj i hi)
        have d2 := le_mulc c2 (ok.H0 j hj i hi)
        unfold Mx
        grind)
      rw [sumR_add] at this
      grind
    have k1 := fx i hi
    have k2 := weq i hi
    have : z i = l i - e * w i := rfl
    grind
  intro i hi ne
  have k1 := lr z zp i hi
  have k2 : e * w i ≤ 0 := by have : z i = l i - e * w i := rfl; grind
  have k3 : w i ≤ 0 := by
    apply Rat.not_lt.mp
    intro q
    have := Rat.mul_pos e0 q
    grind
  by_cases q : l i = 0
  · exact q
  · have k4 : u i ≤ 0 := by have : w i = u i := if_neg q; grind
    have k5 : abs (y i - l i) ≤ 0 := k4
    unfold abs at k5
    split at k5 <;> grind
end Th
set_option Elab.async false
set_option linter.all false
namespace Th
/-- the row that is 0 where others differ is the one that is told -/
theorem solved_pick {rows : List (List Rat)} {w : Nat} (hl : ∀ r ∈ rows, r.length = w + 1) {x : Nat → Rat} (hx : ∀ r ∈ rows, sat w x r) (hy : ∀ y, (∀ r ∈ rows, sat w y r) → ∀ f, f < w → y f ≠ x f → x f = 0) :
    ∃ out, solved rows w = some out ∧ out.length = w ∧ ∀ j, j < w → ent out j = x j := by
  cases e : solved rows w with
  | none => exact absurd hx (solved_none hl e x)
  | some out =>
    obtain ⟨h1, h2⟩ := solved_some hl e
    refine ⟨out, rfl, h1, ?_⟩
    have I := led_to hl (Nat.le_refl w)
    have free : ∀ j, j < w → (∀ q ∈ (ledTo rows w).1, q.1 ≠ j) → ent out j = x j := fun j hj hq => by
      have z : ent out j = 0 := by
        unfold solved at e
        split at e
        · cases e
        · cases e
          unfold ent outOf
          rw [List.getD_eq_getElem?_getD, out_no hq, List.getElem?_replicate]
          split <;> rfl
      by_cases q : ent out j = x j
      · exact q
      · rw [z, hy _ h2 j hj q]
    intro j hj
    by_cases q : ∃ q ∈ (ledTo rows w).1, q.1 = j
    · obtain ⟨a, ha, rfl⟩ := q
      have s1 := ((I.eq _).mp h2).1 a ha
      have s2 := ((I.eq _).mp hx).1 a ha
      unfold sat at s1 s2
      have z : sumR w (fun j => ent a.2 j * (ent out j - x j)) = 0 := by
        have : sumR w (fun j => ent a.2 j * (ent out j - x j)) = sumR w (fun j => ent a.2 j * ent out j) - sumR w (fun j => ent a.2 j * x j) := by
          rw [← sumR_sub]
          exact sumR_congr fun i _ => by grind
        rw [this, s1, s2]
        grind
      rw [sumR_single hj (fun i hi ne => ?_), I.one a ha] at z
      · grind
      · by_cases q : ∃ b ∈ (ledTo rows w).1, b.1 = i
        · obtain ⟨c, hc, rfl⟩ := q
          rw [I.off c hc a ha ne]; grind
        · rw [free i hi (fun c hc y => q ⟨c, hc, y⟩)]; grind
    · exact free j hj (fun c hc y => q ⟨c, hc, y⟩)
/-! ### rounds -/
variable {B : Bk} {b b' : Nat → Bool} {a a' y : Nat → Rat}
def lack (B : Bk) (a : Nat → Rat) (j : Nat) : Bool := decide (a j < B.p j)
/-- assets of a clearing -/
def Clr (B : Bk) (a : Nat → Rat) : Prop := ∀ i, i < B.n → F B (lack B a) a i = a i
def isG (B : Bk) (b : Nat → Bool) (g : Nat → Rat) : Prop := (∀ i, i < B.n → F B b g i = g i) ∧ (∀ i, i < B.n → 0 ≤ g i) ∧ ∀ y, Post B b y → ∀ i, i < B.n → y i ≤ g i
def isL (B : Bk) (b : Nat → Bool) (l : Nat → Rat) : Prop := (∀ i, i < B.n → F B b l i = l i) ∧ (∀ i, i < B.n → 0 ≤ l i) ∧ ∀ y, Pre B b y → ∀ i, i < B.n → l i ≤ y i
theorem pay_more (ok : B.Ok) {j : Nat} (hj : j < B.n) {u u' : Bool} {x : Rat} (h : u = true → u' = true) : pay u' (B.k j) (B.p j) x ≤ pay u (B.k j) (B.p j) x := by
  cases hu : u
  · cases hu' : u'
    · exact Rat.le_refl
    · have := pay_le (b := true) (a := x) (ok.k0 j hj) (ok.k1 j hj) (ok.p0 j hj)
      have e : pay false (B.k j) (B.p j) x = B.p j := rfl
      rw [e]; exact this
  · rw [h hu]; exact Rat.le_refl
theorem wor_more {u u' : Bool} {p x : Rat} (h : u = true → u' = true) : wor u' p x ≤ wor u p x := by
  cases hu : u
  · cases hu' : u'
    · exact Rat.le_refl
    · exact wor_nonneg
  · rw [h hu]; exact Rat.le_refl
theorem F_le' (ok : B.Ok) (h : ∀ j, j < B.n → pay (b' j) (B.k j) (B.p j) (a j) ≤ pay (b j) (B.k j) (B.p j) (a j) ∧ wor (b' j) (B.p j) (a j) ≤ wor (b j) (B.p j) (a j)) {i : Nat} (hi : i < B.n) : F B b' a i ≤ F B b a i := by
  unfold F
  have := sumR_le (n := B.n) (f := fun j => pay (b' j) (B.k j) (B.p j) (a j) * B.P j i + wor (b' j) (B.p j) (a j) * B.H j i) (g := fun j => pay (b j) (B.k j) (B.p j) (a j) * B.P j i + wor (b j) (B.p j) (a j) * B.H j i) (fun j hj => by
    have h1 := le_mulc (h j hj).1 (ok.P0 j hj i hi)
    have h2 := le_mulc (h j hj).2 (ok.H0 j hj i hi)
    grind)
  grind
/-- more that fail, less everywhere -/
theorem F_more (ok : B.Ok) (h : ∀ j, j < B.n → b j = true → b' j = true) {i : Nat} (hi : i < B.n) : F B b' a i ≤ F B b a i :=
  F_le' ok (fun j hj => ⟨pay_more ok hj (h j hj), wor_more (h j hj)⟩) hi
theorem isG_more (ok : B.Ok) {g g' : Nat → Rat} (hg : isG B b g) (hg' : isG B b' g') (h : ∀ j, j < B.n → b j = true → b' j = true) : ∀ i, i < B.n → g' i ≤ g i :=
  hg.2.2 g' fun i hi => by rw [← hg'.1 i hi]; have := F_more (a := g') ok h hi; have e := hg'.1 i hi; grind
theorem isL_more (ok : B.Ok) {l l' : Nat → Rat} (hl : isL B b l) (hl' : isL B b' l') (h : ∀ j, j < B.n → b j = true → b' j = true) : ∀ i, i < B.n → l' i ≤ l i :=
  hl'.2.2 l fun i hi => ⟨hl.2.1 i hi, by have := F_more (a := l) ok h hi; have e := hl.1 i hi; grind⟩
theorem isG_eq {g g' : Nat → Rat} (hg : isG B b g) (hg' : isG B b g') : ∀ i, i < B.n → g i = g' i := fun i hi => by
  have h1 := hg.2.2 g' (fun i hi => by rw [hg'.1 i hi]; exact Rat.le_refl) i hi
  have h2 := hg'.2.2 g (fun i hi => by rw [hg.1 i hi]; exact Rat.le_refl) i hi
  grind
/-- each clearing stands below the greatest row of banks that fail in it -/
theorem clr_le (ok : B.Ok) (hy : Clr B y) {g : Nat → Rat} (hg : isG B b g) (h : ∀ j, j < B.n → b j = true → y j < B.p j) : ∀ i, i < B.n → y i ≤ g i :=
  hg.2.2 y fun i hi => by
    have := F_more (b := b) (b' := lack B y) (a := y) ok (fun j hj hb => decide_eq_true (h j hj hb)) hi
    have e := hy i hi
    grind
/-- .. and above the least one -/
theorem clr_ge (ok : B.Ok) (hy : Clr B y) (y0 : ∀ i, i < B.n → 0 ≤ y i) {l : Nat → Rat} (hl : isL B b l) (h : ∀ j, j < B.n → b j = false → B.p j ≤ y j) : ∀ i, i < B.n → l i ≤ y i :=
  hl.2.2 y fun i hi => by
    refine ⟨y0 i hi, ?_⟩
    have := F_le' (b := lack B y) (b' := b) (a := y) ok (fun j hj => by
      cases hb : b j
      · have q := h j hj hb
        have z : lack B y j = false := decide_eq_false (by grind)
        rw [z]
        exact ⟨Rat.le_refl, Rat.le_refl⟩
      · refine ⟨?_, ?_⟩
        · cases z : lack B y j
          · exact pay_le (ok.k0 j hj) (ok.k1 j hj) (ok.p0 j hj)
          · exact Rat.le_refl
        · cases z : lack B y j
          · exact wor_nonneg
          · exact Rat.le_refl) hi
    have e := hy i hi
    grind
theorem clr_of (hb : ∀ i, i < B.n → F B b a i = a i) (h : ∀ j, j < B.n → b j = lack B a j) : Clr B a := fun i hi => by
  rw [← hb i hi]
  unfold F
  rw [sumR_congr (f := fun j => pay (lack B a j) (B.k j) (B.p j) (a j) * B.P j i + wor (lack B a j) (B.p j) (a j) * B.H j i) (g := fun j => pay (b j) (B.k j) (B.p j) (a j) * B.P j i + wor (b j) (B.p j) (a j) * B.H j i) (fun j hj => by rw [h j hj])]
end Th
set_option Elab.async false
set_option linter.all false
set_option maxRecDepth 100000
set_option maxHeartbeats 1000000
namespace Pd
open PySem L2
/-! ### the small language, step by step (for simp) -/
def lenvM (i : Nat) : M SV := fun ρ S => match ρ[i]? with
  | some (some (.ow xs)) => .ok (.im (.int xs.length)) ρ S
  | some (some (.im (.lst xs))) => .ok (.im (.int xs.length)) ρ S
  | some (some (.im (.tup xs))) => .ok (.im (.int xs.length)) ρ S
  | _ => .bad
def ixvM (i : Nat) (y : SV) : M SV := fun ρ S => match ρ[i]?, y.d with
    | some (some (.ow xs)), .int k => (match atI xs k with
      | some d => .ok (.im d) ρ S
      | none => .bad)
    | _, _ => .bad
def ixM (i : Nat) (f : M SV) : M SV := fun ρ S => match ρ[i]? with
    | some (some (.ow _)) => ownThen i (M.bnd f (ixvM i)) ρ S
    | _ => M.bnd (getV i) (fun x => M.bnd f fun y => M.bnd (M.opt (ixD x.d y.d)) fun d => M.ret (.im d)) ρ S
def popM (i : Nat) (y : SV) : M SV := fun ρ S => match ρ[i]?, y.d with
    | some (some (.ow xs)), .int k => if 0 ≤ k ∧ k < xs.length ∧ xs.length ≤ 100000 then (match xs[k.toNat]? with
      | some d => .ok (.im d) (ρ.set i (some (.ow (xs.eraseIdx k.toNat)))) S
      | none => .bad) else .bad
    | _, _ => .bad
def keyvM (i k : Nat) : M SV := fun ρ S => match ρ[i]? with
    | some (some (.od kvs)) => (match kvs.lookup k with
      | some d => .ok (.im d) ρ S
      | none => .bad)
    | _ => .bad
def asgTM (ts : List IT) (sv : SV) : M Flow' := fun ρ S => match asgT (.tp ts) sv.d ρ with
    | some ρ' => .ok .nx ρ' S
    | none => .bad
def augM (i : Nat) (x : M SV) : M Flow' := fun ρ S => match ρ[i]? with
    | some (some (.im (.int a))) => M.bnd x (fun y => match y.d with
      | .int b => M.bnd (setSV i (.im (.int (a + b)))) fun _ => M.ret .nx
      | _ => M.bad) ρ S
    | _ => .bad
def appM (i : Nat) (y : SV) : M Flow' := fun ρ S => match ρ[i]? with
    | some (some (.ow xs)) => if xs.length < 100000 then .ok .nx (ρ.set i (some (.ow (xs ++ [y.d])))) S else .bad
    | _ => .bad
def stoM (i : Nat) (y kk : SV) : M Flow' := fun ρ S => match ρ[i]?, kk.d with
    | some (some (.ow xs)), .int k => (match ixN xs.length k with
      | some j => .ok .nx (ρ.set i (some (.ow (xs.set j y.d)))) S
      | none => .bad)
    | _, _ => .bad
def retvM (i : Nat) : M Flow' := fun ρ S => match ρ[i]? with
    | some (some sv) => .ok (.ret sv) ρ S
    | _ => .bad
def rsM (c n : Nat) (svs : List SV) : M Flow' := fun ρ S => if svs.length = n ∧ svs.length ≤ 10 then .exc c (svs.map SV.d).reverse S else .bad
section
variable {α β : Type} {ρ : Rho} {S : PenSt}
@[simp] theorem ve_ret (a : α) : M.ret a ρ S = .ok a ρ S := rfl
@[simp] theorem ve_bad : (M.bad : M α) ρ S = .bad := rfl
@[simp] theorem ve_opt_s (a : α) : M.opt (some a) ρ S = .ok a ρ S := rfl
@[simp] theorem ve_opt_n : M.opt (none : Option α) ρ S = .bad := rfl
theorem ve_bnd (x : M α) (f : α → M β) : M.bnd x f ρ S = match x ρ S with
  | .ok a ρ' S' => f a ρ' S'
  | .exc c fs S' => .exc c fs S'
  | .bad => .bad := rfl
@[simp] theorem ve_var (i : Nat) : evE (.var i) ρ S = (getV i) ρ S := rfl
@[simp] theorem ve_cst (d : D) : evE (.cst d) ρ S = (M.ret (.im d)) ρ S := rfl
@[simp] theorem ve_tup (es : List IE) : evE (.tup es) ρ S = (M.bnd (evEs es) (fun svs => M.ret (.im (.tup (svs.map SV.d))))) ρ S := rfl
@[simp] theorem ve_lst (es : List IE) : evE (.lst es) ρ S = (M.bnd (evEs es) (fun svs => M.ret (.ow (svs.map SV.d)))) ρ S := rfl
@[simp] theorem ve_dct (ks : List Nat) (es : List IE) : evE (.dct ks es) ρ S = (M.bnd (evEs es) (fun svs => if ks.length = svs.length ∧ svs.length ≤ 15 ∧ ks.Nodup then M.ret (.od (ks.zip (svs.map SV.d))) else M.bad)) ρ S := rfl
@[simp] theorem ve_bin (o : BOp) (a b : IE) : evE (.bin o a b) ρ S = (M.bnd (evE a) (fun x => M.bnd (evE b) fun y => M.opt (binD o x.d y.d))) ρ S := rfl
@[simp] theorem ve_neg (a : IE) : evE (.neg a) ρ S = (M.bnd (evE a) (fun x => match x.d with
    | .int i => M.ret (.im (.int (-i)))
    | _ => M.bad)) ρ S := rfl
@[simp] theorem ve_not (a : IC) : evE (.not a) ρ S = (M.bnd (evT a) (fun b => M.ret (.im (.bl (!b))))) ρ S := rfl
@[simp] theorem ve_cmp (o : COp) (a b : IE) : evE (.cmp o a b) ρ S = (M.bnd (evE a) (fun x => M.bnd (evE b) fun y => M.bnd (M.opt (cmpD o x.d y.d)) fun k => M.ret (.im (.bl k)))) ρ S := rfl
@[simp] theorem ve_chn (o o' : COp) (a b c : IE) : evE (.chn o o' a b c) ρ S = (M.bnd (evE a) (fun x => M.bnd (evE b) fun y => M.bnd (M.opt (cmpD o x.d y.d)) fun k => if k then M.bnd (evE c) fun z => M.bnd (M.opt (cmpD o' y.d z.d)) fun k' => M.ret (.im (.bl k')) else M.ret (.im (.bl false)))) ρ S := rfl
@[simp] theorem ve_and (a b : IE) : evE (.and a b) ρ S = (M.bnd (boolM (evE a)) (fun k => if k then evE b else M.ret (.im (.bl false)))) ρ S := rfl
@[simp] theorem ve_or (a b : IE) : evE (.or a b) ρ S = (M.bnd (boolM (evE a)) (fun k => if k then M.ret (.im (.bl true)) else evE b)) ρ S := rfl
@[simp] theorem ve_ife (t : IC) (a b : IE) : evE (.ife t a b) ρ S = (M.bnd (evT t) (fun k => if k then evE a else evE b)) ρ S := rfl
@[simp] theorem ve_ix (a i : IE) : evE (.ix a i) ρ S = (M.bnd (evE a) (fun x => M.bnd (evE i) fun y => M.bnd (M.opt (ixD x.d y.d)) fun d => M.ret (.im d))) ρ S := rfl
@[simp] theorem ve_key (a : IE) (k : Nat) : evE (.key a k) ρ S = (M.bnd (evE a) (fun x => M.bnd (M.opt (keyD x.d k)) fun d => M.ret (.im d))) ρ S := rfl
@[simp] theorem ve_slc (a : IE) (lo hi : Option IE) : evE (.slc a lo hi) ρ S = (M.bnd (evE a) (fun x => M.bnd (evO lo) fun l => M.bnd (evO hi) fun h => M.opt (slcD x.d l h))) ρ S := rfl
@[simp] theorem ve_atr (a : IE) (ps : List (Nat × Nat)) : evE (.atr a ps) ρ S = (M.bnd (evE a) (fun x => M.bnd (M.opt (atrD x.d ps)) fun d => M.ret (.im d))) ρ S := rfl
@[simp] theorem ve_call (F : DFun) (es : List IE) : evE (.call F es) ρ S = (M.bnd (evEs es) (fun svs => callM F (svs.map SV.d))) ρ S := rfl
@[simp] theorem ve_isi (e : IE) (ts : List Ty) : evE (.isi e ts) ρ S = (M.bnd (evE e) (fun x => M.bnd (M.opt (isTys x.d ts)) fun k => M.ret (.im (.bl k)))) ρ S := rfl
@[simp] theorem ve_cmpr (own : List Nat) (tg : IT) (it : II) (ifs : List IC) (elt : IE) : evE (.cmpr own tg it ifs elt) ρ S = (M.bnd (evI it) (fun items => M.bnd (compLoop own tg (evTs ifs) (evE elt) items []) fun xs => M.ret (.ow xs))) ρ S := rfl
@[simp] theorem ve_lenv (i : Nat) : evE (.lenv i) ρ S = (lenvM i) ρ S := rfl
@[simp] theorem ve_ixv (i : Nat) (e : IE) : evE (.ixv i e) ρ S = ixM i (evE e) ρ S := rfl
@[simp] theorem ve_pop (i : Nat) (e : IE) : evE (.pop i e) ρ S = (ownThen i (M.bnd (evE e) (popM i))) ρ S := rfl
@[simp] theorem ve_keyv (i k : Nat) : evE (.keyv i k) ρ S = (keyvM i k) ρ S := rfl
@[simp] theorem ve_unf (i : Nat) (e : IE) : evE (.unf i e) ρ S = (unfM i (evE e)) ρ S := rfl
@[simp] theorem ve_pget (i k : Nat) : evE (.pget i k) ρ S = (pgetM i k) ρ S := rfl
@[simp] theorem ve_rngL (t : Bool) (a : IE) : evE (.rngL t a) ρ S = (M.bnd (evE a) (fun x => match x.d with
    | .int j => if j ≤ 100000 ∧ -100000 ≤ j then M.ret (if t then .im (.tup (rngL 0 j.toNat)) else .ow (rngL 0 j.toNat)) else M.bad
    | _ => M.bad)) ρ S := rfl
@[simp] theorem ve_bitlen (e : IE) : evE (.bitlen e) ρ S = (M.bnd (evE e) (fun x => match x.d with
    | .int i => M.ret (.im (.int (if i = 0 then 0 else i.natAbs.log2 + 1)))
    | _ => M.bad)) ρ S := rfl
@[simp] theorem ve_nil : evEs [] ρ S = (M.ret []) ρ S := rfl
@[simp] theorem ve_cons (e : IE) (es : List IE) : evEs (e :: es) ρ S = (M.bnd (evE e) (fun x => M.bnd (evEs es) fun xs => M.ret (x :: xs))) ρ S := rfl
@[simp] theorem ve_o0 : evO none ρ S = (M.ret none) ρ S := rfl
@[simp] theorem ve_o1 (e : IE) : evO (some e) ρ S = (M.bnd (evE e) (fun x => match x.d with
    | .int i => M.ret (some i)
    | _ => M.bad)) ρ S := rfl
@[simp] theorem vt_and (a b : IC) : evT (.and a b) ρ S = (M.bnd (evT a) (fun k => if k then evT b else M.ret false)) ρ S := rfl
@[simp] theorem vt_or (a b : IC) : evT (.or a b) ρ S = (M.bnd (evT a) (fun k => if k then M.ret true else evT b)) ρ S := rfl
@[simp] theorem vt_not (a : IC) : evT (.not a) ρ S = (M.bnd (evT a) (fun b => M.ret (!b))) ρ S := rfl
@[simp] theorem vt_tst (e : IE) : evT (.tst e) ρ S = (M.bnd (evE e) (fun sv => M.opt (truD sv.d))) ρ S := rfl
@[simp] theorem vts_nil : evTs [] ρ S = (M.ret true) ρ S := rfl
@[simp] theorem vts_cons (e : IC) (es : List IC) : evTs (e :: es) ρ S = (M.bnd (evT e) (fun k => if k then evTs es else M.ret false)) ρ S := rfl
@[simp] theorem vi_seq (e : IE) : evI (.seq e) ρ S = (M.bnd (evE e) (fun x => M.opt x.d.items)) ρ S := rfl
@[simp] theorem vi_rng1 (a : IE) : evI (.rng1 a) ρ S = (M.bnd (evE a) (fun x => match x.d with
    | .int j => if j ≤ 100000 ∧ -100000 ≤ j then M.ret (rngL 0 j.toNat) else M.bad
    | _ => M.bad)) ρ S := rfl
@[simp] theorem vi_rng2 (a b : IE) : evI (.rng2 a b) ρ S = (M.bnd (evE a) (fun x => M.bnd (evE b) fun y => match x.d, y.d with
    | .int i, .int j => if j ≤ 100000 ∧ -100000 ≤ j ∧ i ≤ 100000 ∧ -100000 ≤ i then M.ret (rngL i (j - i).toNat) else M.bad
    | _, _ => M.bad)) ρ S := rfl
@[simp] theorem vi_enm (e : IE) : evI (.enm e) ρ S = (M.bnd (evE e) (fun x => M.bnd (M.opt x.d.items) fun ds => M.ret (enmL 0 ds))) ρ S := rfl
@[simp] theorem vi_zip2 (a b : IE) : evI (.zip2 a b) ρ S = (M.bnd (evE a) (fun x => M.bnd (evE b) fun y => M.bnd (M.opt x.d.items) fun ds => M.bnd (M.opt y.d.items) fun es => M.ret (zip2L ds es))) ρ S := rfl
@[simp] theorem vi_zip3 (a b c : IE) : evI (.zip3 a b c) ρ S = (M.bnd (evE a) (fun x => M.bnd (evE b) fun y => M.bnd (evE c) fun z => M.bnd (M.opt x.d.items) fun ds => M.bnd (M.opt y.d.items) fun es => M.bnd (M.opt z.d.items) fun fs => M.ret (zip3L ds es fs))) ρ S := rfl
@[simp] theorem vs_asgN (i : Nat) (e : IE) : evS (.asg (.nm i) e) ρ S = (M.bnd (evE e) (fun sv => M.bnd (setSV i sv) fun _ => M.ret .nx)) ρ S := rfl
@[simp] theorem vs_asgT (ts : List IT) (e : IE) : evS (.asg (.tp ts) e) ρ S = (M.bnd (evE e) (asgTM ts)) ρ S := rfl
@[simp] theorem vs_par (is : List Nat) (es : List IE) : evS (.par is es) ρ S = (M.bnd (evEs es) (fun svs => M.bnd (asgs is svs) fun _ => M.ret .nx)) ρ S := rfl
@[simp] theorem vs_aug (i : Nat) (e : IE) : evS (.aug i e) ρ S = (augM i (evE e)) ρ S := rfl
@[simp] theorem vs_app (i : Nat) (e : IE) : evS (.app i e) ρ S = (ownThen i (M.bnd (evE e) (appM i))) ρ S := rfl
@[simp] theorem vs_sto (i : Nat) (k e : IE) : evS (.sto i k e) ρ S = (M.bnd (evE e) (fun y => ownThen i (M.bnd (evE k) (stoM i y)))) ρ S := rfl
@[simp] theorem vs_stk (i k : Nat) (e : IE) : evS (.stk i k e) ρ S = (M.bnd (evE e) (fun y => stkM i k y.d)) ρ S := rfl
@[simp] theorem vs_drop (e : IE) : evS (.drop e) ρ S = (M.bnd (evE e) (fun _ => M.ret .nx)) ρ S := rfl
@[simp] theorem vs_ret (e : IE) : evS (.ret e) ρ S = (M.bnd (evE e) (fun sv => M.ret (.ret sv))) ρ S := rfl
@[simp] theorem vs_retv (i : Nat) : evS (.retv i) ρ S = (retvM i) ρ S := rfl
@[simp] theorem vs_retN : evS .retN ρ S = (M.ret (.ret (.im .non))) ρ S := rfl
@[simp] theorem vs_ite (t : IC) (a b : List IS) : evS (.ite t a b) ρ S = (M.bnd (evT t) (fun k => if k then evSs a else evSs b)) ρ S := rfl
@[simp] theorem vs_for (tg : IT) (it : II) (body : List IS) : evS (.for_ tg it body) ρ S = (M.bnd (evI it) (fun items => forLoop tg (evSs body) items)) ρ S := rfl
@[simp] theorem vs_whl (n : Nat) (body : List IS) : evS (.whl n body) ρ S = (whlLoop (evSs body) n) ρ S := rfl
@[simp] theorem vs_brk : evS .brk ρ S = (M.ret .brk) ρ S := rfl
@[simp] theorem vs_cnt : evS .cnt ρ S = (M.ret .cnt) ρ S := rfl
@[simp] theorem vs_pass : evS .pass ρ S = (M.ret .nx) ρ S := rfl
@[simp] theorem vs_pset (i k : Nat) (e : IE) : evS (.pset i k e) ρ S = (M.bnd (evE e) (fun y => psetM i k y.d)) ρ S := rfl
@[simp] theorem vs_stks (i : Nat) (ks : List Nat) (es : List IE) : evS (.stks i ks es) ρ S = (M.bnd (evEs es) (fun svs => stksM i ks (svs.map SV.d))) ρ S := rfl
@[simp] theorem vs_rs (c n : Nat) (es : List IE) : evS (.rs c n es) ρ S = (M.bnd (evEs es) (rsM c n)) ρ S := rfl
@[simp] theorem vss_nil : evSs [] ρ S = (M.ret .nx) ρ S := rfl
@[simp] theorem vss_cons (s : IS) (ss : List IS) : evSs (s :: ss) ρ S = (M.bnd (evS s) (fun f => match f with
    | .nx => evSs ss
    | f => M.ret f)) ρ S := rfl
end
/-! ### what a step leads to -/
def wp {α : Type} (x : M α) (Q : α → Rho → PenSt → Prop) (ρ : Rho) (S : PenSt) : Prop := match x ρ S with
  | .ok a ρ' S' => Q a ρ' S'
  | _ => False
section
variable {α β : Type} {ρ ρ' : Rho} {S : PenSt} {Q : α → Rho → PenSt → Prop}
theorem wp_congr {x x' : M α} (h : x = x') (h2 : ρ = ρ') : wp x Q ρ S = wp x' Q ρ' S := by rw [h, h2]
@[simp] theorem wp_bnd {f : β → M α} {x : M β} : wp (M.bnd x f) Q ρ S = wp x (fun a ρ' S' => wp (f a) Q ρ' S') ρ S := by
  unfold wp M.bnd
  cases x ρ S <;> rfl
@[simp] theorem wp_ret {a : α} : wp (M.ret a) Q ρ S = Q a ρ S := rfl
@[simp] theorem wp_bad : wp M.bad Q ρ S = False := rfl
@[simp] theorem wp_opt_s {a : α} : wp (M.opt (some a)) Q ρ S = Q a ρ S := rfl
@[simp] theorem wp_opt_n : wp (M.opt none) Q ρ S = False := rfl
@[simp] theorem wp_ite {c : Prop} [Decidable c] {x y : M α} : wp (if c then x else y) Q ρ S = if c then wp x Q ρ S else wp y Q ρ S := by split <;> rfl
theorem wp_mono {x : M α} {R : α → Rho → PenSt → Prop} (h : wp x Q ρ S) (m : ∀ a ρ' S', Q a ρ' S' → R a ρ' S') : wp x R ρ S := by
  unfold wp at *
  split at h
  · exact m _ _ _ h
  · exact h.elim
end
section
variable {ρ : Rho} {S : PenSt} {Q : SV → Rho → PenSt → Prop} {R : Flow' → Rho → PenSt → Prop} {U : Unit → Rho → PenSt → Prop}
@[simp] theorem wp_getV {i : Nat} : wp (getV i) Q ρ S = match ρ[i]? with
  | some (some sv) => Q (.im sv.d) (ρ.set i (some (.im sv.d))) S
  | _ => False := by
  unfold wp getV
  cases e : ρ[i]? with
  | none => rfl
  | some o => cases o with
    | none => rfl
    | some sv => cases sv <;> try rfl
                 rename_i d
                 have : ρ.set i (some (.im d)) = ρ := by
                   apply List.ext_getElem? 
                   intro k
                   by_cases q : i = k
                   · subst q
                     rw [List.getElem?_set_self (List.getElem?_eq_some_iff.mp e).1, e]
                   · rw [List.getElem?_set_ne q]
                 show _ = Q (.im d) (ρ.set i (some (.im d))) S
                 rw [this]
@[simp] theorem wp_setSV {i : Nat} {sv : SV} : wp (setSV i sv) U ρ S = (i < ρ.length ∧ U () (ρ.set i (some sv)) S) := by
  unfold wp setSV
  by_cases h : i < ρ.length <;> simp [h]
@[simp] theorem wp_callM {F : DFun} {ds : List D} : wp (callM F ds) Q ρ S = match F ds S with
  | .ok sv S' => Q sv ρ S'
  | _ => False := by
  unfold wp callM
  cases F ds S <;> rfl
@[simp] theorem wp_ownThen {α : Type} {i : Nat} {f : M α} {Q : α → Rho → PenSt → Prop} : wp (ownThen i f) Q ρ S = match ρ[i]? with
  | some (some (.ow _)) => wp f Q ρ S
  | _ => False := by
  unfold wp ownThen
  cases ρ[i]? with
  | none => rfl
  | some o => cases o with
    | none => rfl
    | some sv => cases sv <;> try rfl
@[simp] theorem wp_lenvM {i : Nat} : wp (lenvM i) Q ρ S = match ρ[i]? with
  | some (some (.ow xs)) => Q (.im (.int xs.length)) ρ S
  | some (some (.im (.lst xs))) => Q (.im (.int xs.length)) ρ S
  | some (some (.im (.tup xs))) => Q (.im (.int xs.length)) ρ S
  | _ => False := by
  unfold wp lenvM
  cases ρ[i]? with
  | none => rfl
  | some o => cases o with
    | none => rfl
    | some sv => cases sv <;> try rfl
                 rename_i d
                 cases d <;> rfl
@[simp] theorem wp_ixvM {i : Nat} {y : SV} : wp (ixvM i y) Q ρ S = match ρ[i]?, y.d with
  | some (some (.ow xs)), .int k => (match atI xs k with
    | some d => Q (.im d) ρ S
    | none => False)
  | _, _ => False := by
  unfold wp ixvM
  cases ρ[i]? with
  | none => rfl
  | some o => cases o with
    | none => rfl
    | some sv => cases sv <;> try rfl
                 cases y.d <;> try rfl
                 rename_i xs k
                 dsimp only
                 cases atI xs k <;> rfl
@[simp] theorem wp_ixM {i : Nat} {f : M SV} : wp (ixM i f) Q ρ S = match ρ[i]? with
  | some (some (.ow _)) => wp f (fun y ρ' S' => wp (ixvM i y) Q ρ' S') ρ S
  | some (some (.im d)) => wp f (fun y ρ' S' => wp (M.opt (ixD d y.d)) (fun d => Q (.im d)) ρ' S') ρ S
  | _ => wp (M.bnd (getV i) (fun x => M.bnd f fun y => M.bnd (M.opt (ixD x.d y.d)) fun d => M.ret (.im d))) Q ρ S := by
  cases e : ρ[i]? with
  | none =>
    have : ixM i f ρ S = M.bnd (getV i) (fun x => M.bnd f fun y => M.bnd (M.opt (ixD x.d y.d)) fun d => M.ret (.im d)) ρ S := by unfold ixM; rw [e]
    unfold wp
    rw [this]
  | some o => cases o with
    | none =>
      have : ixM i f ρ S = M.bnd (getV i) (fun x => M.bnd f fun y => M.bnd (M.opt (ixD x.d y.d)) fun d => M.ret (.im d)) ρ S := by unfold ixM; rw [e]
      unfold wp
      rw [this]
    | some sv => cases sv with
      | ow xs =>
        have : ixM i f ρ S = M.bnd f (ixvM i) ρ S := by unfold ixM ownThen; simp only [e]
        show _ = wp f (fun y ρ' S' => wp (ixvM i y) Q ρ' S') ρ S
        rw [← wp_bnd]
        conv => lhs; unfold wp; rw [this]
        rfl
      | im d =>
        have : ixM i f ρ S = M.bnd f (fun y => M.bnd (M.opt (ixD d y.d)) fun d => M.ret (.im d)) ρ S := by
          unfold ixM
          rw [e]
          show M.bnd (getV i) _ ρ S = _
          unfold M.bnd getV
          rw [e]
          rfl
        show _ = wp f (fun y ρ' S' => wp (M.opt (ixD d y.d)) (fun d => Q (.im d)) ρ' S') ρ S
        have r : wp f (fun y ρ' S' => wp (M.opt (ixD d y.d)) (fun d => Q (.im d)) ρ' S') ρ S = wp (M.bnd f (fun y => M.bnd (M.opt (ixD d y.d)) fun d => M.ret (.im d))) Q ρ S := by
          rw [wp_bnd]
          congr 1
          funext y ρ' S'
          rw [wp_bnd]
          rfl
        rw [r]
        conv => lhs; unfold wp; rw [this]
        rfl
      | od kvs =>
        have : ixM i f ρ S = M.bnd (getV i) (fun x => M.bnd f fun y => M.bnd (M.opt (ixD x.d y.d)) fun d => M.ret (.im d)) ρ S := by unfold ixM; rw [e]
        unfold wp
        rw [this]
@[simp] theorem wp_popM {i : Nat} {y : SV} : wp (popM i y) Q ρ S = match ρ[i]?, y.d with
  | some (some (.ow xs)), .int k => if 0 ≤ k ∧ k < xs.length ∧ xs.length ≤ 100000 then (match xs[k.toNat]? with
      | some d => Q (.im d) (ρ.set i (some (.ow (xs.eraseIdx k.toNat)))) S
      | none => False) else False
  | _, _ => False := by
  unfold wp popM
  cases ρ[i]? with
  | none => rfl
  | some o => cases o with
    | none => rfl
    | some sv => cases sv <;> try rfl
                 cases y.d <;> try rfl
                 rename_i xs k
                 dsimp only
                 by_cases h : 0 ≤ k ∧ k < xs.length ∧ xs.length ≤ 100000
                 · rw [if_pos h, if_pos h]
                   cases xs[k.toNat]? <;> rfl
                 · rw [if_neg h, if_neg h]
@[simp] theorem wp_keyvM {i k : Nat} : wp (keyvM i k) Q ρ S = match ρ[i]? with
  | some (some (.od kvs)) => (match kvs.lookup k with
    | some d => Q (.im d) ρ S
    | none => False)
  | _ => False := by
  unfold wp keyvM
  cases ρ[i]? with
  | none => rfl
  | some o => cases o with
    | none => rfl
    | some sv => cases sv <;> try rfl
                 rename_i kvs
                 dsimp only
                 cases kvs.lookup k <;> rfl
@[simp] theorem wp_asgTM {ts : List IT} {sv : SV} : wp (asgTM ts sv) R ρ S = match asgT (.tp ts) sv.d ρ with
  | some ρ' => R .nx ρ' S
  | none => False := by
  unfold wp asgTM
  cases asgT (.tp ts) sv.d ρ <;> rfl
@[simp] theorem wp_augM {i : Nat} {x : M SV} : wp (augM i x) R ρ S = match ρ[i]? with
  | some (some (.im (.int a))) => wp x (fun y ρ' S' => match y.d with
      | .int b => i < ρ'.length ∧ R .nx (ρ'.set i (some (.im (.int (a + b))))) S'
      | _ => False) ρ S
  | _ => False := by
  have e : augM i x ρ S = (match ρ[i]? with
    | some (some (.im (.int a))) => M.bnd x (fun y => match y.d with
      | .int b => M.bnd (setSV i (.im (.int (a + b)))) fun _ => M.ret .nx
      | _ => M.bad) ρ S
    | _ => .bad) := rfl
  conv => lhs; unfold wp; rw [e]
  cases ρ[i]? with
  | none => rfl
  | some o => cases o with
    | none => rfl
    | some sv => cases sv <;> try rfl
                 rename_i d
                 cases d <;> try rfl
                 rename_i a
                 show wp (M.bnd x _) R ρ S = _
                 rw [wp_bnd]
                 congr 1
                 funext y ρ' S'
                 cases y.d <;> try rfl
                 rw [wp_bnd, wp_setSV]
                 rfl
@[simp] theorem wp_appM {i : Nat} {y : SV} : wp (appM i y) R ρ S = match ρ[i]? with
  | some (some (.ow xs)) => (xs.length < 100000 ∧ R .nx (ρ.set i (some (.ow (xs ++ [y.d])))) S)
  | _ => False := by
  unfold wp appM
  cases ρ[i]? with
  | none => rfl
  | some o => cases o with
    | none => rfl
    | some sv => cases sv <;> try rfl
                 rename_i xs
                 dsimp only
                 by_cases h : xs.length < 100000 <;> simp [h]
@[simp] theorem wp_stoM {i : Nat} {y kk : SV} : wp (stoM i y kk) R ρ S = match ρ[i]?, kk.d with
  | some (some (.ow xs)), .int k => (match ixN xs.length k with
      | some j => R .nx (ρ.set i (some (.ow (xs.set j y.d)))) S
      | none => False)
  | _, _ => False := by
  unfold wp stoM
  cases ρ[i]? with
  | none => rfl
  | some o => cases o with
    | none => rfl
    | some sv => cases sv <;> try rfl
                 cases kk.d <;> try rfl
                 rename_i xs k
                 dsimp only
                 cases ixN xs.length k <;> rfl
@[simp] theorem wp_retvM {i : Nat} : wp (retvM i) R ρ S = match ρ[i]? with
  | some (some sv) => R (.ret sv) ρ S
  | _ => False := by
  unfold wp retvM
  cases ρ[i]? with
  | none => rfl
  | some o => cases o <;> rfl
theorem wp_boolM {x : M SV} {B : Bool → Rho → PenSt → Prop} : wp (boolM x) B ρ S = wp x (fun sv ρ' S' => match sv with
  | .im (.bl b) => B b ρ' S'
  | _ => False) ρ S := by
  unfold boolM
  rw [wp_bnd]
  congr 1
  funext sv ρ' S'
  cases sv <;> try rfl
  rename_i d
  cases d <;> rfl
end
@[simp] theorem vg_nm {i : Nat} {d : D} {ρ : Rho} : asgT (.nm i) d ρ = if i < ρ.length then some (ρ.set i (some (.im d))) else none := rfl
@[simp] theorem vg_tp {ts : List IT} {ds : List D} {ρ : Rho} : asgT (.tp ts) (.tup ds) ρ = asgTs ts ds ρ := rfl
@[simp] theorem vg_nil {ρ : Rho} : asgTs [] [] ρ = some ρ := rfl
@[simp] theorem vg_cons {t : IT} {ts : List IT} {d : D} {ds : List D} {ρ : Rho} : asgTs (t :: ts) (d :: ds) ρ = match asgT t d ρ with
    | some ρ' => asgTs ts ds ρ'
    | none => none := rfl
@[simp] theorem sv_im (d : D) : (SV.im d).d = d := rfl
@[simp] theorem sv_ow (xs : List D) : (SV.ow xs).d = .lst xs := rfl
@[simp] theorem sv_od (kvs : List (Nat × D)) : (SV.od kvs).d = .dct kvs := rfl
section
variable {ρ : Rho} {S : PenSt}
@[simp] theorem we_var (i : Nat) {Q : _ → Rho → PenSt → Prop} : wp (evE (.var i)) Q ρ S = wp (getV i) Q ρ S := rfl
@[simp] theorem we_cst (d : D) {Q : _ → Rho → PenSt → Prop} : wp (evE (.cst d)) Q ρ S = wp (M.ret (.im d)) Q ρ S := rfl
@[simp] theorem we_tup (es : List IE) {Q : _ → Rho → PenSt → Prop} : wp (evE (.tup es)) Q ρ S = wp (M.bnd (evEs es) (fun svs => M.ret (.im (.tup (svs.map SV.d))))) Q ρ S := rfl
@[simp] theorem we_lst (es : List IE) {Q : _ → Rho → PenSt → Prop} : wp (evE (.lst es)) Q ρ S = wp (M.bnd (evEs es) (fun svs => M.ret (.ow (svs.map SV.d)))) Q ρ S := rfl
@[simp] theorem we_dct (ks : List Nat) (es : List IE) {Q : _ → Rho → PenSt → Prop} : wp (evE (.dct ks es)) Q ρ S = wp (M.bnd (evEs es) (fun svs => if ks.length = svs.length ∧ svs.length ≤ 15 ∧ ks.Nodup then M.ret (.od (ks.zip (svs.map SV.d))) else M.bad)) Q ρ S := rfl
@[simp] theorem we_bin (o : BOp) (a b : IE) {Q : _ → Rho → PenSt → Prop} : wp (evE (.bin o a b)) Q ρ S = wp (M.bnd (evE a) (fun x => M.bnd (evE b) fun y => M.opt (binD o x.d y.d))) Q ρ S := rfl
@[simp] theorem we_neg (a : IE) {Q : _ → Rho → PenSt → Prop} : wp (evE (.neg a)) Q ρ S = wp (M.bnd (evE a) (fun x => match x.d with
    | .int i => M.ret (.im (.int (-i)))
    | _ => M.bad)) Q ρ S := rfl
@[simp] theorem we_not (a : IC) {Q : _ → Rho → PenSt → Prop} : wp (evE (.not a)) Q ρ S = wp (M.bnd (evT a) (fun b => M.ret (.im (.bl (!b))))) Q ρ S := rfl
@[simp] theorem we_cmp (o : COp) (a b : IE) {Q : _ → Rho → PenSt → Prop} : wp (evE (.cmp o a b)) Q ρ S = wp (M.bnd (evE a) (fun x => M.bnd (evE b) fun y => M.bnd (M.opt (cmpD o x.d y.d)) fun k => M.ret (.im (.bl k)))) Q ρ S := rfl
@[simp] theorem we_chn (o o' : COp) (a b c : IE) {Q : _ → Rho → PenSt → Prop} : wp (evE (.chn o o' a b c)) Q ρ S = wp (M.bnd (evE a) (fun x => M.bnd (evE b) fun y => M.bnd (M.opt (cmpD o x.d y.d)) fun k => if k then M.bnd (evE c) fun z => M.bnd (M.opt (cmpD o' y.d z.d)) fun k' => M.ret (.im (.bl k')) else M.ret (.im (.bl false)))) Q ρ S := rfl
@[simp] theorem we_and (a b : IE) {Q : _ → Rho → PenSt → Prop} : wp (evE (.and a b)) Q ρ S = wp (M.bnd (boolM (evE a)) (fun k => if k then evE b else M.ret (.im (.bl false)))) Q ρ S := rfl
@[simp] theorem we_or (a b : IE) {Q : _ → Rho → PenSt → Prop} : wp (evE (.or a b)) Q ρ S = wp (M.bnd (boolM (evE a)) (fun k => if k then M.ret (.im (.bl true)) else evE b)) Q ρ S := rfl
@[simp] theorem we_ife (t : IC) (a b : IE) {Q : _ → Rho → PenSt → Prop} : wp (evE (.ife t a b)) Q ρ S = wp (M.bnd (evT t) (fun k => if k then evE a else evE b)) Q ρ S := rfl
@[simp] theorem we_ix (a i : IE) {Q : _ → Rho → PenSt → Prop} : wp (evE (.ix a i)) Q ρ S = wp (M.bnd (evE a) (fun x => M.bnd (evE i) fun y => M.bnd (M.opt (ixD x.d y.d)) fun d => M.ret (.im d))) Q ρ S := rfl
@[simp] theorem we_key (a : IE) (k : Nat) {Q : _ → Rho → PenSt → Prop} : wp (evE (.key a k)) Q ρ S = wp (M.bnd (evE a) (fun x => M.bnd (M.opt (keyD x.d k)) fun d => M.ret (.im d))) Q ρ S := rfl
@[simp] theorem we_slc (a : IE) (lo hi : Option IE) {Q : _ → Rho → PenSt → Prop} : wp (evE (.slc a lo hi)) Q ρ S = wp (M.bnd (evE a) (fun x => M.bnd (evO lo) fun l => M.bnd (evO hi) fun h => M.opt (slcD x.d l h))) Q ρ S := rfl
@[simp] theorem we_atr (a : IE) (ps : List (Nat × Nat)) {Q : _ → Rho → PenSt → Prop} : wp (evE (.atr a ps)) Q ρ S = wp (M.bnd (evE a) (fun x => M.bnd (M.opt (atrD x.d ps)) fun d => M.ret (.im d))) Q ρ S := rfl
@[simp] theorem we_call (F : DFun) (es : List IE) {Q : _ → Rho → PenSt → Prop} : wp (evE (.call F es)) Q ρ S = wp (M.bnd (evEs es) (fun svs => callM F (svs.map SV.d))) Q ρ S := rfl
@[simp] theorem we_isi (e : IE) (ts : List Ty) {Q : _ → Rho → PenSt → Prop} : wp (evE (.isi e ts)) Q ρ S = wp (M.bnd (evE e) (fun x => M.bnd (M.opt (isTys x.d ts)) fun k => M.ret (.im (.bl k)))) Q ρ S := rfl
@[simp] theorem we_cmpr (own : List Nat) (tg : IT) (it : II) (ifs : List IC) (elt : IE) {Q : _ → Rho → PenSt → Prop} : wp (evE (.cmpr own tg it ifs elt)) Q ρ S = wp (M.bnd (evI it) (fun items => M.bnd (compLoop own tg (evTs ifs) (evE elt) items []) fun xs => M.ret (.ow xs))) Q ρ S := rfl
@[simp] theorem we_lenv (i : Nat) {Q : _ → Rho → PenSt → Prop} : wp (evE (.lenv i)) Q ρ S = wp (lenvM i) Q ρ S := rfl
@[simp] theorem we_ixv (i : Nat) (e : IE) {Q : _ → Rho → PenSt → Prop} : wp (evE (.ixv i e)) Q ρ S = wp (ixM i (evE e)) Q ρ S := rfl
@[simp] theorem we_pop (i : Nat) (e : IE) {Q : _ → Rho → PenSt → Prop} : wp (evE (.pop i e)) Q ρ S = wp (ownThen i (M.bnd (evE e) (popM i))) Q ρ S := rfl
@[simp] theorem we_keyv (i k : Nat) {Q : _ → Rho → PenSt → Prop} : wp (evE (.keyv i k)) Q ρ S = wp (keyvM i k) Q ρ S := rfl
@[simp] theorem we_unf (i : Nat) (e : IE) {Q : _ → Rho → PenSt → Prop} : wp (evE (.unf i e)) Q ρ S = wp (unfM i (evE e)) Q ρ S := rfl
@[simp] theorem we_pget (i k : Nat) {Q : _ → Rho → PenSt → Prop} : wp (evE (.pget i k)) Q ρ S = wp (pgetM i k) Q ρ S := rfl
@[simp] theorem we_rngL (t : Bool) (a : IE) {Q : _ → Rho → PenSt → Prop} : wp (evE (.rngL t a)) Q ρ S = wp (M.bnd (evE a) (fun x => match x.d with
    | .int j => if j ≤ 100000 ∧ -100000 ≤ j then M.ret (if t then .im (.tup (rngL 0 j.toNat)) else .ow (rngL 0 j.toNat)) else M.bad
    | _ => M.bad)) Q ρ S := rfl
@[simp] theorem we_bitlen (e : IE) {Q : _ → Rho → PenSt → Prop} : wp (evE (.bitlen e)) Q ρ S = wp (M.bnd (evE e) (fun x => match x.d with
    | .int i => M.ret (.im (.int (if i = 0 then 0 else i.natAbs.log2 + 1)))
    | _ => M.bad)) Q ρ S := rfl
@[simp] theorem we_nil {Q : _ → Rho → PenSt → Prop} : wp (evEs []) Q ρ S = wp (M.ret []) Q ρ S := rfl
@[simp] theorem we_cons (e : IE) (es : List IE) {Q : _ → Rho → PenSt → Prop} : wp (evEs (e :: es)) Q ρ S = wp (M.bnd (evE e) (fun x => M.bnd (evEs es) fun xs => M.ret (x :: xs))) Q ρ S := rfl
@[simp] theorem we_o0 {Q : _ → Rho → PenSt → Prop} : wp (evO none) Q ρ S = wp (M.ret none) Q ρ S := rfl
@[simp] theorem we_o1 (e : IE) {Q : _ → Rho → PenSt → Prop} : wp (evO (some e)) Q ρ S = wp (M.bnd (evE e) (fun x => match x.d with
    | .int i => M.ret (some i)
    | _ => M.bad)) Q ρ S := rfl
@[simp] theorem wt_and (a b : IC) {Q : _ → Rho → PenSt → Prop} : wp (evT (.and a b)) Q ρ S = wp (M.bnd (evT a) (fun k => if k then evT b else M.ret false)) Q ρ S := rfl
@[simp] theorem wt_or (a b : IC) {Q : _ → Rho → PenSt → Prop} : wp (evT (.or a b)) Q ρ S = wp (M.bnd (evT a) (fun k => if k then M.ret true else evT b)) Q ρ S := rfl
@[simp] theorem wt_not (a : IC) {Q : _ → Rho → PenSt → Prop} : wp (evT (.not a)) Q ρ S = wp (M.bnd (evT a) (fun b => M.ret (!b))) Q ρ S := rfl
@[simp] theorem wt_tst (e : IE) {Q : _ → Rho → PenSt → Prop} : wp (evT (.tst e)) Q ρ S = wp (M.bnd (evE e) (fun sv => M.opt (truD sv.d))) Q ρ S := rfl
@[simp] theorem wts_nil {Q : _ → Rho → PenSt → Prop} : wp (evTs []) Q ρ S = wp (M.ret true) Q ρ S := rfl
@[simp] theorem wts_cons (e : IC) (es : List IC) {Q : _ → Rho → PenSt → Prop} : wp (evTs (e :: es)) Q ρ S = wp (M.bnd (evT e) (fun k => if k then evTs es else M.ret false)) Q ρ S := rfl
@[simp] theorem wi_seq (e : IE) {Q : _ → Rho → PenSt → Prop} : wp (evI (.seq e)) Q ρ S = wp (M.bnd (evE e) (fun x => M.opt x.d.items)) Q ρ S := rfl
@[simp] theorem wi_rng1 (a : IE) {Q : _ → Rho → PenSt → Prop} : wp (evI (.rng1 a)) Q ρ S = wp (M.bnd (evE a) (fun x => match x.d with
    | .int j => if j ≤ 100000 ∧ -100000 ≤ j then M.ret (rngL 0 j.toNat) else M.bad
    | _ => M.bad)) Q ρ S := rfl
@[simp] theorem wi_rng2 (a b : IE) {Q : _ → Rho → PenSt → Prop} : wp (evI (.rng2 a b)) Q ρ S = wp (M.bnd (evE a) (fun x => M.bnd (evE b) fun y => match x.d, y.d with
    | .int i, .int j => if j ≤ 100000 ∧ -100000 ≤ j ∧ i ≤ 100000 ∧ -100000 ≤ i then M.ret (rngL i (j - i).toNat) else M.bad
    | _, _ => M.bad)) Q ρ S := rfl
@[simp] theorem wi_enm (e : IE) {Q : _ → Rho → PenSt → Prop} : wp (evI (.enm e)) Q ρ S = wp (M.bnd (evE e) (fun x => M.bnd (M.opt x.d.items) fun ds => M.ret (enmL 0 ds))) Q ρ S := rfl
@[simp] theorem wi_zip2 (a b : IE) {Q : _ → Rho → PenSt → Prop} : wp (evI (.zip2 a b)) Q ρ S = wp (M.bnd (evE a) (fun x => M.bnd (evE b) fun y => M.bnd (M.opt x.d.items) fun ds => M.bnd (M.opt y.d.items) fun es => M.ret (zip2L ds es))) Q ρ S := rfl
@[simp] theorem wi_zip3 (a b c : IE) {Q : _ → Rho → PenSt → Prop} : wp (evI (.zip3 a b c)) Q ρ S = wp (M.bnd (evE a) (fun x => M.bnd (evE b) fun y => M.bnd (evE c) fun z => M.bnd (M.opt x.d.items) fun ds => M.bnd (M.opt y.d.items) fun es => M.bnd (M.opt z.d.items) fun fs => M.ret (zip3L ds es fs))) Q ρ S := rfl
@[simp] theorem ws_asgN (i : Nat) (e : IE) {Q : _ → Rho → PenSt → Prop} : wp (evS (.asg (.nm i) e)) Q ρ S = wp (M.bnd (evE e) (fun sv => M.bnd (setSV i sv) fun _ => M.ret .nx)) Q ρ S := rfl
@[simp] theorem ws_asgT (ts : List IT) (e : IE) {Q : _ → Rho → PenSt → Prop} : wp (evS (.asg (.tp ts) e)) Q ρ S = wp (M.bnd (evE e) (asgTM ts)) Q ρ S := rfl
@[simp] theorem ws_par (is : List Nat) (es : List IE) {Q : _ → Rho → PenSt → Prop} : wp (evS (.par is es)) Q ρ S = wp (M.bnd (evEs es) (fun svs => M.bnd (asgs is svs) fun _ => M.ret .nx)) Q ρ S := rfl
@[simp] theorem ws_aug (i : Nat) (e : IE) {Q : _ → Rho → PenSt → Prop} : wp (evS (.aug i e)) Q ρ S = wp (augM i (evE e)) Q ρ S := rfl
@[simp] theorem ws_app (i : Nat) (e : IE) {Q : _ → Rho → PenSt → Prop} : wp (evS (.app i e)) Q ρ S = wp (ownThen i (M.bnd (evE e) (appM i))) Q ρ S := rfl
@[simp] theorem ws_sto (i : Nat) (k e : IE) {Q : _ → Rho → PenSt → Prop} : wp (evS (.sto i k e)) Q ρ S = wp (M.bnd (evE e) (fun y => ownThen i (M.bnd (evE k) (stoM i y)))) Q ρ S := rfl
@[simp] theorem ws_stk (i k : Nat) (e : IE) {Q : _ → Rho → PenSt → Prop} : wp (evS (.stk i k e)) Q ρ S = wp (M.bnd (evE e) (fun y => stkM i k y.d)) Q ρ S := rfl
@[simp] theorem ws_drop (e : IE) {Q : _ → Rho → PenSt → Prop} : wp (evS (.drop e)) Q ρ S = wp (M.bnd (evE e) (fun _ => M.ret .nx)) Q ρ S := rfl
@[simp] theorem ws_ret (e : IE) {Q : _ → Rho → PenSt → Prop} : wp (evS (.ret e)) Q ρ S = wp (M.bnd (evE e) (fun sv => M.ret (.ret sv))) Q ρ S := rfl
@[simp] theorem ws_retv (i : Nat) {Q : _ → Rho → PenSt → Prop} : wp (evS (.retv i)) Q ρ S = wp (retvM i) Q ρ S := rfl
@[simp] theorem ws_retN {Q : _ → Rho → PenSt → Prop} : wp (evS .retN) Q ρ S = wp (M.ret (.ret (.im .non))) Q ρ S := rfl
@[simp] theorem ws_ite (t : IC) (a b : List IS) {Q : _ → Rho → PenSt → Prop} : wp (evS (.ite t a b)) Q ρ S = wp (M.bnd (evT t) (fun k => if k then evSs a else evSs b)) Q ρ S := rfl
@[simp] theorem ws_for (tg : IT) (it : II) (body : List IS) {Q : _ → Rho → PenSt → Prop} : wp (evS (.for_ tg it body)) Q ρ S = wp (M.bnd (evI it) (fun items => forLoop tg (evSs body) items)) Q ρ S := rfl
@[simp] theorem ws_whl (n : Nat) (body : List IS) {Q : _ → Rho → PenSt → Prop} : wp (evS (.whl n body)) Q ρ S = wp (whlLoop (evSs body) n) Q ρ S := rfl
@[simp] theorem ws_brk {Q : _ → Rho → PenSt → Prop} : wp (evS .brk) Q ρ S = wp (M.ret .brk) Q ρ S := rfl
@[simp] theorem ws_cnt {Q : _ → Rho → PenSt → Prop} : wp (evS .cnt) Q ρ S = wp (M.ret .cnt) Q ρ S := rfl
@[simp] theorem ws_pass {Q : _ → Rho → PenSt → Prop} : wp (evS .pass) Q ρ S = wp (M.ret .nx) Q ρ S := rfl
@[simp] theorem ws_pset (i k : Nat) (e : IE) {Q : _ → Rho → PenSt → Prop} : wp (evS (.pset i k e)) Q ρ S = wp (M.bnd (evE e) (fun y => psetM i k y.d)) Q ρ S := rfl
@[simp] theorem ws_stks (i : Nat) (ks : List Nat) (es : List IE) {Q : _ → Rho → PenSt → Prop} : wp (evS (.stks i ks es)) Q ρ S = wp (M.bnd (evEs es) (fun svs => stksM i ks (svs.map SV.d))) Q ρ S := rfl
@[simp] theorem ws_rs (c n : Nat) (es : List IE) {Q : _ → Rho → PenSt → Prop} : wp (evS (.rs c n es)) Q ρ S = wp (M.bnd (evEs es) (rsM c n)) Q ρ S := rfl
@[simp] theorem wss_nil {Q : _ → Rho → PenSt → Prop} : wp (evSs []) Q ρ S = wp (M.ret .nx) Q ρ S := rfl
@[simp] theorem wss_cons (s : IS) (ss : List IS) {Q : _ → Rho → PenSt → Prop} : wp (evSs (s :: ss)) Q ρ S = wp (M.bnd (evS s) (fun f => match f with
    | .nx => evSs ss
    | f => M.ret f)) Q ρ S := rfl
end
/-- a def's body, to what it tells -/
theorem fn_wp {n N : Nat} {body : List IS} {ds : List D} {S S1 : PenSt} {sv : SV} (hn : ds.length = n) (h : wp (evSs body) (fun f _ S' => f = .ret sv ∧ S' = S1) (ds.map (fun d => some (SV.im d)) ++ List.replicate (N - ds.length) none) S) : evD n N body ds S = .ok sv S1 := by
  unfold evD evF
  rw [if_pos hn]
  unfold wp at h
  split at h
  · rename_i f ρ' S' e
    rw [e]
    obtain ⟨rfl, rfl⟩ := h
    rfl
  · exact h.elim
/-- .. with what holds of it -/
def FQ (F : DFun) (ds : List D) (S : PenSt) (Q : SV → PenSt → Prop) : Prop := match F ds S with
  | .ok sv S' => Q sv S'
  | _ => False
theorem fn_FQ {n N : Nat} {body : List IS} {ds : List D} {S : PenSt} {Q : SV → PenSt → Prop} (hn : ds.length = n) (h : wp (evSs body) (fun f _ S' => match f with
    | .ret sv => Q sv S'
    | .nx => Q (.im .non) S'
    | _ => False) (ds.map (fun d => some (SV.im d)) ++ List.replicate (N - ds.length) none) S) : FQ (evD n N body) ds S Q := by
  unfold FQ evD evF
  rw [if_pos hn]
  unfold wp at h
  split at h
  · rename_i f ρ' S' e
    rw [e]
    cases f <;> first | exact h | exact h.elim
  · exact h.elim
theorem FQ.get {F : DFun} {ds : List D} {S : PenSt} {Q : SV → PenSt → Prop} (h : FQ F ds S Q) : ∃ sv S', F ds S = .ok sv S' ∧ Q sv S' := by
  unfold FQ at h
  split at h
  · exact ⟨_, _, by assumption, h⟩
  · exact h.elim
/-! ### loops -/
theorem wp_for {tg : IT} {body : M Flow'} {items : List D} {ρ : Rho} {S : PenSt} {R : Flow' → Rho → PenSt → Prop} (I : Nat → Rho → PenSt → Prop) (h : I 0 ρ S)
    (st : ∀ k d ρ S, items[k]? = some d → I k ρ S → ∃ ρ1, asgT tg d ρ = some ρ1 ∧ wp body (fun f ρ2 S2 => f = .nx ∧ I (k + 1) ρ2 S2) ρ1 S) (q : ∀ ρ' S', I items.length ρ' S' → R .nx ρ' S') : wp (forLoop tg body items) R ρ S := by
  have main : ∀ (items : List D) (n : Nat) (ρ : Rho) (S : PenSt), I n ρ S → (∀ k d ρ S, items[k]? = some d → I (n + k) ρ S → ∃ ρ1, asgT tg d ρ = some ρ1 ∧ wp body (fun f ρ2 S2 => f = .nx ∧ I (n + k + 1) ρ2 S2) ρ1 S) → (∀ ρ' S', I (n + items.length) ρ' S' → R .nx ρ' S') → wp (forLoop tg body items) R ρ S := fun items => by
    induction items with
    | nil => exact fun n ρ S h _ q => q ρ S h
    | cons d ds ih =>
      intro n ρ S h st q
      obtain ⟨ρ1, h1, h2⟩ := st 0 d ρ S rfl h
      unfold wp forLoop
      rw [h1]
      dsimp only
      unfold wp at h2
      split at h2
      · rename_i f ρ2 S2 e
        rw [e]
        obtain ⟨rfl, h3⟩ := h2
        refine ih (n + 1) ρ2 S2 h3 (fun k d ρ S hk hI => ?_) (fun ρ' S' hI => q ρ' S' (by rw [List.length_cons, ← Nat.add_assoc, Nat.add_right_comm]; exact hI))
        have e : n + 1 + k = n + (k + 1) := by omega
        rw [e] at hI ⊢
        exact st (k + 1) d ρ S (by simpa using hk) hI
      · exact h2.elim
  exact main items 0 ρ S h (fun k d ρ S hk hI => by rw [Nat.zero_add] at hI ⊢; exact st k d ρ S hk hI) (fun ρ' S' hI => q ρ' S' (by rw [Nat.zero_add] at hI; exact hI))
theorem wp_comp {own : List Nat} {tg : IT} {cond : M Bool} {elt : M SV} {items : List D} {ρ : Rho} {S : PenSt} {R : List D → Rho → PenSt → Prop} (I : Nat → Rho → PenSt → List D → Prop) (h : I 0 ρ S [])
    (st : ∀ k d ρ S acc, items[k]? = some d → I k ρ S acc → ∃ ρ1, asgT tg d (wipeE ρ own) = some ρ1 ∧ wp cond (fun b ρ2 S2 => if b = true then wp elt (fun sv ρ3 S3 => I (k + 1) (wipeE ρ3 own) S3 (acc ++ [sv.d])) ρ2 S2 else I (k + 1) (wipeE ρ2 own) S2 acc) ρ1 S)
    (q : ∀ xs ρ' S', I items.length ρ' S' xs → R xs ρ' S') : wp (compLoop own tg cond elt items []) R ρ S := by
  have main : ∀ (items : List D) (n : Nat) (ρ : Rho) (S : PenSt) (acc : List D), I n ρ S acc → (∀ k d ρ S acc, items[k]? = some d → I (n + k) ρ S acc → ∃ ρ1, asgT tg d (wipeE ρ own) = some ρ1 ∧ wp cond (fun b ρ2 S2 => if b = true then wp elt (fun sv ρ3 S3 => I (n + k + 1) (wipeE ρ3 own) S3 (acc ++ [sv.d])) ρ2 S2 else I (n + k + 1) (wipeE ρ2 own) S2 acc) ρ1 S) →
      (∀ xs ρ' S', I (n + items.length) ρ' S' xs → R xs ρ' S') → wp (compLoop own tg cond elt items acc) R ρ S := fun items => by
    induction items with
    | nil => exact fun n ρ S acc h _ q => q acc ρ S h
    | cons d ds ih =>
      intro n ρ S acc h st q
      obtain ⟨ρ1, h1, h2⟩ := st 0 d ρ S acc rfl h
      have next : ∀ ρ S acc, I (n + 1) ρ S acc → wp (compLoop own tg cond elt ds acc) R ρ S := fun ρ S acc hI => by
        refine ih (n + 1) ρ S acc hI (fun k d ρ S acc hk hI => ?_) (fun xs ρ' S' hI => q xs ρ' S' (by rw [List.length_cons, ← Nat.add_assoc, Nat.add_right_comm]; exact hI))
        have e : n + 1 + k = n + (k + 1) := by omega
        rw [e] at hI ⊢
        exact st (k + 1) d ρ S acc (by simpa using hk) hI
      unfold wp compLoop
      rw [h1]
      dsimp only
      unfold wp at h2
      split at h2
      · rename_i b ρ2 S2 e
        rw [e]
        cases b with
        | false => exact next _ _ _ (by simpa using h2)
        | true =>
          rw [if_pos rfl] at h2
          split at h2
          · rename_i sv ρ3 S3 e2
            dsimp only
            rw [e2]
            exact next _ _ _ h2
          · exact h2.elim
      · exact h2.elim
  exact main items 0 ρ S [] h (fun k d ρ S acc hk hI => by rw [Nat.zero_add] at hI ⊢; exact st k d ρ S acc hk hI) (fun xs ρ' S' hI => q xs ρ' S' (by rw [Nat.zero_add] at hI; exact hI))
/-- a comprehension without effect: what passes, and what is made of it -/
theorem wp_map {α : Type} {own : List Nat} {tg : IT} {cond : M Bool} {elt : M SV} {L : List α} {enc : α → D} {ρ : Rho} {S : PenSt} {R : List D → Rho → PenSt → Prop} (p : α → Bool) (f : α → D) (P : Rho → Prop) (h : P ρ)
    (st : ∀ x ∈ L, ∀ ρ, P ρ → ∃ ρ1, asgT tg (enc x) (wipeE ρ own) = some ρ1 ∧ wp cond (fun b ρ2 S2 => b = p x ∧ S2 = S ∧ if p x = true then wp elt (fun sv ρ3 S3 => sv.d = f x ∧ S3 = S ∧ P (wipeE ρ3 own)) ρ2 S else P (wipeE ρ2 own)) ρ1 S)
    (q : ∀ ρ', P ρ' → R ((L.filter p).map f) ρ' S) : wp (compLoop own tg cond elt (L.map enc) []) R ρ S := by
  refine wp_comp (fun k ρ' S' acc => P ρ' ∧ S' = S ∧ acc = ((L.take k).filter p).map f) ⟨h, rfl, rfl⟩ (fun k d ρ' S' acc hk ⟨hP, hS, ha⟩ => ?_) (fun xs ρ' S' ⟨hP, hS, ha⟩ => ?_)
  · rw [List.getElem?_map, Option.map_eq_some_iff] at hk
    obtain ⟨x, hx, rfl⟩ := hk
    subst hS
    obtain ⟨ρ1, h1, h2⟩ := st x (List.mem_of_getElem? hx) ρ' hP
    refine ⟨ρ1, h1, wp_mono h2 fun b ρ2 S2 ⟨hb, hs, h3⟩ => ?_⟩
    have tk : L.take (k + 1) = L.take k ++ [x] := by
      rw [List.take_add_one, hx]
      rfl
    subst hb hs
    cases e : p x with
    | true =>
      rw [e, if_pos rfl] at h3
      rw [if_pos rfl]
      refine wp_mono h3 fun sv ρ3 S3 ⟨a, b, c⟩ => ⟨c, b, ?_⟩
      rw [ha, tk, List.filter_append, List.map_append, a]
      simp [e]
    | false =>
      rw [e, if_neg (by decide)] at h3
      rw [if_neg (by decide)]
      refine ⟨h3, rfl, ?_⟩
      rw [ha, tk, List.filter_append, List.map_append]
      simp [e]
  · subst hS
    rw [List.length_map, List.take_length] at ha
    rw [ha]
    exact q ρ' hP
theorem zip_map {α β : Type} {f : α → D} {g : β → D} : ∀ {xs : List α} {ys : List β}, zip2L (xs.map f) (ys.map g) = (xs.zip ys).map fun p => .tup [f p.1, g p.2]
  | [], _ => by cases ‹List β› <;> rfl
  | _ :: _, [] => rfl
  | x :: xs, y :: ys => by
    show _ :: zip2L _ _ = _
    rw [zip_map]
    rfl
theorem zip3_map {α β γ : Type} {f : α → D} {g : β → D} {h : γ → D} : ∀ {xs : List α} {ys : List β} {zs : List γ}, zip3L (xs.map f) (ys.map g) (zs.map h) = (xs.zip (ys.zip zs)).map fun p => .tup [f p.1, g p.2.1, h p.2.2]
  | [], _, _ => by rfl
  | _ :: _, [], _ => rfl
  | _ :: _, _ :: _, [] => rfl
  | x :: xs, y :: ys, z :: zs => by
    show _ :: zip3L _ _ _ = _
    rw [zip3_map]
    rfl
theorem enm_map {α : Type} {f : α → D} : ∀ {xs : List α} {k : Nat}, enmL k (xs.map f) = (xs.zipIdx k).map fun p => .tup [.int p.2, f p.1]
  | [], _ => rfl
  | x :: xs, k => by
    show _ :: enmL (k + 1) _ = _
    rw [enm_map]
    rfl
theorem rng_map {n : Nat} : rngL 0 n = (List.range n).map fun k => D.int (k : Nat) := by
  unfold rngL
  exact List.map_congr_left fun a _ => by rw [Int.zero_add]
end Pd
set_option Elab.async false
set_option linter.all false
set_option maxRecDepth 100000
set_option maxHeartbeats 1000000
namespace Pd
open PySem L2 Th
/-! ### ratios as data -/
def qD (q : Rat) : D := .tup [.int q.num, .int q.den]
def rowD (r : List Rat) : D := .tup (r.map qD)
def Sz (b : Nat) (q : Rat) : Prop := q.num.natAbs < 2 ^ b ∧ q.den < 2 ^ b
theorem Sz.mono {a b : Nat} {q : Rat} (h : Sz a q) (l : a ≤ b) : Sz b q :=
  ⟨Nat.lt_of_lt_of_le h.1 (Nat.pow_le_pow_right (by decide) l), Nat.lt_of_lt_of_le h.2 (Nat.pow_le_pow_right (by decide) l)⟩
theorem log_lt {x b : Nat} (h : x < 2 ^ b) : x.log2 ≤ b := by
  by_cases z : x = 0
  · rw [z]; simp
  · have := (Nat.log2_lt z).mpr h
    omega
theorem mulOk_of {i j : Int} {a b : Nat} (hi : i.natAbs < 2 ^ a) (hj : j.natAbs < 2 ^ b) (h : a + b < 1000000) : mulOk i j = true := by
  unfold mulOk
  have := log_lt hi
  have := log_lt hj
  exact decide_eq_true (by omega)
theorem natAbs_mul_lt {i j : Int} {a b : Nat} (hi : i.natAbs < 2 ^ a) (hj : j.natAbs < 2 ^ b) : (i * j).natAbs < 2 ^ (a + b) := by
  rw [Int.natAbs_mul, Nat.pow_add]
  exact Nat.mul_lt_mul'' hi hj
theorem natAbs_add_lt {i j : Int} {a : Nat} (hi : i.natAbs < 2 ^ a) (hj : j.natAbs < 2 ^ a) : (i + j).natAbs < 2 ^ (a + 1) := by
  rw [Nat.pow_succ]
  omega
/-- what lowest tells -/
theorem low_num {t u : Int} (hu : u ≠ 0) : t.fdiv (if 0 < u then (Nat.gcd t.natAbs u.natAbs : Nat) else -((Nat.gcd t.natAbs u.natAbs : Nat) : Int)) = (Rat.divInt t u).num := by
  have hg : ((Nat.gcd t.natAbs u.natAbs : Nat) : Int) = (u.gcd t : Nat) := by rw [Int.gcd_comm]; rfl
  have d1 : ((u.gcd t : Nat) : Int) ∣ t := Int.gcd_dvd_right ..
  rw [Rat.num_divInt, hg]
  by_cases q : 0 < u
  · rw [if_pos q, Int.sign_eq_one_of_pos q, Int.one_mul, Int.fdiv_eq_ediv_of_dvd d1]
  · rw [if_neg q, Int.sign_eq_neg_one_of_neg (by omega), Int.fdiv_eq_ediv_of_dvd (Int.neg_dvd.mpr d1), Int.ediv_neg, Int.neg_one_mul, Int.neg_ediv_of_dvd d1]
theorem low_den {t u : Int} (hu : u ≠ 0) : u.fdiv (if 0 < u then (Nat.gcd t.natAbs u.natAbs : Nat) else -((Nat.gcd t.natAbs u.natAbs : Nat) : Int)) = ((Rat.divInt t u).den : Int) := by
  have hg : ((Nat.gcd t.natAbs u.natAbs : Nat) : Int) = (u.gcd t : Nat) := by rw [Int.gcd_comm]; rfl
  have d1 : ((u.gcd t : Nat) : Int) ∣ u := Int.gcd_dvd_left ..
  rw [Rat.den_divInt, if_neg hu, hg, Int.natCast_ediv]
  by_cases q : 0 < u
  · rw [if_pos q, Int.fdiv_eq_ediv_of_dvd d1, Int.natAbs_of_nonneg (by omega)]
  · rw [if_neg q, Int.fdiv_eq_ediv_of_dvd (Int.neg_dvd.mpr d1), Int.ediv_neg]
    have : ((u.natAbs : Nat) : Int) = -u := by omega
    rw [this, Int.neg_ediv_of_dvd d1]
theorem gcd_pos {t u : Int} (hu : u ≠ 0) : 0 < Nat.gcd t.natAbs u.natAbs := Nat.gcd_pos_of_pos_right _ (by omega)
theorem gcd_le {t u : Int} (hu : u ≠ 0) : Nat.gcd t.natAbs u.natAbs ≤ u.natAbs := Nat.gcd_le_right _ (by omega)
theorem divOk_of {t u : Int} (hu : u ≠ 0) {b : Nat} (h : u.natAbs < 2 ^ b) (hb : b < 9000) : divOk (if 0 < u then (Nat.gcd t.natAbs u.natAbs : Nat) else -((Nat.gcd t.natAbs u.natAbs : Nat) : Int)) = true := by
  have h1 := gcd_pos (t := t) hu
  have h2 := gcd_le (t := t) hu
  unfold divOk
  have e : (if 0 < u then ((Nat.gcd t.natAbs u.natAbs : Nat) : Int) else -((Nat.gcd t.natAbs u.natAbs : Nat) : Int)).natAbs = Nat.gcd t.natAbs u.natAbs := by split <;> omega
  have h3 := log_lt (Nat.lt_of_le_of_lt h2 h)
  rw [Bool.and_eq_true]
  exact ⟨decide_eq_true (by split <;> omega), decide_eq_true (by rw [e]; omega)⟩
/-! sizes of sums and products -/
theorem sz_divInt {t u : Int} {b : Nat} (hu : u ≠ 0) (h1 : t.natAbs < 2 ^ b) (h2 : u.natAbs < 2 ^ b) : Sz b (Rat.divInt t u) := by
  unfold Sz
  rw [Rat.num_divInt, Rat.den_divInt, if_neg hu]
  refine ⟨?_, Nat.lt_of_le_of_lt (Nat.div_le_self ..) h2⟩
  refine Nat.lt_of_le_of_lt ?_ h1
  rw [Int.natAbs_ediv_of_dvd (Int.dvd_trans (Int.gcd_dvd_right ..) (Int.dvd_mul_left ..))]
  refine Nat.le_trans (Nat.div_le_self ..) ?_
  rw [Int.natAbs_mul]
  have : u.sign.natAbs ≤ 1 := by rw [Int.natAbs_sign]; split <;> omega
  calc u.sign.natAbs * t.natAbs ≤ 1 * t.natAbs := Nat.mul_le_mul_right _ this
    _ = t.natAbs := Nat.one_mul _
theorem den_ne (q : Rat) : (q.den : Int) ≠ 0 := by have := q.den_nz; omega
theorem add_divInt (p q : Rat) : p + q = Rat.divInt (p.num * q.den + q.num * p.den) (p.den * q.den) := by
  conv => lhs; rw [← Rat.num_divInt_den p, ← Rat.num_divInt_den q]
  rw [Rat.divInt_add_divInt _ _ (den_ne p) (den_ne q)]
theorem sub_divInt (p q : Rat) : p - q = Rat.divInt (p.num * q.den - q.num * p.den) (p.den * q.den) := by
  conv => lhs; rw [← Rat.num_divInt_den p, ← Rat.num_divInt_den q]
  rw [Rat.divInt_sub_divInt _ _ (den_ne p) (den_ne q)]
theorem mul_divInt (p q : Rat) : p * q = Rat.divInt (p.num * q.num) (p.den * q.den) := by
  conv => lhs; rw [← Rat.num_divInt_den p, ← Rat.num_divInt_den q]
  rw [Rat.divInt_mul_divInt]
theorem div_divInt (p q : Rat) : p / q = Rat.divInt (p.num * q.den) (p.den * q.num) := by
  conv => lhs; rw [← Rat.num_divInt_den p, ← Rat.num_divInt_den q]
  rw [Rat.div_def, Rat.inv_divInt, Rat.divInt_mul_divInt]
theorem num_ne {q : Rat} (h : q ≠ 0) : q.num ≠ 0 := fun e => h (Rat.num_eq_zero.mp e)
theorem Sz.denI {b : Nat} {q : Rat} (h : Sz b q) : ((q.den : Nat) : Int).natAbs < 2 ^ b := by rw [Int.natAbs_natCast]; exact h.2
theorem sz_add {a b : Nat} {p q : Rat} (hp : Sz a p) (hq : Sz b q) : Sz (a + b + 1) (p + q) := by
  rw [add_divInt]
  refine sz_divInt (Int.mul_ne_zero (den_ne p) (den_ne q)) ?_ ?_
  · exact natAbs_add_lt (natAbs_mul_lt hp.1 hq.denI) (by rw [Nat.add_comm]; exact natAbs_mul_lt hq.1 hp.denI)
  · exact Nat.lt_of_lt_of_le (natAbs_mul_lt hp.denI hq.denI) (Nat.pow_le_pow_right (by decide) (by omega))
theorem sz_sub {a b : Nat} {p q : Rat} (hp : Sz a p) (hq : Sz b q) : Sz (a + b + 1) (p - q) := by
  rw [sub_divInt]
  refine sz_divInt (Int.mul_ne_zero (den_ne p) (den_ne q)) ?_ ?_
  · rw [Int.sub_eq_add_neg]
    exact natAbs_add_lt (natAbs_mul_lt hp.1 hq.denI) (by rw [Nat.add_comm, Int.natAbs_neg]; exact natAbs_mul_lt hq.1 hp.denI)
  · exact Nat.lt_of_lt_of_le (natAbs_mul_lt hp.denI hq.denI) (Nat.pow_le_pow_right (by decide) (by omega))
theorem sz_mul {a b : Nat} {p q : Rat} (hp : Sz a p) (hq : Sz b q) : Sz (a + b) (p * q) := by
  rw [mul_divInt]
  exact sz_divInt (Int.mul_ne_zero (den_ne p) (den_ne q)) (natAbs_mul_lt hp.1 hq.1) (natAbs_mul_lt hp.denI hq.denI)
theorem sz_div {a b : Nat} {p q : Rat} (hp : Sz a p) (hq : Sz b q) (h : q ≠ 0) : Sz (a + b) (p / q) := by
  rw [div_divInt]
  exact sz_divInt (Int.mul_ne_zero (den_ne p) (num_ne h)) (natAbs_mul_lt hp.1 hq.denI) (natAbs_mul_lt hp.denI hq.1)
theorem sz_neg {a : Nat} {p : Rat} (hp : Sz a p) : Sz a (-p) := ⟨by rw [Rat.neg_num, Int.natAbs_neg]; exact hp.1, hp.2⟩
theorem sz_zero : Sz 1 0 := by constructor <;> decide
theorem sz_one : Sz 1 1 := by constructor <;> decide
end Pd
set_option Elab.async false
set_option linter.all false
set_option maxRecDepth 100000
set_option maxHeartbeats 1000000
namespace Pd
open PySem L2
/-! ### == of data without bools -/
def flB : D → Bool
  | .non => true
  | .int _ => true
  | .str x => PyData.strOk x
  | _ => false
def nb : Nat → D → Bool
  | 0, d => flB d
  | k + 1, .tup xs => xs.all (nb k)
  | k + 1, .lst xs => xs.all (nb k)
  | _ + 1, d => flB d
theorem fl_py {d : D} (h : flB d = true) : ∃ x, d.py = some x ∧ x.canLay0 = true ∧ x.depth = 0 := by
  cases d with
  | non => exact ⟨.none, rfl, rfl, by simp [PyData.depth]⟩
  | int i => exact ⟨.int i, rfl, rfl, by simp [PyData.depth]⟩
  | str x => exact ⟨.str x, rfl, by simpa [flB, PyData.canLay0] using h, by simp [PyData.depth]⟩
  | _ => cases h
theorem nbs_py {k : Nat} (ih0 : ∀ d, nb k d = true → ∃ x, d.py = some x ∧ x.canLay0 = true ∧ x.depth ≤ k + 1) : ∀ xs : List D, xs.all (nb k) = true → ∃ ys, D.pys xs = some ys ∧ PyData.canLayAll0 ys = true ∧ PyData.depthAll ys ≤ k + 1 := fun xs => by
  induction xs with
  | nil => exact fun _ => ⟨[], rfl, rfl, by simp [PyData.depthAll]⟩
  | cons d xs ih =>
    intro h
    rw [List.all_cons, Bool.and_eq_true] at h
    obtain ⟨x, h1, h2, h3⟩ := ih0 d h.1
    obtain ⟨ys, g1, g2, g3⟩ := ih h.2
    exact ⟨x :: ys, by simp [D.pys, h1, g1], by simp [PyData.canLayAll0, h2, g2], by simp [PyData.depthAll]; omega⟩
theorem nb_py (k : Nat) : ∀ (d : D), nb k d = true → ∃ x, d.py = some x ∧ x.canLay0 = true ∧ x.depth ≤ k + 1 := by
  induction k with
  | zero =>
    intro d h
    obtain ⟨x, h1, h2, h3⟩ := fl_py h
    exact ⟨x, h1, h2, by omega⟩
  | succ k ih =>
    intro d h
    cases d with
    | tup xs =>
      obtain ⟨ys, h1, h2, h3⟩ := nbs_py ih xs h
      exact ⟨.tuple ys, by simp [D.py, h1], by simpa [PyData.canLay0] using h2, by simp [PyData.depth]; omega⟩
    | lst xs =>
      obtain ⟨ys, h1, h2, h3⟩ := nbs_py ih xs h
      exact ⟨.list ys, by simp [D.py, h1], by simpa [PyData.canLay0] using h2, by simp [PyData.depth]; omega⟩
    | non => exact ⟨.none, rfl, rfl, by simp [PyData.depth]⟩
    | int i => exact ⟨.int i, rfl, rfl, by simp [PyData.depth]⟩
    | str x => exact ⟨.str x, rfl, by simpa [nb, flB, PyData.canLay0] using h, by simp [PyData.depth]⟩
    | _ => cases h
theorem pys_cons {d : D} {ds : List D} {xs : List PyData} (h : D.pys (d :: ds) = some xs) : ∃ a b, d.py = some a ∧ D.pys ds = some b ∧ xs = a :: b := by
  unfold D.pys at h
  split at h
  · rename_i a b ha hb
    cases h
    exact ⟨a, b, ha, hb, rfl⟩
  · cases h
theorem nbs_eqv {k j : Nat} (ih0 : ∀ (d e : D) (x y : PyData), nb k d = true → nb j e = true → d.py = some x → e.py = some y → (PyData.eqv x y = true ↔ d = e)) :
    ∀ (ds es : List D) (xs ys : List PyData), ds.all (nb k) = true → es.all (nb j) = true → D.pys ds = some xs → D.pys es = some ys → (PyData.eqvAll xs ys = true ↔ ds = es) := fun ds => by
  induction ds with
  | nil =>
    intro es xs ys _ _ hx hy
    cases hx
    cases es with
    | nil => cases hy; simp [PyData.eqvAll]
    | cons e es =>
      obtain ⟨a, b, _, _, rfl⟩ := pys_cons hy
      simp [PyData.eqvAll]
  | cons d ds ih =>
    intro es xs ys h1 h2 hx hy
    rw [List.all_cons, Bool.and_eq_true] at h1
    obtain ⟨a, b, ha, hb, rfl⟩ := pys_cons hx
    cases es with
    | nil => cases hy; simp [PyData.eqvAll]
    | cons e es =>
      rw [List.all_cons, Bool.and_eq_true] at h2
      obtain ⟨a', b', ha', hb', rfl⟩ := pys_cons hy
      have q1 := ih0 d e a a' h1.1 h2.1 ha ha'
      have q2 := ih es b b' h1.2 h2.2 hb hb'
      simp only [PyData.eqvAll, Bool.and_eq_true, q1, q2, List.cons.injEq]
/-- the kind of data -/
def kin : D → Nat
  | .non => 0
  | .int _ => 1
  | .str _ => 2
  | .tup _ => 3
  | .lst _ => 4
  | _ => 5
def kinP : PyData → Nat
  | .none => 0
  | .int _ => 1
  | .str _ => 2
  | .tuple _ => 3
  | .list _ => 4
  | _ => 5
theorem kin_py {d : D} {x : PyData} (h : d.py = some x) (h5 : kin d ≠ 5) : kinP x = kin d := by
  cases d with
  | tup xs => simp [D.py] at h; obtain ⟨z, _, rfl⟩ := h; rfl
  | lst xs => simp [D.py] at h; obtain ⟨z, _, rfl⟩ := h; rfl
  | non => cases h; rfl
  | int i => cases h; rfl
  | str s => cases h; rfl
  | _ => exact absurd rfl h5
theorem eqv_kin {x y : PyData} (hx : kinP x ≠ 5) (hy : kinP y ≠ 5) (h : PyData.eqv x y = true) : kinP x = kinP y := by
  cases x <;> cases y <;> first | rfl | exact absurd rfl hx | exact absurd rfl hy | (simp [PyData.eqv] at h; done)
theorem nb_kin {k : Nat} {d : D} (h : nb k d = true) : kin d ≠ 5 := by
  cases k with
  | zero => cases d <;> first | (intro z; cases z; done) | cases h
  | succ k => cases d <;> first | (intro z; cases z; done) | cases h
theorem nb_eqv (k : Nat) : ∀ (j : Nat) (d e : D) (x y : PyData), nb k d = true → nb j e = true → d.py = some x → e.py = some y → (PyData.eqv x y = true ↔ d = e) := by
  induction k with
  | zero =>
    intro j d e x y hd he hx hy
    have kx := kin_py hx (nb_kin hd)
    have ky := kin_py hy (nb_kin he)
    constructor
    · intro h
      have kk := eqv_kin (by rw [kx]; exact nb_kin hd) (by rw [ky]; exact nb_kin he) h
      rw [kx, ky] at kk
      cases d with
      | non => cases e <;> first | rfl | cases kk
      | int i => cases e <;> first | (cases kk; done) | (cases hx; cases hy; simp [PyData.eqv] at h; rw [h])
      | str s => cases e <;> first | (cases kk; done) | (cases hx; cases hy; simp [PyData.eqv] at h; rw [h])
      | _ => cases hd
    · rintro rfl
      rw [hx] at hy
      cases hy
      cases d with
      | non => cases hx; rfl
      | int i => cases hx; simp [PyData.eqv]
      | str s => cases hx; simp [PyData.eqv]
      | _ => cases hd
  | succ k ih =>
    intro j d e x y hd he hx hy
    have kx := kin_py hx (nb_kin hd)
    have ky := kin_py hy (nb_kin he)
    have five : PyData.eqv x y = true → kin d = kin e := fun h => by
      have kk := eqv_kin (by rw [kx]; exact nb_kin hd) (by rw [ky]; exact nb_kin he) h
      rw [kx, ky] at kk
      exact kk
    cases d with
    | tup ds =>
      cases e with
      | tup es =>
        cases j with
        | zero => cases he
        | succ j =>
          unfold D.py at hx hy
          rw [Option.map_eq_some_iff] at hx hy
          obtain ⟨xs, hxs, rfl⟩ := hx
          obtain ⟨ys, hys, rfl⟩ := hy
          have := nbs_eqv (ih j) ds es xs ys hd he hxs hys
          simp only [PyData.eqv, this, D.tup.injEq]
      | _ => exact ⟨fun h => (by cases five h), fun h => by cases h⟩
    | lst ds =>
      cases e with
      | lst es =>
        cases j with
        | zero => cases he
        | succ j =>
          unfold D.py at hx hy
          rw [Option.map_eq_some_iff] at hx hy
          obtain ⟨xs, hxs, rfl⟩ := hx
          obtain ⟨ys, hys, rfl⟩ := hy
          have := nbs_eqv (ih j) ds es xs ys hd he hxs hys
          simp only [PyData.eqv, this, D.lst.injEq]
      | _ => exact ⟨fun h => (by cases five h), fun h => by cases h⟩
    | non => cases e <;> first | (cases hx; cases hy; simp [PyData.eqv]; done) | exact ⟨fun h => (by cases five h), fun h => by cases h⟩
    | int i => cases e <;> first | (cases hx; cases hy; simp [PyData.eqv]; done) | exact ⟨fun h => (by cases five h), fun h => by cases h⟩
    | str s => cases e <;> first | (cases hx; cases hy; simp [PyData.eqv]; done) | exact ⟨fun h => (by cases five h), fun h => by cases h⟩
    | _ => cases hd
theorem eqD_nb {d e : D} (h1 : nb 60 d = true) (h2 : nb 60 e = true) : ∃ r : Bool, eqD d e = some r ∧ (r = true ↔ d = e) := by
  obtain ⟨x, x1, x2, x3⟩ := nb_py _ _ h1
  obtain ⟨y, y1, y2, y3⟩ := nb_py _ _ h2
  refine ⟨PyData.eqv x y, ?_, nb_eqv _ _ _ _ _ _ h1 h2 x1 y1⟩
  unfold eqD
  rw [x1, y1]
  have s1 : SeqAt.shaped x = true := by unfold SeqAt.shaped; rw [x2, Bool.true_and]; exact decide_eq_true (by omega)
  have s2 : SeqAt.shaped y = true := by unfold SeqAt.shaped; rw [y2, Bool.true_and]; exact decide_eq_true (by omega)
  dsimp only
  rw [s1, s2]
  rfl
theorem cmp_eqD {d e : D} : cmpD .eq d e = eqD d e := by unfold cmpD; rfl
theorem cmp_neD {d e : D} : cmpD .ne d e = (eqD d e).map (!·) := by unfold cmpD; rfl
theorem eq_same {d : D} (h : nb 60 d = true) : cmpD .eq d d = some true := by
  obtain ⟨r, h1, h2⟩ := eqD_nb h h
  rw [cmp_eqD, h1, h2.mpr rfl]
theorem ne_same {d : D} (h : nb 60 d = true) : cmpD .ne d d = some false := by
  obtain ⟨r, h1, h2⟩ := eqD_nb h h
  rw [cmp_neD, h1, h2.mpr rfl]
  rfl
theorem eq_other {d e : D} (h1 : nb 60 d = true) (h2 : nb 60 e = true) (ne : d ≠ e) : cmpD .eq d e = some false := by
  obtain ⟨r, h3, h4⟩ := eqD_nb h1 h2
  rw [cmp_eqD, h3]
  cases r with
  | false => rfl
  | true => exact absurd (h4.mp rfl) ne
theorem nb_mono (k : Nat) : ∀ (d : D), nb k d = true → nb (k + 1) d = true := by
  induction k with
  | zero => intro d h; cases d <;> first | exact h | cases h
  | succ k ih =>
    intro d h
    cases d with
    | tup xs =>
      show xs.all (nb (k + 1)) = true
      rw [List.all_eq_true]
      exact fun x hx => ih x (List.all_eq_true.mp h x hx)
    | lst xs =>
      show xs.all (nb (k + 1)) = true
      rw [List.all_eq_true]
      exact fun x hx => ih x (List.all_eq_true.mp h x hx)
    | _ => first | exact h | cases h
theorem nb_le {k j : Nat} {d : D} (h : nb k d = true) (l : k ≤ j) : nb j d = true := by
  induction l with
  | refl => exact h
  | step _ ih => exact nb_mono _ _ ih
theorem nb_tup {k : Nat} {xs : List D} (h : ∀ x ∈ xs, nb k x = true) : nb (k + 1) (.tup xs) = true := List.all_eq_true.mpr h
theorem nb_q (q : Rat) : nb 1 (qD q) = true := rfl
theorem nb_row (r : List Rat) : nb 2 (rowD r) = true := nb_tup fun x hx => by
  obtain ⟨q, _, rfl⟩ := List.mem_map.mp hx
  rfl
theorem qD_inj {p q : Rat} (h : qD p = qD q) : p = q := by
  unfold qD at h
  simp at h
  rw [← Rat.num_divInt_den p, ← Rat.num_divInt_den q, h.1, h.2]
end Pd
set_option Elab.async false
set_option linter.all false
set_option maxRecDepth 100000
set_option maxHeartbeats 1000000
namespace PdL
open PySem L2 Pd Th
/-! ### what the ratio functions tell -/
theorem ok_lowest {t u : Int} (S : PenSt) {b : Nat} (hu : u ≠ 0) (h : u.natAbs < 2 ^ b) (hb : b < 9000) : F_lowest [.int t, .int u] S = .ok (.im (qD (Rat.divInt t u))) S := by
  have d := divOk_of (t := t) hu h hb
  have n1 := low_num (t := t) hu
  have n2 := low_den (t := t) hu
  by_cases q : 0 < u
  · rw [if_pos q] at d n1 n2
    simp [F_lowest, evD, evF, b_lowest, ve_bnd, getV, setSV, cmpD, truD, callM, pF, fGcd, binD, SV.d, q, d, n1, n2, qD]
  · rw [if_neg q] at d n1 n2
    simp [F_lowest, evD, evF, b_lowest, ve_bnd, getV, setSV, cmpD, truD, callM, pF, fGcd, binD, SV.d, q, d, n1, n2, qD]
theorem ok_summed {p q : Rat} (S : PenSt) {a b : Nat} (hp : Sz a p) (hq : Sz b q) (hb : a + b < 9000) : F_summed [qD p, qD q] S = .ok (.im (qD (p + q))) S := by
  have m1 := mulOk_of hp.1 hq.denI (by omega)
  have m2 := mulOk_of hq.1 hp.denI (by omega)
  have m3 := mulOk_of hp.denI hq.denI (by omega)
  have m4 := mulOk_of hp.1 hq.1 (by omega)
  have m5 := mulOk_of hp.denI hq.1 (by omega)
  have l := ok_lowest (t := p.num * q.den + q.num * p.den) S (Int.mul_ne_zero (den_ne p) (den_ne q)) (natAbs_mul_lt hp.denI hq.denI) hb
  rw [add_divInt]
  simp [F_summed, evD, evF, b_summed, ve_bnd, getV, callM, SV.d, binD, m1, m2, m3, m4, m5, l, qD, ixD, atI, ixN]
theorem ok_lessened {p q : Rat} (S : PenSt) {a b : Nat} (hp : Sz a p) (hq : Sz b q) (hb : a + b < 9000) : F_lessened [qD p, qD q] S = .ok (.im (qD (p - q))) S := by
  have m1 := mulOk_of hp.1 hq.denI (by omega)
  have m2 := mulOk_of hq.1 hp.denI (by omega)
  have m3 := mulOk_of hp.denI hq.denI (by omega)
  have m4 := mulOk_of hp.1 hq.1 (by omega)
  have m5 := mulOk_of hp.denI hq.1 (by omega)
  have l := ok_lowest (t := p.num * q.den - q.num * p.den) S (Int.mul_ne_zero (den_ne p) (den_ne q)) (natAbs_mul_lt hp.denI hq.denI) hb
  rw [sub_divInt]
  simp [F_lessened, evD, evF, b_lessened, ve_bnd, getV, callM, SV.d, binD, m1, m2, m3, m4, m5, l, qD, ixD, atI, ixN]
theorem ok_scaled {p q : Rat} (S : PenSt) {a b : Nat} (hp : Sz a p) (hq : Sz b q) (hb : a + b < 9000) : F_scaled [qD p, qD q] S = .ok (.im (qD (p * q))) S := by
  have m1 := mulOk_of hp.1 hq.denI (by omega)
  have m2 := mulOk_of hq.1 hp.denI (by omega)
  have m3 := mulOk_of hp.denI hq.denI (by omega)
  have m4 := mulOk_of hp.1 hq.1 (by omega)
  have m5 := mulOk_of hp.denI hq.1 (by omega)
  have l := ok_lowest (t := p.num * q.num) S (Int.mul_ne_zero (den_ne p) (den_ne q)) (natAbs_mul_lt hp.denI hq.denI) hb
  rw [mul_divInt]
  simp [F_scaled, evD, evF, b_scaled, ve_bnd, getV, callM, SV.d, binD, m1, m2, m3, m4, m5, l, qD, ixD, atI, ixN]
theorem ok_parted {p q : Rat} (S : PenSt) {a b : Nat} (hp : Sz a p) (hq : Sz b q) (h : q ≠ 0) (hb : a + b < 9000) : F_parted [qD p, qD q] S = .ok (.im (qD (p / q))) S := by
  have m1 := mulOk_of hp.1 hq.denI (by omega)
  have m2 := mulOk_of hq.1 hp.denI (by omega)
  have m3 := mulOk_of hp.denI hq.denI (by omega)
  have m4 := mulOk_of hp.1 hq.1 (by omega)
  have m5 := mulOk_of hp.denI hq.1 (by omega)
  have l := ok_lowest (t := p.num * q.den) S (Int.mul_ne_zero (den_ne p) (num_ne h)) (natAbs_mul_lt hp.denI hq.1) hb
  rw [div_divInt]
  simp [F_parted, evD, evF, b_parted, ve_bnd, getV, callM, SV.d, binD, m1, m2, m3, m4, m5, l, qD, ixD, atI, ixN]
theorem ok_below {p q : Rat} (S : PenSt) {a b : Nat} (hp : Sz a p) (hq : Sz b q) (hb : a + b < 9000) : F_below [qD p, qD q] S = .ok (.im (.bl (decide (p < q)))) S := by
  have m1 := mulOk_of hp.1 hq.denI (by omega)
  have m2 := mulOk_of hq.1 hp.denI (by omega)
  have e : decide (p < q) = decide (p.num * q.den < q.num * p.den) := by rw [decide_eq_decide]; exact Rat.lt_iff ..
  rw [e]
  simp [F_below, evD, evF, b_below, ve_bnd, getV, SV.d, binD, cmpD, m1, m2, qD, ixD, atI, ixN]
theorem ok_turned_sign (p : Rat) (S : PenSt) : F_turned_sign [qD p] S = .ok (.im (qD (-p))) S := by
  simp [F_turned_sign, evD, evF, b_turned_sign, ve_bnd, getV, SV.d, qD, ixD, atI, ixN]
/-! ### the law's own ratios -/
def fin : Nat → Nat → Nat → Prop
  | 0, _, y => y = 0
  | n + 1, x, y => y = 0 ∨ fin n y (x % y)
theorem fin_of : ∀ (m x y : Nat), y < 2 ^ m → fin (2 * m) x y
  | 0, x, y, h => by
    show y = 0
    omega
  | m + 1, x, y, h => by
    show fin (2 * m + 1 + 1) x y
    by_cases q : y = 0
    · exact .inl q
    · refine .inr ?_
      by_cases r : x % y = 0
      · exact .inl r
      · refine .inr (fin_of m _ _ ?_)
        have h1 : x % y < y := Nat.mod_lt _ (by omega)
        have h2 := Nat.mod_lt y (show 0 < x % y by omega)
        have h3 := Nat.div_add_mod y (x % y)
        have h4 : 1 ≤ y / (x % y) := Nat.div_pos (by omega) (by omega)
        have h5 : x % y ≤ (x % y) * (y / (x % y)) := Nat.le_mul_of_pos_right _ h4
        rw [Nat.pow_succ] at h
        omega
theorem fin_mono : ∀ {n x y : Nat}, fin n x y → fin (n + 1) x y
  | 0, x, y, h => .inl h
  | n + 1, x, y, h => by
    rcases h with h | h
    · exact .inl h
    · exact .inr (fin_mono h)
theorem fin_le {n m x y : Nat} (h : fin n x y) (l : n ≤ m) : fin m x y := by
  induction l with
  | refl => exact h
  | step _ ih => exact fin_mono ih
def gcdBody : List IS := [.ite (.tst (.cmp .eq (.var 1) (.cst (.int 0)))) [.brk] [], .par [0, 1] [(.var 1), (.bin .mod (.call (pF fInt) [(.var 0)]) (.var 1))]]
theorem gcd_loop (S : PenSt) : ∀ (items : List D) (x y : Nat) (l : Option SV), fin items.length x y → ∃ l' y', forLoop (.nm 2) (evSs gcdBody) items [some (.im (.int x)), some (.im (.int y)), l] S = .ok .nx [some (.im (.int (Nat.gcd x y : Nat))), y', l'] S
  | [], x, y, l, h => by
    have h : y = 0 := h
    subst h
    exact ⟨l, some (.im (.int 0)), by simp [forLoop]⟩
  | d :: ds, x, y, l, h => by
    by_cases q : y = 0
    · subst q
      exact ⟨_, _, by simp [forLoop, asgT, gcdBody, ve_bnd, getV, SV.d, cmpD, eqD, D.py, SeqAt.shaped, PyData.canLay0, PyData.depth, PyData.eqv, truD]; exact ⟨rfl, rfl⟩⟩
    · rcases h with h | h
      · exact absurd h q
      · obtain ⟨l', y', e⟩ := gcd_loop S ds y (x % y) (some (.im d)) h
        refine ⟨l', y', ?_⟩
        have m : (x : Int).fmod y = ((x % y : Nat) : Int) := by
          rw [Int.fmod_eq_emod_of_nonneg _ (by omega)]
          rfl
        have g : Nat.gcd x y = Nat.gcd y (x % y) := by rw [Nat.gcd_comm x y, Nat.gcd_rec y x, Nat.gcd_comm]
        have qz : ¬ (y : Int) = 0 := by omega
        rw [g, ← e]
        simp [forLoop, asgT, gcdBody, ve_bnd, getV, SV.d, cmpD, eqD, D.py, SeqAt.shaped, PyData.canLay0, PyData.depth, PyData.eqv, truD, q, callM, pF, fInt, binD, asgs, setSV, m]
theorem ok__law_gcd {t u : Int} (S : PenSt) {b : Nat} (h : u.natAbs < 2 ^ b) (hb : b < 40000) : F__law_gcd [.int t, .int u] S = .ok (.im (.int (Nat.gcd t.natAbs u.natAbs : Nat))) S := by
  have e1 : (if t < 0 then -t else t) = ((t.natAbs : Nat) : Int) := by split <;> omega
  have e2 : (if u < 0 then -u else u) = ((u.natAbs : Nat) : Int) := by split <;> omega
  have hl : u.natAbs.log2 < 40000 := Nat.lt_of_le_of_lt (log_lt h) hb
  let L : Int := 4 + 2 * (if u = 0 then 0 else (u.natAbs.log2 : Int) + 1)
  have L1 : L ≤ 100000 := by show (4 : Int) + 2 * _ ≤ _; split <;> omega
  have L0 : -100000 ≤ L := by show _ ≤ (4 : Int) + 2 * _; split <;> omega
  have hf : fin (rngL 0 L.toNat).length t.natAbs u.natAbs := by
    unfold rngL
    rw [List.length_map, List.length_range]
    by_cases z : u.natAbs = 0
    · rw [z]
      exact fin_le (n := 0) rfl (Nat.zero_le _)
    · refine fin_le (fin_of (u.natAbs.log2 + 1) _ _ ((Nat.log2_lt z).mp (Nat.lt_succ_self _))) ?_
      have : L = 4 + 2 * ((u.natAbs.log2 : Int) + 1) := by
        show (4 : Int) + 2 * _ = _
        rw [if_neg (by omega)]
      rw [this]
      omega
  obtain ⟨l', y', e⟩ := gcd_loop S (rngL 0 L.toNat) t.natAbs u.natAbs none hf
  have mk : mulOk 2 (if u = 0 then 0 else (u.natAbs.log2 : Int) + 1) = true := by
    refine mulOk_of (a := 2) (b := 20) (by decide) ?_ (by decide)
    have : (2 : Nat) ^ 20 = 1048576 := by decide
    split <;> omega
  simp only [gcdBody] at e
  have LL : L ≤ 100000 ∧ -100000 ≤ L := ⟨L1, L0⟩
  simp [L] at LL e
  simp [F__law_gcd, evD, evF, b__law_gcd, ve_bnd, getV, SV.d, callM, pF, fAbs, fInt, asgs, setSV, e1, e2, binD, mk, LL, e]
theorem ok__law_q {t u : Int} (S : PenSt) {b : Nat} (hu : u ≠ 0) (h : u.natAbs < 2 ^ b) (hb : b < 9000) : F__law_q [.int t, .int u] S = .ok (.im (qD (Rat.divInt t u))) S := by
  have d := divOk_of (t := t) hu h hb
  have n1 := low_num (t := t) hu
  have n2 := low_den (t := t) hu
  have l := ok__law_gcd (t := t) S h (by omega)
  by_cases q : 0 < u
  · rw [if_pos q] at d n1 n2
    have q' : ¬ u < 0 := by omega
    simp [F__law_q, evD, evF, b__law_q, ve_bnd, getV, setSV, cmpD, truD, callM, binD, SV.d, q', d, n1, n2, qD, l]
  · rw [if_neg q] at d n1 n2
    have q' : u < 0 := by omega
    simp [F__law_q, evD, evF, b__law_q, ve_bnd, getV, setSV, cmpD, truD, callM, binD, SV.d, q', d, n1, n2, qD, l]
theorem ok__law_plus {p q : Rat} (S : PenSt) {a b : Nat} (hp : Sz a p) (hq : Sz b q) (hb : a + b < 9000) : F__law_plus [qD p, qD q] S = .ok (.im (qD (p + q))) S := by
  have m1 := mulOk_of hp.1 hq.denI (by omega)
  have m2 := mulOk_of hq.1 hp.denI (by omega)
  have m3 := mulOk_of hp.denI hq.denI (by omega)
  have m4 := mulOk_of hp.1 hq.1 (by omega)
  have m5 := mulOk_of hp.denI hq.1 (by omega)
  have l := ok__law_q (t := p.num * q.den + q.num * p.den) S (Int.mul_ne_zero (den_ne p) (den_ne q)) (natAbs_mul_lt hp.denI hq.denI) hb
  rw [add_divInt]
  simp [F__law_plus, evD, evF, b__law_plus, ve_bnd, getV, callM, SV.d, binD, m1, m2, m3, m4, m5, l, qD, ixD, atI, ixN]
theorem ok__law_minus {p q : Rat} (S : PenSt) {a b : Nat} (hp : Sz a p) (hq : Sz b q) (hb : a + b < 9000) : F__law_minus [qD p, qD q] S = .ok (.im (qD (p - q))) S := by
  have m1 := mulOk_of hp.1 hq.denI (by omega)
  have m2 := mulOk_of hq.1 hp.denI (by omega)
  have m3 := mulOk_of hp.denI hq.denI (by omega)
  have m4 := mulOk_of hp.1 hq.1 (by omega)
  have m5 := mulOk_of hp.denI hq.1 (by omega)
  have l := ok__law_q (t := p.num * q.den - q.num * p.den) S (Int.mul_ne_zero (den_ne p) (den_ne q)) (natAbs_mul_lt hp.denI hq.denI) hb
  rw [sub_divInt]
  simp [F__law_minus, evD, evF, b__law_minus, ve_bnd, getV, callM, SV.d, binD, m1, m2, m3, m4, m5, l, qD, ixD, atI, ixN]
theorem ok__law_times {p q : Rat} (S : PenSt) {a b : Nat} (hp : Sz a p) (hq : Sz b q) (hb : a + b < 9000) : F__law_times [qD p, qD q] S = .ok (.im (qD (p * q))) S := by
  have m1 := mulOk_of hp.1 hq.denI (by omega)
  have m2 := mulOk_of hq.1 hp.denI (by omega)
  have m3 := mulOk_of hp.denI hq.denI (by omega)
  have m4 := mulOk_of hp.1 hq.1 (by omega)
  have m5 := mulOk_of hp.denI hq.1 (by omega)
  have l := ok__law_q (t := p.num * q.num) S (Int.mul_ne_zero (den_ne p) (den_ne q)) (natAbs_mul_lt hp.denI hq.denI) hb
  rw [mul_divInt]
  simp [F__law_times, evD, evF, b__law_times, ve_bnd, getV, callM, SV.d, binD, m1, m2, m3, m4, m5, l, qD, ixD, atI, ixN]
theorem ok__law_less {p q : Rat} (S : PenSt) {a b : Nat} (hp : Sz a p) (hq : Sz b q) (hb : a + b < 9000) : F__law_less [qD p, qD q] S = .ok (.im (.bl (decide (p < q)))) S := by
  have m1 := mulOk_of hp.1 hq.denI (by omega)
  have m2 := mulOk_of hq.1 hp.denI (by omega)
  have e : decide (p < q) = decide (p.num * q.den < q.num * p.den) := by rw [decide_eq_decide]; exact Rat.lt_iff ..
  rw [e]
  simp [F__law_less, evD, evF, b__law_less, ve_bnd, getV, SV.d, binD, cmpD, m1, m2, qD, ixD, atI, ixN]
end PdL
set_option Elab.async false
set_option linter.all false
set_option maxRecDepth 100000
set_option maxHeartbeats 1000000
namespace PdL
open PySem L2 Pd Th
theorem qD_0 : D.tup [.int 0, .int 1] = qD 0 := rfl
theorem qD_1 : D.tup [.int 1, .int 1] = qD 1 := rfl
theorem sz_sumR {f : Nat → Rat} {b : Nat} : ∀ n : Nat, (∀ i, i < n → Sz b (f i)) → Sz (1 + n * (b + 1)) (sumR n f)
  | 0, _ => (by rw [sumR]; exact sz_zero.mono (by omega))
  | n + 1, h => by
    rw [sumR]
    refine (sz_add (sz_sumR n (fun i hi => h i (by omega))) (h n (by omega))).mono ?_
    rw [Nat.add_mul]
    omega
theorem ent_map {rs : List Rat} {k : Nat} {d : D} (h : (rs.map qD)[k]? = some d) : d = qD (ent rs k) ∧ k < rs.length ∧ ent rs k ∈ rs := by
  rw [List.getElem?_map, Option.map_eq_some_iff] at h
  obtain ⟨q, h1, h2⟩ := h
  have e : ent rs k = q := by unfold ent; rw [List.getD_eq_getElem?_getD, h1]; rfl
  rw [e]
  exact ⟨h2.symm, (List.getElem?_eq_some_iff.mp h1).1, List.mem_of_getElem? h1⟩
theorem ent_mem {rs : List Rat} {k : Nat} (h : k < rs.length) : ent rs k ∈ rs := by
  unfold ent
  rw [List.getD_eq_getElem?_getD, List.getElem?_eq_getElem h]
  exact List.getElem_mem h
theorem ok_sum_by {d : D} {rs : List Rat} {b : Nat} (S : PenSt) (hd : d.items = some (rs.map qD)) (hz : ∀ q ∈ rs, Sz b q) (hb : 1 + rs.length * (b + 1) < 9000) : F_sum_by [d] S = .ok (.im (qD (sumR rs.length (ent rs)))) S := by
  refine fn_wp rfl ?_
  simp [b_sum_by, hd, qD_0]
  refine wp_for (fun k ρ S' => S' = S ∧ ∃ x2, ρ = [some (.im d), some (.im (qD (sumR k (ent rs)))), x2]) ⟨rfl, none, rfl⟩ (fun k y ρ S' hk ⟨hS, x2, hρ⟩ => ?_) fun ρ' S' ⟨hS, x2, hρ⟩ => ?_
  · obtain ⟨rfl, hl, hm⟩ := ent_map hk
    subst hS hρ
    have h1 := sz_sumR (f := ent rs) (b := b) k (fun i hi => hz _ (ent_mem (by omega)))
    have h2 : (k + 1) * (b + 1) ≤ rs.length * (b + 1) := Nat.mul_le_mul_right _ hl
    have h3 : (k + 1) * (b + 1) = k * (b + 1) + (b + 1) := by rw [Nat.add_mul, Nat.one_mul]
    have c := ok_summed S' h1 (hz _ hm) (by omega)
    refine ⟨_, rfl, ?_⟩
    simp [c]
    rfl
  · subst hS hρ
    simp
/-! ### sums of products -/
theorem num_zero {q : Rat} : q.num = 0 ↔ q = 0 := Rat.num_eq_zero
theorem eqD_int {i j : Int} : eqD (.int i) (.int j) = some (i == j) := by
  simp [eqD, D.py, SeqAt.shaped, PyData.canLay0, PyData.depth, PyData.eqv]
@[simp] theorem cmp_eq_int {i j : Int} : cmpD .eq (.int i) (.int j) = some (i == j) := eqD_int
@[simp] theorem cmp_ne_int {i j : Int} : cmpD .ne (.int i) (.int j) = some (!(i == j)) := by
  have : cmpD .ne (.int i) (.int j) = (eqD (.int i) (.int j)).map (!·) := rfl
  rw [this, eqD_int]
  rfl
@[simp] theorem ix_q0 {q : Rat} : ixD (qD q) (.int 0) = some (.int q.num) := rfl
@[simp] theorem ix_q1 {q : Rat} : ixD (qD q) (.int 1) = some (.int q.den) := rfl
theorem zip_q {xs ys : List Rat} {k : Nat} {d : D} (h : (zip2L (xs.map qD) (ys.map qD))[k]? = some d) : d = .tup [qD (ent xs k), qD (ent ys k)] ∧ k < xs.length ∧ k < ys.length := by
  rw [zip_map, List.getElem?_map, Option.map_eq_some_iff] at h
  obtain ⟨p, h1, h2⟩ := h
  rw [List.getElem?_zip_eq_some] at h1
  obtain ⟨a, b⟩ := h1
  refine ⟨?_, (List.getElem?_eq_some_iff.mp a).1, (List.getElem?_eq_some_iff.mp b).1⟩
  rw [← h2]
  unfold ent
  rw [List.getD_eq_getElem?_getD, List.getD_eq_getElem?_getD, a, b]
  rfl
theorem zip_len {xs ys : List D} : (zip2L xs ys).length = min xs.length ys.length := by
  induction xs generalizing ys with
  | nil => cases ys <;> simp [zip2L]
  | cons x xs ih =>
    cases ys with
    | nil => simp [zip2L]
    | cons y ys =>
      simp [zip2L, ih]
def dotS (xs ys : List Rat) : Rat := sumR (min xs.length ys.length) (fun i => ent xs i * ent ys i)
theorem ok_dot_of {d e : D} {xs ys : List Rat} {a b : Nat} (S : PenSt) (hd : d.items = some (xs.map qD)) (he : e.items = some (ys.map qD)) (ha : ∀ q ∈ xs, Sz a q) (hb : ∀ q ∈ ys, Sz b q) (hz : 1 + xs.length * (a + b + 1) < 9000) :
    F_dot_of [d, e] S = .ok (.im (qD (dotS xs ys))) S := by
  refine fn_wp rfl ?_
  simp [b_dot_of, hd, he, qD_0]
  refine wp_for (fun k ρ S' => S' = S ∧ ∃ x3 x4, ρ = [some (.im d), some (.im e), some (.im (qD (sumR k (fun i => ent xs i * ent ys i)))), x3, x4]) ⟨rfl, none, none, rfl⟩ (fun k y ρ S' hk ⟨hS, x3, x4, hρ⟩ => ?_) fun ρ' S' ⟨hS, x3, x4, hρ⟩ => ?_
  · obtain ⟨rfl, hl, hm⟩ := zip_q hk
    subst hS hρ
    have z1 := ha _ (ent_mem hl)
    have z2 := hb _ (ent_mem hm)
    have h1 := sz_sumR (f := fun i => ent xs i * ent ys i) (b := a + b) k (fun i hi => sz_mul (ha _ (ent_mem (by omega))) (hb _ (ent_mem (by omega))))
    have h2 : (k + 1) * (a + b + 1) ≤ xs.length * (a + b + 1) := Nat.mul_le_mul_right _ hl
    have h3 : (k + 1) * (a + b + 1) = k * (a + b + 1) + (a + b + 1) := by rw [Nat.add_mul, Nat.one_mul]
    have c1 := ok_scaled S' z1 z2 (by omega)
    have c2 := ok_summed S' h1 (sz_mul z1 z2) (by omega)
    refine ⟨_, rfl, ?_⟩
    by_cases q1 : ent xs k = 0
    · have e0 : sumR (k + 1) (fun i => ent xs i * ent ys i) = sumR k (fun i => ent xs i * ent ys i) := by rw [sumR, q1]; grind
      simp [truD, q1, e0]
    · by_cases q2 : ent ys k = 0
      · have e0 : sumR (k + 1) (fun i => ent xs i * ent ys i) = sumR k (fun i => ent xs i * ent ys i) := by rw [sumR, q2]; grind
        simp [truD, num_zero, q1, q2, e0]
      · simp [truD, num_zero, q1, q2, c1, c2]
        rfl
  · subst hS hρ
    rw [zip_len]
    simp [dotS]
/-! ### rows -/
def unitR (n p : Nat) : List Rat := (List.range n).map fun k => if k = p then 1 else 0
theorem len_unitR {n p : Nat} : (unitR n p).length = n := by unfold unitR; rw [List.length_map, List.length_range]
theorem ent_unitR {n p j : Nat} (h : j < n) : ent (unitR n p) j = if j = p then 1 else 0 := by
  unfold ent unitR
  rw [List.getD_eq_getElem?_getD, List.getElem?_map, List.getElem?_range h]
  rfl
theorem sz_unitR {n p : Nat} : ∀ q ∈ unitR n p, Sz 1 q := fun q hq => by
  obtain ⟨k, _, rfl⟩ := List.mem_map.mp hq
  split
  · exact sz_one
  · exact sz_zero
theorem ok_unit_row {n p : Nat} (S : PenSt) (hn : n ≤ 100000) : F_unit_row [.int n, .int p] S = .ok (.im (rowD (unitR n p))) S := by
  refine fn_wp rfl ?_
  have hn2 : (n : Int) ≤ 100000 ∧ -100000 ≤ (n : Int) := by omega
  simp [b_unit_row, hn2, rng_map]
  refine wp_map (fun _ => true) (fun k => qD (if k = p then 1 else 0)) (fun ρ => ρ = [some (.im (.int n)), some (.im (.int p)), none]) rfl (fun k hk ρ hρ => ?_) fun ρ' hρ => ?_
  · subst hρ
    refine ⟨_, rfl, ?_⟩
    by_cases q : k = p
    · subst q
      simp [truD, qD_1, wipeE]
    · have q' : ¬ (k : Int) = p := by omega
      simp [truD, q, q', qD_0, wipeE]
  · subst hρ
    simp [pF, fTuple, rowD, unitR]
    rw [List.filter_eq_self.mpr (fun _ _ => rfl)]
    rfl
end PdL
set_option Elab.async false
set_option linter.all false
set_option maxRecDepth 100000
set_option maxHeartbeats 2000000
namespace PdL
open PySem L2 Pd Th
theorem filter_t {α : Type} {L : List α} : L.filter (fun _ => true) = L := List.filter_eq_self.mpr (fun _ _ => rfl)
theorem plusTimes_zero : ∀ {r o : List Rat}, r.length = o.length → plusTimes r 0 o = r
  | [], [], _ => rfl
  | a :: r, b :: o, h => by
    have e : a + 0 * b = a := by grind
    show (a + 0 * b) :: plusTimes r 0 o = _
    rw [plusTimes_zero (by simpa using h), e]
theorem zip_enc {xs ys : List Rat} : zip2L (xs.map qD) (ys.map qD) = (xs.zip ys).map fun p => .tup [qD p.1, qD p.2] := zip_map
theorem plusTimes_zip {r o : List Rat} {c : Rat} : plusTimes r c o = (r.zip o).map fun p => p.1 + c * p.2 := by
  unfold plusTimes
  rw [List.zip, List.map_zipWith]
theorem ok_plus_times {d e : D} {xs ys : List Rat} {p : Rat} {a b c : Nat} (S : PenSt) (hd : d.items = some (xs.map qD)) (he : e.items = some (ys.map qD)) (hl : xs.length = ys.length) (ha : ∀ q ∈ xs, Sz a q) (hb : ∀ q ∈ ys, Sz b q) (hc : Sz c p) (hz : a + (c + b) < 9000) (ht : pF fTuple [d] S = .ok (.im (rowD xs)) S) :
    F_plus_times [d, qD p, e] S = .ok (.im (rowD (plusTimes xs p ys))) S := by
  refine fn_wp rfl ?_
  by_cases q : p = 0
  · subst q
    simp [b_plus_times, truD, ht, plusTimes_zero hl]
  · simp [b_plus_times, truD, num_zero, q, hd, he, zip_enc]
    refine wp_map (fun _ => true) (fun z => qD (z.1 + p * z.2)) (fun ρ => ρ = [some (.im d), some (.im (qD p)), some (.im e), none, none]) rfl (fun z hz' ρ hρ => ?_) fun ρ' hρ => ?_
    · subst hρ
      have z1 := ha _ (List.of_mem_zip hz').1
      have z2 := hb _ (List.of_mem_zip hz').2
      have c1 := ok_scaled S hc z2 (by omega)
      have c2 := ok_summed S z1 (sz_mul hc z2) hz
      refine ⟨_, rfl, ?_⟩
      by_cases q2 : z.2 = 0
      · have e0 : z.1 + 0 = z.1 := by grind
        simp [truD, q2, wipeE, e0]
      · simp [truD, num_zero, q2, wipeE, c1, c2]
    · subst hρ
      rw [filter_t]
      simp [pF, fTuple, rowD, plusTimes_zip]
/-! ### sizes of rows by one bottom -/
def RB (N : Nat → Nat) (b : Nat) (r : List Rat) : Prop := ∃ (d : Nat) (v : Nat → Int), 0 < d ∧ d < 2 ^ b ∧ ∀ j, j < r.length → ent r j = (v j : Rat) / ((d : Rat) * (N j : Rat)) ∧ (v j).natAbs < 2 ^ b
structure NOk (N : Nat → Nat) (c : Nat) : Prop where
  p : ∀ j, 0 < N j
  l : ∀ j, N j < 2 ^ c
theorem natR {n : Nat} (h : 0 < n) : (n : Rat) ≠ 0 := by
  intro e
  have : n = 0 := by exact_mod_cast e
  omega
theorem natM {a b : Nat} : ((a * b : Nat) : Rat) = (a : Rat) * (b : Rat) := by
  have : (((a * b : Nat) : Int) : Rat) = ((a : Int) : Rat) * ((b : Int) : Rat) := by rw [Int.natCast_mul, Rat.intCast_mul]
  exact this
theorem intR {n : Int} (h : n ≠ 0) : (n : Rat) ≠ 0 := by
  intro e
  exact h (by exact_mod_cast e)
theorem div_as {v : Int} {d n : Nat} : (v : Rat) / ((d : Rat) * (n : Rat)) = Rat.divInt v ((d * n : Nat) : Int) := by
  rw [Rat.divInt_eq_div]
  congr 1
  rw [Int.natCast_mul, Rat.intCast_mul]
  rfl
theorem RB.sz {N : Nat → Nat} {b c : Nat} {r : List Rat} (h : RB N b r) (n : NOk N c) : ∀ q ∈ r, Sz (b + c) q := fun q hq => by
  obtain ⟨d, v, d0, d1, hv⟩ := h
  obtain ⟨j, hj, rfl⟩ := List.getElem_of_mem hq
  have e : ent r j = r[j] := by unfold ent; rw [List.getD_eq_getElem?_getD, List.getElem?_eq_getElem hj]; rfl
  obtain ⟨h1, h2⟩ := hv j hj
  rw [← e, h1, div_as]
  have dn : 0 < d * N j := Nat.mul_pos d0 (n.p j)
  refine sz_divInt (by omega) (Nat.lt_of_lt_of_le h2 (Nat.pow_le_pow_right (by decide) (by omega))) ?_
  rw [Int.natAbs_natCast, Nat.pow_add]
  exact Nat.mul_lt_mul'' d1 (n.l j)
theorem RB.mono {N : Nat → Nat} {b b' : Nat} {r : List Rat} (h : RB N b r) (l : b ≤ b') : RB N b' r := by
  obtain ⟨d, v, d0, d1, hv⟩ := h
  have := Nat.pow_le_pow_right (n := 2) (by decide) l
  exact ⟨d, v, d0, by omega, fun j hj => ⟨(hv j hj).1, by have := (hv j hj).2; omega⟩⟩
def sg (u : Int) : Int := if 0 < u then 1 else -1
theorem sg_abs {u : Int} : sg u * u = (u.natAbs : Int) := by unfold sg; split <;> omega
theorem sg_le {u x : Int} : (sg u * x).natAbs = x.natAbs := by unfold sg; split <;> omega
theorem abs_cast {u : Int} : ((u.natAbs : Nat) : Rat) = (sg u : Rat) * (u : Rat) := by
  rw [← Rat.intCast_mul, sg_abs]
  rfl
theorem sg_ne {u : Int} : (sg u : Rat) ≠ 0 := by
  unfold sg
  split
  · decide
  · decide
theorem RB.head {N : Nat → Nat} {b c p : Nat} {r : List Rat} (h : RB N b r) (n : NOk N c) (hp : p < r.length) (h0 : ent r p ≠ 0) : RB N (b + c) (headOf r p) := by
  obtain ⟨d, v, d0, d1, hv⟩ := h
  obtain ⟨e1, b1⟩ := hv p hp
  have up : v p ≠ 0 := fun z => h0 (by rw [e1, z]; grind)
  refine ⟨(v p).natAbs, fun j => sg (v p) * (v j * N p), by omega, Nat.lt_of_lt_of_le b1 (Nat.pow_le_pow_right (by decide) (by omega)), fun j hj => ?_⟩
  rw [len_headOf] at hj
  obtain ⟨e2, b2⟩ := hv j hj
  refine ⟨?_, ?_⟩
  · rw [ent_headOf, e1, e2, abs_cast, Rat.intCast_mul, Rat.intCast_mul]
    have a1 := natR d0
    have a2 := natR (n.p j)
    have a3 := natR (n.p p)
    have a4 := intR up
    have a5 := @sg_ne (v p)
    have a6 : (((N p : Nat) : Int) : Rat) = (N p : Rat) := rfl
    rw [a6]
    grind
  · rw [sg_le, Int.natAbs_mul, Int.natAbs_natCast, Nat.pow_add]
    exact Nat.mul_lt_mul'' b2 (n.l p)
theorem RB.plus {N : Nat → Nat} {b c p : Nat} {r r0 : List Rat} (h : RB N b r) (h0 : RB N b r0) (n : NOk N c) (hl : r.length = r0.length) (hp : p < r0.length) (hz : ent r0 p ≠ 0) : RB N (2 * b + 1) (plusTimes r (-(ent r p)) (headOf r0 p)) := by
  obtain ⟨d, v, d0, d1, hv⟩ := h
  obtain ⟨e, u, e0, e1, hu⟩ := h0
  obtain ⟨x1, y1⟩ := hu p hp
  obtain ⟨x2, y2⟩ := hv p (by omega)
  have up : u p ≠ 0 := fun z => hz (by rw [x1, z]; grind)
  have p2 : (2 : Nat) ^ (2 * b + 1) = 2 ^ b * 2 ^ b * 2 := by rw [Nat.pow_succ, Nat.two_mul, Nat.pow_add]
  refine ⟨d * (u p).natAbs, fun j => sg (u p) * (v j * u p - v p * u j), Nat.mul_pos d0 (by omega), ?_, fun j hj => ?_⟩
  · have := Nat.mul_lt_mul'' d1 y1
    omega
  · rw [len_plusTimes (by rw [len_headOf]; exact hl), len_headOf] at hj
    obtain ⟨x3, y3⟩ := hu j hj
    obtain ⟨x4, y4⟩ := hv j (by omega)
    refine ⟨?_, ?_⟩
    · rw [ent_plusTimes (by rw [len_headOf]; exact hl), ent_headOf, x1, x2, x3, x4, natM, abs_cast, Rat.intCast_mul, Rat.intCast_sub, Rat.intCast_mul, Rat.intCast_mul]
      have a1 := natR d0
      have a2 := natR (n.p j)
      have a3 := natR (n.p p)
      have a4 := intR up
      have a5 := @sg_ne (u p)
      have a7 := natR e0
      grind
    · rw [sg_le]
      have m1 : (v j * u p).natAbs < 2 ^ b * 2 ^ b := by rw [Int.natAbs_mul]; exact Nat.mul_lt_mul'' y4 y1
      have m2 : (v p * u j).natAbs < 2 ^ b * 2 ^ b := by rw [Int.natAbs_mul]; exact Nat.mul_lt_mul'' y2 y3
      omega
end PdL
set_option Elab.async false
set_option linter.all false
set_option maxRecDepth 100000
set_option maxHeartbeats 4000000
namespace PdL
open PySem L2 Pd Th
theorem atI_nat {α : Type} {xs : List α} {k : Nat} (h : k < xs.length) : atI xs (k : Int) = some xs[k] := by
  unfold atI ixN
  rw [if_pos (by omega), if_pos (by omega)]
  show xs[(k : Int).toNat]? = _
  rw [Int.toNat_natCast, List.getElem?_eq_getElem h]
theorem atI_map {α : Type} {f : α → D} {xs : List α} {k : Nat} {x : α} (h : xs[k]? = some x) : atI (xs.map f) (k : Int) = some (f x) := by
  obtain ⟨hl, e⟩ := List.getElem?_eq_some_iff.mp h
  rw [atI_nat (by rw [List.length_map]; exact hl), List.getElem_map, e]
theorem ent_get {r : List Rat} {k : Nat} (h : k < r.length) : r[k]? = some (ent r k) := by
  unfold ent
  rw [List.getD_eq_getElem?_getD, List.getElem?_eq_getElem h]
  rfl
theorem ix_row {r : List Rat} {k : Nat} (h : k < r.length) : ixD (rowD r) (.int (k : Int)) = some (qD (ent r k)) := atI_map (ent_get h)
theorem ix_lst {α : Type} {f : α → D} {xs : List α} {k : Nat} {x : α} (h : xs[k]? = some x) : ixD (.lst (xs.map f)) (.int (k : Int)) = some (f x) := atI_map h
theorem ix_tup {α : Type} {f : α → D} {xs : List α} {k : Nat} {x : α} (h : xs[k]? = some x) : ixD (.tup (xs.map f)) (.int (k : Int)) = some (f x) := atI_map h
@[simp] theorem ix_lst0 {x : D} {xs : List D} : ixD (.lst (x :: xs)) (.int 0) = some x := by
  show atI (x :: xs) 0 = _
  unfold atI ixN
  simp
@[simp] theorem ix_tup0 {x : D} {xs : List D} : ixD (.tup (x :: xs)) (.int 0) = some x := by
  show atI (x :: xs) 0 = _
  unfold atI ixN
  simp
@[simp] theorem ix_tup1 {x y : D} {xs : List D} : ixD (.tup (x :: y :: xs)) (.int 1) = some y := by
  show atI (x :: y :: xs) 1 = _
  have e : ixN (x :: y :: xs).length 1 = some 1 := by
    unfold ixN
    rw [if_pos (by decide), if_pos (by rw [List.length_cons, List.length_cons]; omega)]
    rfl
  unfold atI
  rw [e]
  rfl
@[simp] theorem it_tup {xs : List D} : (D.tup xs).items = some xs := rfl
@[simp] theorem it_lst {xs : List D} : (D.lst xs).items = some xs := rfl
@[simp] theorem it_row {r : List Rat} : (rowD r).items = some (r.map qD) := rfl
theorem tuple_lst {xs : List D} {S : PenSt} : pF fTuple [.lst xs] S = .ok (.im (.tup xs)) S := rfl
theorem tuple_tup {xs : List D} {S : PenSt} : pF fTuple [.tup xs] S = .ok (.im (.tup xs)) S := rfl
theorem tuple_row {r : List Rat} {S : PenSt} : pF fTuple [rowD r] S = .ok (.im (rowD r)) S := rfl
theorem len_lst {xs : List D} {S : PenSt} : pF fLen [.lst xs] S = .ok (.im (.int xs.length)) S := rfl
theorem len_tup {xs : List D} {S : PenSt} : pF fLen [.tup xs] S = .ok (.im (.int xs.length)) S := rfl
theorem add_lst {xs ys : List D} (h : xs.length + ys.length ≤ 100000) : binD .add (.lst xs) (.lst ys) = some (.ow (xs ++ ys)) := if_pos h
theorem add_tup {xs ys : List D} (h : xs.length + ys.length ≤ 100000) : binD .add (.tup xs) (.tup ys) = some (.im (.tup (xs ++ ys))) := if_pos h
theorem rng_at {w k : Nat} {y : D} (h : ((List.range w).map fun k => D.int (k : Nat))[k]? = some y) : y = .int k ∧ k < w := by
  rw [List.getElem?_map, Option.map_eq_some_iff] at h
  obtain ⟨j, h1, h2⟩ := h
  obtain ⟨hl, e⟩ := List.getElem?_eq_some_iff.mp h1
  rw [List.length_range] at hl
  rw [List.getElem_range] at e
  subst e
  exact ⟨h2.symm, hl⟩
theorem cut1 {α : Type} {x : α} {xs : List α} : cutD (x :: xs) (some 1) none = xs := by
  unfold cutD HT.sIx
  simp
def dnD (done : List (Nat × List Rat)) : List D := done.map fun q => .tup [.int q.1, rowD q.2]
def bb (b : Nat) : Nat → Nat
  | 0 => b
  | k + 1 => 2 * bb b k + 1
structure LedB (N : Nat → Nat) (b w : Nat) (s : Led) : Prop where
  b1 : ∀ q ∈ s.1, RB N b q.2
  b2 : ∀ r ∈ s.2, RB N b r
theorem led_B {N : Nat → Nat} {b c w k : Nat} {rows : List (List Rat)} {s : Led} (n : NOk N c) (hc : c ≤ b + 1) (hk : k < w) (I : LedI w k rows s) (h : LedB N b w s) : LedB N (2 * b + 1) w (ledStep k s) := by
  unfold ledStep
  cases e : s.2.filter (fun r => ent r k != 0) with
  | nil => exact ⟨fun q hq => (h.b1 q hq).mono (by omega), fun r hr => (h.b2 r hr).mono (by omega)⟩
  | cons r0 more =>
    have m0 : ∀ r, r ∈ r0 :: more ↔ r ∈ s.2 ∧ ent r k ≠ 0 := fun r => by
      rw [← e, List.mem_filter]
      simp
    have h0 := (m0 r0).mp (List.mem_cons_self ..)
    have hl := I.l2 _ h0.1
    refine ⟨fun q hq => ?_, fun r hr => ?_⟩
    · rcases List.mem_append.mp hq with hq | hq
      · obtain ⟨q', h1, rfl⟩ := List.mem_map.mp hq
        exact (h.b1 _ h1).plus (h.b2 _ h0.1) n (by rw [I.l1 _ h1, hl]) (by omega) h0.2
      · rw [List.mem_singleton.mp hq]
        exact ((h.b2 _ h0.1).head n (by omega) h0.2).mono (by omega)
    · rcases List.mem_append.mp hr with hr | hr
      · exact (h.b2 r (List.mem_filter.mp hr).1).mono (by omega)
      · obtain ⟨r', h1, rfl⟩ := List.mem_map.mp hr
        have := ((m0 r').mp (List.mem_cons_of_mem _ h1)).1
        exact (h.b2 _ this).plus (h.b2 _ h0.1) n (by rw [I.l2 _ this, hl]) (by omega) h0.2
theorem bb_le {b k : Nat} : b ≤ bb b k := by
  induction k with
  | zero => exact Nat.le_refl _
  | succ k ih => rw [bb]; omega
theorem bb_mono {b k w : Nat} (h : k ≤ w) : bb b k ≤ bb b w := by
  induction h with
  | refl => exact Nat.le_refl _
  | step _ ih => rw [bb]; omega
theorem led_Bs {N : Nat → Nat} {b c w : Nat} {rows : List (List Rat)} (n : NOk N c) (hc : c ≤ b + 1) (hl : ∀ r ∈ rows, r.length = w + 1) (hb : ∀ r ∈ rows, RB N b r) : ∀ {k : Nat}, k ≤ w → LedB N (bb b k) w (ledTo rows k)
  | 0, _ => ⟨fun _ h => (by cases h), hb⟩
  | k + 1, h => led_B n (by have := @bb_le b k; omega) (by omega) (led_to hl (by omega)) (led_Bs n hc hl hb (by omega))
theorem led_len {w k : Nat} {s : Led} : (ledStep k s).1.length ≤ s.1.length + 1 ∧ (ledStep k s).2.length ≤ s.2.length := by
  unfold ledStep
  cases e : s.2.filter (fun r => ent r k != 0) with
  | nil => exact ⟨Nat.le_succ _, Nat.le_refl _⟩
  | cons r0 more =>
    refine ⟨?_, ?_⟩
    · rw [List.length_append, List.length_map]
      exact Nat.le_refl _
    · rw [List.length_append, List.length_map]
      have h1 : (s.2.filter (fun r => ent r k != 0)).length = more.length + 1 := by rw [e]; rfl
      have h2 : ∀ l : List (List Rat), (l.filter (fun r => ent r k == 0)).length + (l.filter (fun r => ent r k != 0)).length = l.length := fun l => by
        induction l with
        | nil => rfl
        | cons a l ih =>
          by_cases q : ent a k = 0 <;> simp [q] <;> omega
      have := h2 s.2
      omega
theorem led_lens {rows : List (List Rat)} : ∀ {k : Nat}, (ledTo rows k).1.length ≤ k ∧ (ledTo rows k).2.length ≤ rows.length
  | 0 => ⟨Nat.le_refl _, Nat.le_refl _⟩
  | k + 1 => by
    have h1 := led_lens (rows := rows) (k := k)
    have h2 := led_len (w := 0) (k := k) (s := ledTo rows k)
    exact ⟨Nat.le_trans h2.1 (by omega), Nat.le_trans h2.2 h1.2⟩
theorem ok_led_out {d : D} {rows : List (List Rat)} {N : Nat → Nat} {b c w : Nat} (S : PenSt) (hd : d.items = some (rows.map rowD)) (hl : ∀ r ∈ rows, r.length = w + 1) (n : NOk N c) (hc : c ≤ b + 1) (hb : ∀ r ∈ rows, RB N b r) (hz : 6 * (bb b w + c) < 9000) (hr : rows.length ≤ 1000) (hw : w ≤ 1000) :
    F_led_out [d, .int w] S = .ok (.im (.tup [.lst (dnD (ledTo rows w).1), .lst ((ledTo rows w).2.map rowD)])) S := by
  refine fn_wp rfl ?_
  simp [b_led_out, hd]
  refine wp_map (fun _ => true) rowD (fun ρ => ρ = [some (.im d), some (.im (.int w)), none, none, none, none, none, none, none, none, none]) rfl (fun r hr' ρ hρ => ?_) fun ρ' hρ => ?_
  · subst hρ
    exact ⟨_, rfl, by simp [wipeE, pF, fTuple, rowD]⟩
  subst hρ
  have hw2 : (w : Int) ≤ 100000 ∧ -100000 ≤ (w : Int) := by omega
  rw [filter_t]
  simp [asgs, hw2, rng_map]
  refine wp_for (fun k ρ S' => S' = S ∧ ∃ x2 s3 s4 x5 x6 x7, s3.d = .lst (dnD (ledTo rows k).1) ∧ s4.d = .lst ((ledTo rows k).2.map rowD) ∧ ρ = [some (.im d), some (.im (.int w)), x2, some s3, some s4, x5, x6, x7, none, none, none])
    ⟨rfl, none, .ow [], .ow (rows.map rowD), none, none, none, rfl, rfl, rfl⟩ (fun k y ρ S' hk ⟨hS, x2, s3, s4, x5, x6, x7, h3, h4, hρ⟩ => ?_) fun ρ' S' ⟨hS, x2, s3, s4, x5, x6, x7, h3, h4, hρ⟩ => ?_
  · obtain ⟨rfl, hkw⟩ := rng_at hk
    subst hS hρ
    refine ⟨_, rfl, ?_⟩
    have I := led_to hl (k := k) (by omega)
    have B := led_Bs n hc hl hb (k := k) (by omega)
    have bk : bb b k ≤ bb b w := bb_mono (by omega)
    have ln := led_lens (rows := rows) (k := k)
    simp [h4, D.items]
    refine wp_map (fun r => ent r k != 0) rowD (fun ρ => ρ = [some (.im d), some (.im (.int w)), some (.im (.int k)), some s3, some (.im (.lst ((ledTo rows k).2.map rowD))), x5, x6, x7, none, none, none]) rfl (fun r hr' ρ hρ => ?_) fun ρ' hρ => ?_
    · subst hρ
      refine ⟨_, rfl, ?_⟩
      have e := ix_row (r := r) (k := k) (by rw [I.l2 _ hr']; omega)
      by_cases q : ent r k = 0
      · simp [wipeE, e, truD, q]
      · simp [wipeE, e, truD, q, num_zero]
    subst hρ
    cases ef : (ledTo rows k).2.filter (fun r => ent r k != 0) with
    | nil =>
      have el : ledTo rows (k + 1) = ledTo rows k := by
        show ledStep k (ledTo rows k) = _
        unfold ledStep
        rw [ef]
      simp [pF, fLen, cmpD, truD, el]
      exact ⟨_, _, h3, _, rfl, rfl, rfl, rfl⟩
    | cons r0 more =>
      have m0 : ∀ r, r ∈ r0 :: more ↔ r ∈ (ledTo rows k).2 ∧ ent r k ≠ 0 := fun r => by
        rw [← ef, List.mem_filter]
        simp
      have h0 := (m0 r0).mp (List.mem_cons_self ..)
      have hl0 := I.l2 _ h0.1
      have sz0 := (B.b2 _ h0.1).sz n
      have szh := ((B.b2 _ h0.1).head n (by omega) h0.2).sz n
      have lh : (headOf r0 k).length = w + 1 := by rw [len_headOf, hl0]
      have el : ledTo rows (k + 1) = ((ledTo rows k).1.map (fun q => (q.1, plusTimes q.2 (-(ent q.2 k)) (headOf r0 k))) ++ [(k, headOf r0 k)], (ledTo rows k).2.filter (fun r => ent r k == 0) ++ more.map (fun r => plusTimes r (-(ent r k)) (headOf r0 k))) := by
        show ledStep k (ledTo rows k) = _
        unfold ledStep
        rw [ef]
      have e0 := ix_row (r := r0) (k := k) (by omega)
      simp [len_lst, cmpD, truD]
      refine wp_map (fun _ => true) (fun q => qD (q / ent r0 k)) (fun ρ => ρ = [some (.im d), some (.im (.int w)), some (.im (.int k)), some s3, some (.im (.lst ((ledTo rows k).2.map rowD))), some (.im (.lst (rowD r0 :: more.map rowD))), x6, x7, none, none, none]) rfl (fun q hq ρ hρ => ?_) fun ρ' hρ => ?_
      · subst hρ
        refine ⟨_, rfl, ?_⟩
        have c1 := ok_parted S' (sz0 _ hq) (sz0 _ (ent_mem (rs := r0) (k := k) (by omega))) h0.2 (by omega)
        simp [wipeE, e0, c1]
      subst hρ
      rw [filter_t]
      have eh : D.tup (r0.map fun q => qD (q / ent r0 k)) = rowD (headOf r0 k) := by
        unfold rowD headOf
        rw [List.map_map]
        rfl
      simp [tuple_lst, eh]
      refine wp_map (fun r => ent r k == 0) rowD (fun ρ => ρ = [some (.im d), some (.im (.int w)), some (.im (.int k)), some s3, some (.im (.lst ((ledTo rows k).2.map rowD))), some (.im (.lst (rowD r0 :: more.map rowD))), some (.im (rowD (headOf r0 k))), x7, none, none, none]) rfl (fun r hr' ρ hρ => ?_) fun ρ' hρ => ?_
      · subst hρ
        refine ⟨_, rfl, ?_⟩
        have e := ix_row (r := r) (k := k) (by rw [I.l2 _ hr']; omega)
        by_cases q : ent r k = 0
        · simp [wipeE, e, truD, q]
        · simp [wipeE, e, truD, q, num_zero]
      subst hρ
      simp [slcD, cut1]
      refine wp_map (fun _ => true) (fun r => rowD (plusTimes r (-(ent r k)) (headOf r0 k))) (fun ρ => ρ = [some (.im d), some (.im (.int w)), some (.im (.int k)), some s3, some (.im (.lst ((ledTo rows k).2.map rowD))), some (.im (.lst (rowD r0 :: more.map rowD))), some (.im (rowD (headOf r0 k))), some (.im (.lst (((ledTo rows k).2.filter (fun r => ent r k == 0)).map rowD))), none, none, none]) rfl (fun r hr' ρ hρ => ?_) fun ρ' hρ => ?_
      · subst hρ
        refine ⟨_, rfl, ?_⟩
        have h1 := ((m0 r).mp (List.mem_cons_of_mem _ hr')).1
        have e := ix_row (r := r) (k := k) (by rw [I.l2 _ h1]; omega)
        have c1 := ok_turned_sign (ent r k) S'
        have sr := (B.b2 _ h1).sz n
        have c2 := ok_plus_times (d := rowD r) (e := rowD (headOf r0 k)) S' rfl rfl (by rw [lh, I.l2 _ h1]) sr szh (sz_neg (sr _ (ent_mem (rs := r) (k := k) (by rw [I.l2 _ h1]; omega)))) (by omega) rfl
        simp [wipeE, e, c1, c2]
      subst hρ
      rw [filter_t]
      have ln2 : ((ledTo rows k).2.filter (fun r => ent r k == 0)).length ≤ (ledTo rows k).2.length := List.length_filter_le ..
      have ln3 : more.length + 1 ≤ (ledTo rows k).2.length := by
        have : ((ledTo rows k).2.filter (fun r => ent r k != 0)).length ≤ (ledTo rows k).2.length := List.length_filter_le ..
        rw [ef] at this
        exact this
      rw [add_lst (by rw [List.length_map, List.length_map]; omega)]
      simp [h3, dnD]
      refine wp_map (fun _ => true) (fun q => .tup [.int q.1, rowD (plusTimes q.2 (-(ent q.2 k)) (headOf r0 k))]) (fun ρ => ∃ s4', s4'.d = .lst ((ledTo rows (k + 1)).2.map rowD) ∧ ρ = [some (.im d), some (.im (.int w)), some (.im (.int k)), some (.im (.lst (dnD (ledTo rows k).1))), some s4', some (.im (.lst (rowD r0 :: more.map rowD))), some (.im (rowD (headOf r0 k))), some (.im (.lst (((ledTo rows k).2.filter (fun r => ent r k == 0)).map rowD))), none, none, none]) ?_ (fun q hq ρ ⟨s4', h4', hρ⟩ => ?_) fun ρ' ⟨s4', h4', hρ⟩ => ?_
      · refine ⟨_, ?_, rfl⟩
        rw [el]
        simp
      · subst hρ
        refine ⟨_, rfl, ?_⟩
        have h1 := I.l1 _ hq
        have e := ix_row (r := q.2) (k := k) (by rw [h1]; omega)
        have c1 := ok_turned_sign (ent q.2 k) S'
        have sr := (B.b1 _ hq).sz n
        have c2 := ok_plus_times (d := rowD q.2) (e := rowD (headOf r0 k)) S' rfl rfl (by rw [lh, h1]) sr szh (sz_neg (sr _ (ent_mem (rs := q.2) (k := k) (by rw [h1]; omega)))) (by omega) rfl
        simp [wipeE, e, c1, c2, h4']
      · subst hρ
        rw [filter_t]
        simp
        rw [add_lst (by rw [List.length_map]; simp; omega)]
        simp [el]
        refine ⟨_, _, ?_, _, ?_, rfl, rfl, rfl⟩
        · rw [sv_ow]
          simp [dnD]
        · rw [h4', el]
          simp
  · subst hS hρ
    simp [h3, h4]
end PdL
set_option Elab.async false
set_option linter.all false
set_option maxRecDepth 100000
set_option maxHeartbeats 4000000
namespace PdL
open PySem L2 Pd Th
theorem bls_map {α : Type} {L : List α} {f : α → Bool} : blsD (L.map fun x => .bl (f x)) = some (L.map f) := by
  induction L with
  | nil => rfl
  | cons x L ih =>
    show (blsD (L.map fun x => .bl (f x))).map (f x :: ·) = _
    rw [ih]
    rfl
theorem any_lst {α : Type} {L : List α} {f : α → Bool} {S : PenSt} : pF fAny [.lst (L.map fun x => .bl (f x))] S = .ok (.im (.bl (L.any f))) S := by
  unfold pF fAny
  simp only [bls_map, Option.map_some]
  congr 3
  induction L with
  | nil => rfl
  | cons x L ih => simp
theorem all_lst {α : Type} {L : List α} {f : α → Bool} {S : PenSt} : pF fAll [.lst (L.map fun x => .bl (f x))] S = .ok (.im (.bl (L.all f))) S := by
  unfold pF fAll
  simp only [bls_map, Option.map_some]
  congr 3
  induction L with
  | nil => rfl
  | cons x L ih => simp
theorem mul_lst1 {x : D} {w : Nat} (h : w ≤ 1000) : binD .mul (.lst [x]) (.int w) = some (.ow (List.replicate w x)) := by
  have e : (List.replicate w [x]).flatten = List.replicate w x := by
    induction w with
    | zero => rfl
    | succ w ih => rw [List.replicate_succ, List.flatten_cons, ih (by omega)]; rfl
  have c : (decide ((0 : Int) ≤ (w : Int)) && decide ((w : Int) ≤ 1000) && decide ([x].length ≤ 1000)) = true := by simp; omega
  refine (if_pos c).trans ?_
  rw [Int.toNat_natCast, e]
theorem mul_tup1 {x : D} {w : Nat} (h : w ≤ 1000) (h1 : 1 ≤ w) : binD .mul (.tup [x]) (.int w) = some (.im (.tup (List.replicate w x))) := by
  have e : (List.replicate w [x]).flatten = List.replicate w x := by
    clear h1
    induction w with
    | zero => rfl
    | succ w ih => rw [List.replicate_succ, List.flatten_cons, ih (by omega)]; rfl
  have c : (decide ((1 : Int) ≤ (w : Int)) && decide ((w : Int) ≤ 1000) && decide ([x].length ≤ 1000) && decide (1 ≤ [x].length)) = true := by simp; omega
  refine (if_pos c).trans ?_
  rw [Int.toNat_natCast, e]
theorem ixN_nat {n k : Nat} (h : k < n) : ixN n (k : Int) = some k := by
  unfold ixN
  rw [if_pos (by omega), if_pos (by omega), Int.toNat_natCast]
def aug (R : List (List Rat)) (xs : List Rat) : List (List Rat) := List.zipWith (fun r x => r ++ [x]) R xs
theorem zip_rows {enc : List Rat → D} {R : List (List Rat)} {xs : List Rat} : zip2L (R.map enc) (xs.map qD) = (R.zip xs).map fun p => .tup [enc p.1, qD p.2] := zip_map
theorem aug_zip {R : List (List Rat)} {xs : List Rat} : aug R xs = (R.zip xs).map fun p => p.1 ++ [p.2] := by
  unfold aug
  rw [List.zip, List.map_zipWith]
theorem outD {w : Nat} {done : List (Nat × List Rat)} {o : List Rat} {k : Nat} {q : Nat × List Rat} (h : done[k]? = some q) : ((done.take (k + 1)).foldl (fun o q => o.set q.1 (ent q.2 w)) o) = ((done.take k).foldl (fun o q => o.set q.1 (ent q.2 w)) o).set q.1 (ent q.2 w) := by
  rw [List.take_add_one, h]
  simp
/-- a row, or none -/
def optD : Option (List Rat) → D
  | none => .non
  | some x => rowD x
theorem ok_solved_row {d e : D} {enc : List Rat → D} {R : List (List Rat)} {xs : List Rat} {N : Nat → Nat} {b c w : Nat} (S : PenSt) (hd : d.items = some (R.map enc)) (he : e.items = some (xs.map qD)) (henc : ∀ r S, pF fTuple [enc r] S = .ok (.im (rowD r)) S) (hl : ∀ r ∈ R, r.length = w)
    (n : NOk N c) (hc : c ≤ b + 1) (hb : ∀ r ∈ aug R xs, RB N b r) (hz : 6 * (bb b w + c) < 9000) (hr : R.length ≤ 1000) (hw : w ≤ 1000) :
    F_solved_row [d, e, .int w] S = .ok (.im (optD (solved (aug R xs) w))) S := by
  have hla : ∀ r ∈ aug R xs, r.length = w + 1 := fun r hr => by
    rw [aug_zip] at hr
    obtain ⟨p, hp, rfl⟩ := List.mem_map.mp hr
    rw [List.length_append, hl _ (List.of_mem_zip hp).1]
    rfl
  have hlen : (aug R xs).length ≤ 1000 := by
    unfold aug
    rw [List.length_zipWith]
    omega
  have cl := ok_led_out (d := .lst ((aug R xs).map rowD)) S rfl hla n hc hb hz hlen hw
  have I := led_to hla (Nat.le_refl w)
  refine fn_wp rfl ?_
  simp [b_solved_row, hd, he, zip_rows]
  refine wp_map (fun _ => true) (fun p => rowD (p.1 ++ [p.2])) (fun ρ => ρ = [some (.im d), some (.im e), some (.im (.int w)), none, none, none, none, none, none]) rfl (fun p hp ρ hρ => ?_) fun ρ' hρ => ?_
  · subst hρ
    refine ⟨_, rfl, ?_⟩
    have h1 := hl _ (List.of_mem_zip hp).1
    have ea : binD .add (rowD p.1) (.tup [qD p.2]) = some (.im (rowD (p.1 ++ [p.2]))) := by
      unfold rowD
      rw [add_tup (by rw [List.length_map, h1]; simp; omega), List.map_append]
      rfl
    simp [wipeE, henc, ea]
  subst hρ
  have ea : D.lst ((R.zip xs).map fun p => rowD (p.1 ++ [p.2])) = .lst ((aug R xs).map rowD) := by
    rw [aug_zip, List.map_map]
    rfl
  rw [filter_t]
  simp [ea, cl]
  refine wp_map (fun _ => true) (fun r => .bl (ent r w != 0)) (fun ρ => ρ = [some (.im d), some (.im e), some (.im (.int w)), none, some (.im (.lst (dnD (ledTo (aug R xs) w).1))), some (.im (.lst ((ledTo (aug R xs) w).2.map rowD))), none, none, none]) rfl (fun r hr' ρ hρ => ?_) fun ρ' hρ => ?_
  · subst hρ
    refine ⟨_, rfl, ?_⟩
    have e := ix_row (r := r) (k := w) (by rw [I.l2 _ hr']; omega)
    by_cases q : ent r w = 0
    · simp [wipeE, e, q]
    · have q' : ((ent r w).num == 0) = false := by simpa [num_zero] using q
      have q2 : (ent r w != 0) = true := by simpa using q
      simp only [q2]
      simp [wipeE, e, q']
  subst hρ
  rw [filter_t]
  obtain ⟨A, hA⟩ : ∃ A, A = (ledTo (aug R xs) w).2.any (fun r => ent r w != 0) := ⟨_, rfl⟩
  have ca : pF fAny [.lst ((ledTo (aug R xs) w).2.map fun r => .bl (ent r w != 0))] S = .ok (.im (.bl A)) S := by rw [hA]; exact any_lst
  have es : solved (aug R xs) w = if A then none else some (outOf w (ledTo (aug R xs) w).1) := by rw [hA]; rfl
  rw [es]
  cases A with
  | true => simp [ca, truD, optD]
  | false =>
    simp [ca, truD]
    rw [qD_0, mul_lst1 hw]
    simp
    refine wp_for (fun k ρ S' => S' = S ∧ ∃ x6 x7, ρ = [some (.im d), some (.im e), some (.im (.int w)), some (.ow ((((ledTo (aug R xs) w).1.take k).foldl (fun o q => o.set q.1 (ent q.2 w)) (List.replicate w 0)).map qD)), some (.im (.lst (dnD (ledTo (aug R xs) w).1))), some (.im (.lst ((ledTo (aug R xs) w).2.map rowD))), x6, x7, none])
      ⟨rfl, none, none, by simp⟩ (fun k y ρ S' hk ⟨hS, x6, x7, hρ⟩ => ?_) fun ρ' S' ⟨hS, x6, x7, hρ⟩ => ?_
    · subst hS hρ
      unfold dnD at hk
      rw [List.getElem?_map, Option.map_eq_some_iff] at hk
      obtain ⟨q, hq, rfl⟩ := hk
      refine ⟨_, rfl, ?_⟩
      have hm := List.mem_of_getElem? hq
      have e := ix_row (r := q.2) (k := w) (by rw [I.l1 _ hm]; omega)
      have ei := ixN_nat (n := w) (I.lt _ hm)
      rw [outD hq]
      simp [e, out_len, ei, List.map_set]
    · subst hS hρ
      have et : (ledTo (aug R xs) w).1.take (dnD (ledTo (aug R xs) w).1).length = (ledTo (aug R xs) w).1 := by
        unfold dnD
        rw [List.length_map, List.take_length]
      simp [et, tuple_lst, optD]
      rfl
end PdL
set_option Elab.async false
set_option linter.all false
set_option maxRecDepth 100000
set_option maxHeartbeats 4000000
namespace PdL
open PySem L2 Pd Th
/-! ### models as data -/
structure Mo where
  n : Nat
  bn : List D
  cash : List Rat
  debts : List (List Rat)
  holds : List (List Rat)
  keeps : List Rat
  asks : D
def modelD (m : Mo) : D := .ins 4 [.tup m.bn, rowD m.cash, .tup (m.debts.map rowD), .tup (m.holds.map rowD), rowD m.keeps, m.asks]
def row (t : List (List Rat)) (j : Nat) : List Rat := t.getD j []
/-- a whole over E -/
def Fr (E β : Nat) (x : Rat) : Prop := ∃ i : Int, x = (i : Rat) / (E : Rat) ∧ i.natAbs < 2 ^ β
structure Mo.Ok (m : Mo) (E e β : Nat) : Prop where
  n7 : m.n ≤ 7
  bl : m.bn.length = m.n
  cl : m.cash.length = m.n
  dl : m.debts.length = m.n
  dr : ∀ r ∈ m.debts, r.length = m.n + 1
  hl : m.holds.length = m.n
  hr : ∀ r ∈ m.holds, r.length = m.n
  kl : m.keeps.length = m.n
  E0 : 0 < E
  E1 : E < 2 ^ e
  cf : ∀ x ∈ m.cash, Fr E β x
  df : ∀ r ∈ m.debts, ∀ x ∈ r, Fr E β x
  hf : ∀ r ∈ m.holds, ∀ x ∈ r, Fr E β x
  kf : ∀ x ∈ m.keeps, Fr E β x
  d0 : ∀ r ∈ m.debts, ∀ x ∈ r, 0 ≤ x
  sm : e + β ≤ 40
def Mo.c (m : Mo) (i : Nat) : Rat := ent m.cash i
def Mo.L (m : Mo) (j i : Nat) : Rat := ent (row m.debts j) i
def Mo.p (m : Mo) (j : Nat) : Rat := sumR (m.n + 1) (m.L j)
def Mo.P (m : Mo) (j i : Nat) : Rat := if m.p j = 0 then 0 else m.L j i / m.p j
def Mo.H (m : Mo) (j i : Nat) : Rat := ent (row m.holds j) i
def Mo.k (m : Mo) (j : Nat) : Rat := ent m.keeps j
def Mo.bk (m : Mo) : Bk := ⟨m.n, m.c, m.p, m.P, m.H, m.k⟩
theorem Fr.sz {E e β : Nat} {x : Rat} (h : Fr E β x) (h0 : 0 < E) (h1 : E < 2 ^ e) : Sz (e + β) x := by
  obtain ⟨i, rfl, hi⟩ := h
  have : (i : Rat) / (E : Rat) = Rat.divInt i (E : Int) := (Rat.divInt_eq_div _ _).symm
  rw [this]
  refine sz_divInt (by omega) (Nat.lt_of_lt_of_le hi (Nat.pow_le_pow_right (by decide) (by omega))) ?_
  rw [Int.natAbs_natCast]
  exact Nat.lt_of_lt_of_le h1 (Nat.pow_le_pow_right (by decide) (by omega))
theorem row_get {t : List (List Rat)} {j : Nat} (h : j < t.length) : t[j]? = some (row t j) := by
  unfold row
  rw [List.getD_eq_getElem?_getD, List.getElem?_eq_getElem h]
  rfl
theorem row_mem {t : List (List Rat)} {j : Nat} (h : j < t.length) : row t j ∈ t := List.mem_of_getElem? (row_get h)
section
variable {m : Mo} {E e β : Nat}
theorem Mo.Ok.szC (ok : m.Ok E e β) {x : Rat} (h : x ∈ m.cash) : Sz (e + β) x := (ok.cf x h).sz ok.E0 ok.E1
theorem Mo.Ok.szD (ok : m.Ok E e β) {r : List Rat} (hr : r ∈ m.debts) {x : Rat} (h : x ∈ r) : Sz (e + β) x := (ok.df r hr x h).sz ok.E0 ok.E1
theorem Mo.Ok.szH (ok : m.Ok E e β) {r : List Rat} (hr : r ∈ m.holds) {x : Rat} (h : x ∈ r) : Sz (e + β) x := (ok.hf r hr x h).sz ok.E0 ok.E1
theorem Mo.Ok.szK (ok : m.Ok E e β) {x : Rat} (h : x ∈ m.keeps) : Sz (e + β) x := (ok.kf x h).sz ok.E0 ok.E1
theorem Mo.Ok.rowD_ (ok : m.Ok E e β) {j : Nat} (h : j < m.n) : row m.debts j ∈ m.debts ∧ (row m.debts j).length = m.n + 1 := by
  have h1 := row_mem (t := m.debts) (j := j) (by rw [ok.dl]; exact h)
  exact ⟨h1, ok.dr _ h1⟩
theorem Mo.Ok.rowH_ (ok : m.Ok E e β) {j : Nat} (h : j < m.n) : row m.holds j ∈ m.holds ∧ (row m.holds j).length = m.n := by
  have h1 := row_mem (t := m.holds) (j := j) (by rw [ok.hl]; exact h)
  exact ⟨h1, ok.hr _ h1⟩
/-- what a bank owes, over E -/
theorem Mo.Ok.pF (ok : m.Ok E e β) {j : Nat} (h : j < m.n) : ∃ s : Nat, m.p j = (s : Rat) / (E : Rat) ∧ s < 2 ^ (β + 3) := by
  obtain ⟨h1, h2⟩ := ok.rowD_ h
  have main : ∀ k, k ≤ m.n + 1 → ∃ s : Nat, sumR k (m.L j) = (s : Rat) / (E : Rat) ∧ s ≤ k * (2 ^ β - 1) := fun k => by
    induction k with
    | zero =>
      intro _
      refine ⟨0, ?_, by omega⟩
      rw [sumR]
      have : ((0 : Nat) : Rat) = 0 := rfl
      rw [this]
      grind
    | succ k ih =>
      intro hk
      obtain ⟨s, s1, s2⟩ := ih (by omega)
      have hm := ent_mem (rs := row m.debts j) (k := k) (by omega)
      obtain ⟨i, i1, i2⟩ := ok.df _ h1 _ hm
      have i0 := ok.d0 _ h1 _ hm
      have E0 : (0 : Rat) < (E : Rat) := by exact_mod_cast ok.E0
      have ip : 0 ≤ i := by
        rw [i1, le_div' E0] at i0
        have : (0 : Rat) ≤ (i : Rat) := by grind
        exact_mod_cast this
      refine ⟨s + i.toNat, ?_, ?_⟩
      · rw [sumR, s1]
        have : m.L j k = (i : Rat) / (E : Rat) := i1
        rw [this]
        have c1 : ((s + i.toNat : Nat) : Rat) = (s : Rat) + (i : Rat) := by
          have z : ((s + i.toNat : Nat) : Int) = (s : Int) + i := by omega
          have : (((s + i.toNat : Nat) : Int) : Rat) = ((s : Int) : Rat) + (i : Rat) := by rw [z, Rat.intCast_add]
          exact this
        rw [c1]
        grind
      · rw [Nat.add_mul, Nat.one_mul]
        omega
  obtain ⟨s, s1, s2⟩ := main (m.n + 1) (Nat.le_refl _)
  refine ⟨s, s1, ?_⟩
  have h7 := ok.n7
  have h8 : (m.n + 1) * (2 ^ β - 1) ≤ 8 * (2 ^ β - 1) := Nat.mul_le_mul_right _ (by omega)
  have h9 : 0 < 2 ^ β := Nat.pow_pos (by decide)
  rw [Nat.pow_add]
  omega
theorem Mo.Ok.szP (ok : m.Ok E e β) {j : Nat} (h : j < m.n) : Sz (e + β + 3) (m.p j) := by
  obtain ⟨s, s1, s2⟩ := ok.pF h
  rw [s1]
  have : (s : Rat) / (E : Rat) = Rat.divInt (s : Int) (E : Int) := (Rat.divInt_eq_div _ _).symm
  have h0 := ok.E0
  have h1 := ok.E1
  rw [this]
  refine sz_divInt (by omega) ?_ ?_
  · rw [Int.natAbs_natCast]
    exact Nat.lt_of_lt_of_le s2 (Nat.pow_le_pow_right (by decide) (by omega))
  · rw [Int.natAbs_natCast]
    exact Nat.lt_of_lt_of_le h1 (Nat.pow_le_pow_right (by decide) (by omega))
theorem Mo.Ok.p0 (ok : m.Ok E e β) {j : Nat} (h : j < m.n) : 0 ≤ m.p j := by
  obtain ⟨h1, h2⟩ := ok.rowD_ h
  exact sumR_nonneg fun i hi => ok.d0 _ h1 _ (ent_mem (by omega))
/-- a part of what a bank pays, over what it owes -/
theorem Mo.Ok.PF (ok : m.Ok E e β) {j i : Nat} (h : j < m.n) (hi : i < m.n + 1) : Sz (β + 3) (m.P j i) := by
  unfold Mo.P
  split
  · exact sz_zero.mono (by omega)
  · rename_i q
    obtain ⟨s, s1, s2⟩ := ok.pF h
    obtain ⟨h1, h2⟩ := ok.rowD_ h
    obtain ⟨l, l1, l2⟩ := ok.df _ h1 _ (ent_mem (rs := row m.debts j) (k := i) (by omega))
    have l1 : m.L j i = (l : Rat) / (E : Rat) := l1
    have E0 := natR ok.E0
    have s0 : s ≠ 0 := fun z => q (by rw [s1, z]; have : ((0 : Nat) : Rat) = 0 := rfl; rw [this]; grind)
    have sr := natR (show 0 < s by omega)
    have e1 : m.L j i / m.p j = (l : Rat) / (s : Rat) := by rw [l1, s1]; grind
    have e2 : (l : Rat) / (s : Rat) = Rat.divInt l (s : Int) := (Rat.divInt_eq_div _ _).symm
    rw [e1, e2]
    refine sz_divInt (by omega) (Nat.lt_of_lt_of_le l2 (Nat.pow_le_pow_right (by decide) (by omega))) ?_
    rw [Int.natAbs_natCast]
    exact s2
end
/-! ### the model's functions -/
@[simp] theorem atr_banks {m : Mo} : atrD (modelD m) [(4, 0)] = some (.tup m.bn) := rfl
@[simp] theorem atr_cash {m : Mo} : atrD (modelD m) [(4, 1)] = some (rowD m.cash) := rfl
@[simp] theorem atr_debts {m : Mo} : atrD (modelD m) [(4, 2)] = some (.tup (m.debts.map rowD)) := rfl
@[simp] theorem atr_holds {m : Mo} : atrD (modelD m) [(4, 3)] = some (.tup (m.holds.map rowD)) := rfl
@[simp] theorem atr_keeps {m : Mo} : atrD (modelD m) [(4, 4)] = some (rowD m.keeps) := rfl
section
variable {m : Mo} {E e β : Nat} (ok : m.Ok E e β) (S : PenSt)
include ok
theorem ok_need_model : F_need_model [modelD m] S = .ok (.im .non) S := by
  simp [F_need_model, evD, evF, b_need_model, ve_bnd, getV, modelD, isTys, isTy, truD]
theorem ok_owed_by {j : Nat} (h : j < m.n) : F_owed_by [modelD m, .int j] S = .ok (.im (qD (m.p j))) S := by
  obtain ⟨h1, h2⟩ := ok.rowD_ h
  have c := ok_sum_by (d := rowD (row m.debts j)) (b := e + β) S rfl (fun q hq => ok.szD h1 hq) (by
    have h7 := ok.n7
    have hs := ok.sm
    rw [h2]
    have : (m.n + 1) * (e + β + 1) ≤ 8 * 41 := Nat.mul_le_mul (by omega) (by omega)
    omega)
  rw [h2] at c
  have e1 := ix_tup (f := rowD) (row_get (t := m.debts) (j := j) (by rw [ok.dl]; exact h))
  refine fn_wp rfl ?_
  simp [b_owed_by, e1, c]
  rfl
def partsR (m : Mo) (j : Nat) : List Rat := (List.range (m.n + 1)).map (m.P j)
omit ok in
theorem len_partsR {j : Nat} : (partsR m j).length = m.n + 1 := by unfold partsR; rw [List.length_map, List.length_range]
omit ok in
theorem ent_range {n j : Nat} {f : Nat → Rat} (h : j < n) : ent ((List.range n).map f) j = f j := by
  unfold ent
  rw [List.getD_eq_getElem?_getD, List.getElem?_map, List.getElem?_range h]
  rfl
omit ok in
theorem list_ext {r : List Rat} {n : Nat} {f : Nat → Rat} (hl : r.length = n) (h : ∀ i, i < n → ent r i = f i) : r = (List.range n).map f := by
  apply List.ext_getElem
  · rw [hl, List.length_map, List.length_range]
  · intro i h1 h2
    have := h i (by omega)
    unfold ent at this
    rw [List.getD_eq_getElem?_getD, List.getElem?_eq_getElem h1] at this
    rw [List.getElem_map, List.getElem_range]
    exact this
theorem ok_parts_by {j : Nat} (h : j < m.n) : F_parts_by [modelD m, .int j] S = .ok (.im (rowD (partsR m j))) S := by
  obtain ⟨h1, h2⟩ := ok.rowD_ h
  have c := ok_owed_by ok S h
  have e1 := ix_tup (f := rowD) (row_get (t := m.debts) (j := j) (by rw [ok.dl]; exact h))
  have hs := ok.sm
  have h7 := ok.n7
  refine fn_wp rfl ?_
  by_cases q : m.p j = 0
  · have mu : binD .mul (.tup [qD 0]) (.int ((m.n : Int) + 1)) = some (.im (.tup (List.replicate (m.n + 1) (qD 0)))) := by
      have := mul_tup1 (x := qD 0) (w := m.n + 1) (by omega) (by omega)
      exact this
    simp [b_parts_by, c, truD, q, len_tup, ok.bl]
    have ba : binD .add (.int (m.n : Int)) (.int 1) = some (.im (.int ((m.n : Int) + 1))) := rfl
    rw [ba]
    simp
    rw [qD_0, mu]
    simp
    unfold rowD partsR
    rw [List.map_map]
    have : List.replicate (m.n + 1) (qD 0) = (List.range (m.n + 1)).map (fun _ => qD 0) := by
      rw [List.map_const', List.length_range]
    rw [this]
    congr 2
    funext i
    unfold Function.comp Mo.P
    rw [if_pos q]
  · simp [b_parts_by, c, truD, num_zero, q, e1]
    refine wp_map (fun _ => true) (fun x => qD (x / m.p j)) (fun ρ => ρ = [some (.im (modelD m)), some (.im (.int j)), some (.im (qD (m.p j))), none]) rfl (fun x hx ρ hρ => ?_) fun ρ' hρ => ?_
    · subst hρ
      have c1 := ok_parted S (ok.szD h1 hx) (ok.szP h) q (by omega)
      exact ⟨_, rfl, by simp [wipeE, c1]⟩
    · subst hρ
      rw [filter_t]
      simp [tuple_lst]
      unfold rowD partsR
      have el := list_ext (r := row m.debts j) (f := m.L j) h2 (fun i _ => rfl)
      rw [el, List.map_map, List.map_map]
      congr 2
      funext i
      unfold Function.comp Mo.P
      rw [if_neg q]
theorem ok_all_parts : F_all_parts [modelD m] S = .ok (.ow ((List.range m.n).map fun j => rowD (partsR m j))) S := by
  have h7 := ok.n7
  have hn2 : (m.n : Int) ≤ 100000 ∧ -100000 ≤ (m.n : Int) := by omega
  refine fn_wp rfl ?_
  simp [b_all_parts, len_tup, ok.bl, hn2, rng_map]
  refine wp_map (fun _ => true) (fun j => rowD (partsR m j)) (fun ρ => ρ = [some (.im (modelD m)), none]) rfl (fun j hj ρ hρ => ?_) fun ρ' hρ => ?_
  · subst hρ
    have c1 := ok_parts_by ok S (List.mem_range.mp hj)
    exact ⟨_, rfl, by simp [wipeE, c1]⟩
  · subst hρ
    rw [filter_t]
    simp
theorem ok_all_owed : F_all_owed [modelD m] S = .ok (.ow ((List.range m.n).map fun j => qD (m.p j))) S := by
  have h7 := ok.n7
  have hn2 : (m.n : Int) ≤ 100000 ∧ -100000 ≤ (m.n : Int) := by omega
  refine fn_wp rfl ?_
  simp [b_all_owed, len_tup, ok.bl, hn2, rng_map]
  refine wp_map (fun _ => true) (fun j => qD (m.p j)) (fun ρ => ρ = [some (.im (modelD m)), none]) rfl (fun j hj ρ hρ => ?_) fun ρ' hρ => ?_
  · subst hρ
    have c1 := ok_owed_by ok S (List.mem_range.mp hj)
    exact ⟨_, rfl, by simp [wipeE, c1]⟩
  · subst hρ
    rw [filter_t]
    simp
end
end PdL
set_option Elab.async false
set_option linter.all false
set_option maxRecDepth 100000
set_option maxHeartbeats 4000000
namespace PdL
open PySem L2 Pd Th
def asT (m : Mo) (x w : List Rat) (i : Nat) : Rat := m.c i + sumR m.n (fun j => ent x j * m.P j i) + sumR m.n (fun j => ent w j * m.H j i)
def asR (m : Mo) (x w : List Rat) : List Rat := (List.range m.n).map (asT m x w)
theorem enm_at {α : Type} {f : α → D} {xs : List α} {k : Nat} {d : D} (h : (enmL 0 (xs.map f))[k]? = some d) : ∃ x, xs[k]? = some x ∧ d = .tup [.int k, f x] := by
  rw [enm_map, List.getElem?_map, Option.map_eq_some_iff] at h
  obtain ⟨p, h1, h2⟩ := h
  rw [List.getElem?_zipIdx, Option.map_eq_some_iff] at h1
  obtain ⟨x, h3, h4⟩ := h1
  refine ⟨x, h3, ?_⟩
  rw [← h2, ← h4]
  simp
theorem enm_len {α : Type} {f : α → D} {xs : List α} : (enmL 0 (xs.map f)).length = xs.length := by
  rw [enm_map, List.length_map, List.length_zipIdx]
theorem range_succ_map {α : Type} {f : Nat → α} {k : Nat} : (List.range (k + 1)).map f = (List.range k).map f ++ [f k] := by
  rw [List.range_succ, List.map_append]
  rfl
theorem dotS_range {n : Nat} {x : List Rat} {f : Nat → Rat} (hl : x.length = n) : dotS x ((List.range n).map f) = sumR n (fun j => ent x j * f j) := by
  unfold dotS
  rw [List.length_map, List.length_range, hl, Nat.min_self]
  exact sumR_congr fun i hi => by rw [ent_range hi]
section
variable {m : Mo} {E e β : Nat} (ok : m.Ok E e β) (S : PenSt)
include ok
theorem sz_asR {x w : List Rat} {a : Nat} (hx : x.length = m.n) (hw : w.length = m.n) (sx : ∀ q ∈ x, Sz a q) (sw : ∀ q ∈ w, Sz a q) : ∀ q ∈ asR m x w, Sz (2 * m.n * (a + e + β + 4) + e + β + 4) q := fun q hq => by
  obtain ⟨i, hi, rfl⟩ := List.mem_map.mp hq
  have hi := List.mem_range.mp hi
  have s1 := sz_sumR (f := fun j => ent x j * m.P j i) (b := a + (β + 3)) m.n (fun j hj => sz_mul (sx _ (ent_mem (by omega))) (ok.PF hj (by omega)))
  have s2 := sz_sumR (f := fun j => ent w j * m.H j i) (b := a + (e + β)) m.n (fun j hj => sz_mul (sw _ (ent_mem (by omega))) (ok.szH (ok.rowH_ hj).1 (ent_mem (by rw [(ok.rowH_ hj).2]; exact hi))))
  refine (sz_add (sz_add (ok.szC (ent_mem (rs := m.cash) (k := i) (by rw [ok.cl]; exact hi))) s1) s2).mono ?_
  have h1 : m.n * (a + (β + 3) + 1) ≤ m.n * (a + e + β + 4) := Nat.mul_le_mul_left _ (by omega)
  have h2 : m.n * (a + (e + β) + 1) ≤ m.n * (a + e + β + 4) := Nat.mul_le_mul_left _ (by omega)
  have h3 : 2 * m.n * (a + e + β + 4) = m.n * (a + e + β + 4) + m.n * (a + e + β + 4) := by rw [Nat.mul_assoc, Nat.two_mul]
  omega
theorem ok_assets_by {x w : List Rat} {d f : D} {a : Nat} (hd : d.items = some (x.map qD)) (hf : f.items = some (w.map qD)) (hx : x.length = m.n) (hw : w.length = m.n) (sx : ∀ q ∈ x, Sz a q) (sw : ∀ q ∈ w, Sz a q) (hz : 2 * m.n * (a + e + β + 4) + e + β + 4 < 9000) :
    F_assets_by [modelD m, d, f] S = .ok (.im (rowD (asR m x w))) S := by
  have h7 := ok.n7
  have h3 : 2 * m.n * (a + e + β + 4) = m.n * (a + e + β + 4) + m.n * (a + e + β + 4) := by rw [Nat.mul_assoc, Nat.two_mul]
  have n1 : m.n * (a + (β + 3) + 1) ≤ m.n * (a + e + β + 4) := Nat.mul_le_mul_left _ (by omega)
  have n2 : m.n * (a + (e + β) + 1) ≤ m.n * (a + e + β + 4) := Nat.mul_le_mul_left _ (by omega)
  have cp := ok_all_parts ok S
  refine fn_wp rfl ?_
  simp [b_assets_by, cp, asgs]
  refine wp_for (fun k ρ S' => S' = S ∧ ∃ s3 x5 x6 x7, s3.d = .lst ((List.range m.n).map fun j => rowD (partsR m j)) ∧ ρ = [some (.im (modelD m)), some (.im d), some (.im f), some s3, some (.ow ((List.range k).map fun i => qD (asT m x w i))), x5, x6, x7, none])
    ⟨rfl, .ow _, none, none, none, rfl, rfl⟩ (fun i y ρ S' hk ⟨hS, s3, x5, x6, x7, h3', hρ⟩ => ?_) fun ρ' S' ⟨hS, s3, x5, x6, x7, h3', hρ⟩ => ?_
  · subst hS hρ
    obtain ⟨ca, hca, rfl⟩ := enm_at hk
    have hin : i < m.n := by rw [← ok.cl]; exact (List.getElem?_eq_some_iff.mp hca).1
    have eca : ca = m.c i := by
      have : m.cash[i]? = some (ent m.cash i) := ent_get (by rw [ok.cl]; exact hin)
      rw [hca] at this
      exact Option.some.inj this
    subst eca
    refine ⟨_, rfl, ?_⟩
    simp [h3']
    refine wp_map (fun _ => true) (fun j => qD (m.P j i)) (fun ρ => ρ = [some (.im (modelD m)), some (.im d), some (.im f), some (.im (.lst ((List.range m.n).map fun j => rowD (partsR m j)))), some (.ow ((List.range i).map fun i => qD (asT m x w i))), some (.im (.int i)), some (.im (qD (m.c i))), x7, none]) rfl (fun j hj ρ hρ => ?_) fun ρ' hρ => ?_
    · subst hρ
      have e1 := ix_row (r := partsR m j) (k := i) (by rw [len_partsR]; omega)
      have e2 : ent (partsR m j) i = m.P j i := ent_range (by omega)
      rw [e2] at e1
      exact ⟨_, rfl, by simp [wipeE, e1]⟩
    subst hρ
    rw [filter_t]
    have cd := ok_dot_of (d := d) (e := .lst ((List.range m.n).map fun j => qD (m.P j i))) (xs := x) (ys := (List.range m.n).map fun j => m.P j i) (a := a) (b := β + 3) S' hd (by rw [List.map_map]; rfl) sx (fun q hq => by
      obtain ⟨j, hj, rfl⟩ := List.mem_map.mp hq
      exact ok.PF (List.mem_range.mp hj) (by omega)) (by rw [hx]; omega)
    rw [dotS_range hx] at cd
    have sC := ok.szC (ent_mem (rs := m.cash) (k := i) (by rw [ok.cl]; exact hin))
    have s1 := sz_sumR (f := fun j => ent x j * m.P j i) (b := a + (β + 3)) m.n (fun j hj => sz_mul (sx _ (ent_mem (by omega))) (ok.PF hj (by omega)))
    have s2 := sz_sumR (f := fun j => ent w j * m.H j i) (b := a + (e + β)) m.n (fun j hj => sz_mul (sw _ (ent_mem (by omega))) (ok.szH (ok.rowH_ hj).1 (ent_mem (by rw [(ok.rowH_ hj).2]; exact hin))))
    have cs := ok_summed S' sC s1 (by omega)
    have cs : F_summed [qD (m.c i), qD (sumR m.n (fun j => ent x j * m.P j i))] S' = .ok (.im (qD (m.c i + sumR m.n (fun j => ent x j * m.P j i)))) S' := cs
    simp [cd, cs]
    refine wp_map (fun _ => true) (fun r => qD (ent r i)) (fun ρ => ρ = [some (.im (modelD m)), some (.im d), some (.im f), some (.im (.lst ((List.range m.n).map fun j => rowD (partsR m j)))), some (.ow ((List.range i).map fun i => qD (asT m x w i))), some (.im (.int i)), some (.im (qD (m.c i))), some (.im (qD (sumR m.n (fun j => ent x j * m.P j i)))), none]) rfl (fun r hr ρ hρ => ?_) fun ρ' hρ => ?_
    · subst hρ
      have e1 := ix_row (r := r) (k := i) (by rw [ok.hr _ hr]; omega)
      exact ⟨_, rfl, by simp [wipeE, e1]⟩
    subst hρ
    rw [filter_t]
    have eh : m.holds.map (fun r => qD (ent r i)) = ((List.range m.n).map fun j => m.H j i).map qD := by
      apply List.ext_getElem
      · rw [List.length_map, List.length_map, List.length_map, List.length_range, ok.hl]
      · intro j h1 h2
        rw [List.length_map] at h1
        have := row_get (t := m.holds) (j := j) h1
        rw [List.getElem?_eq_getElem h1] at this
        rw [List.getElem_map, List.getElem_map, List.getElem_map, List.getElem_range, Option.some.inj this]
        rfl
    have cd2 := ok_dot_of (d := f) (e := .lst (m.holds.map (fun r => qD (ent r i)))) (xs := w) (ys := (List.range m.n).map fun j => m.H j i) (a := a) (b := e + β) S' hf (by rw [eh]; rfl) sw (fun q hq => by
      obtain ⟨j, hj, rfl⟩ := List.mem_map.mp hq
      have hj := List.mem_range.mp hj
      exact ok.szH (ok.rowH_ hj).1 (ent_mem (by rw [(ok.rowH_ hj).2]; exact hin))) (by rw [hw]; omega)
    rw [dotS_range hw] at cd2
    have cs2 := ok_summed S' (sz_add sC s1) s2 (by omega)
    have cs2 : F_summed [qD (m.c i + sumR m.n (fun j => ent x j * m.P j i)), qD (sumR m.n (fun j => ent w j * m.H j i))] S' = .ok (.im (qD (asT m x w i))) S' := cs2
    simp [cd2, cs2]
    refine ⟨by omega, ?_⟩
    rw [range_succ_map]
    exact ⟨_, rfl, rfl, rfl⟩
  · subst hS hρ
    unfold rowD
    rw [enm_len, ok.cl]
    simp [tuple_lst, asR, rowD]
/-- the banks whose assets are less than they owe -/
def lackR (m : Mo) (a : List Rat) : List Nat := (List.range m.n).filter fun i => decide (ent a i < m.p i)
def natsD (l : List Nat) : D := .tup (l.map fun i => D.int (i : Nat))
theorem ok_lacking {x : List Rat} {a : Nat} (hx : x.length = m.n) (sx : ∀ q ∈ x, Sz a q) (hz : a + e + β + 3 < 9000) : F_lacking [modelD m, rowD x] S = .ok (.im (natsD (lackR m x))) S := by
  have co := ok_all_owed ok S
  refine fn_wp rfl ?_
  have ez : enmL 0 ((List.range m.n).map fun j => qD (m.p j)) = (List.range m.n).map fun j => .tup [.int j, qD (m.p j)] := by
    apply List.ext_getElem?
    intro k
    rw [enm_map, List.getElem?_map, List.getElem?_map, List.getElem?_zipIdx]
    by_cases q : k < m.n
    · rw [List.getElem?_range q]; simp
    · rw [List.getElem?_eq_none (by rw [List.length_range]; omega)]; simp
  simp [b_lacking, co, ez]
  refine wp_map (fun i => decide (ent x i < m.p i)) (fun i => .int (i : Nat)) (fun ρ => ρ = [some (.im (modelD m)), some (.im (rowD x)), none, none]) rfl (fun i hi ρ hρ => ?_) fun ρ' hρ => ?_
  · subst hρ
    have hi := List.mem_range.mp hi
    have e1 := ix_row (r := x) (k := i) (by omega)
    have c1 := ok_below S (sx _ (ent_mem (rs := x) (k := i) (by omega))) (ok.szP hi) (by omega)
    refine ⟨_, rfl, ?_⟩
    by_cases q : ent x i < m.p i
    · simp [wipeE, e1, c1, truD, q]
    · simp [wipeE, e1, c1, truD, q]
  · subst hρ
    simp [tuple_lst, natsD, lackR]
end
end PdL
set_option Elab.async false
set_option linter.all false
set_option maxRecDepth 100000
set_option maxHeartbeats 4000000
namespace PdL
open PySem L2 Pd Th
/-! ### ways -/
def wordD (b r : Bool) : D := if b then (if r then .str "full" else .str "kept") else (if r then .str "rest" else .str "flat")
def wayD (s c s' c' : Rat) : D := .tup [.tup [qD s, qD c], .tup [qD s', qD c']]
def wayR (m : Mo) (b r : Nat → Bool) (j : Nat) : D := wayD (sp (b j) (r j) (m.k j)) (cp (b j) (r j) (m.k j) (m.p j)) (sw (b j) (r j)) (cw (b j) (r j) (m.p j))
theorem w_rr : cmpD .eq (.str "rest") (.str "rest") = some true := by decide +kernel
theorem w_fr : cmpD .eq (.str "flat") (.str "rest") = some false := by decide +kernel
theorem w_ur : cmpD .eq (.str "full") (.str "rest") = some false := by decide +kernel
theorem w_kr : cmpD .eq (.str "kept") (.str "rest") = some false := by decide +kernel
theorem w_ff : cmpD .eq (.str "flat") (.str "flat") = some true := by decide +kernel
theorem w_uf : cmpD .eq (.str "full") (.str "flat") = some false := by decide +kernel
theorem w_kf : cmpD .eq (.str "kept") (.str "flat") = some false := by decide +kernel
theorem w_kk : cmpD .eq (.str "kept") (.str "kept") = some true := by decide +kernel
theorem w_uk : cmpD .eq (.str "full") (.str "kept") = some false := by decide +kernel
section
variable {m : Mo} {E e β : Nat} (ok : m.Ok E e β) (S : PenSt)
include ok
theorem ok_way_of {j : Nat} (h : j < m.n) (b r : Nat → Bool) : F_way_of [modelD m, .int j, qD (m.p j), wordD (b j) (r j)] S = .ok (.im (wayR m b r j)) S := by
  have c1 := ok_turned_sign (m.p j) S
  have hs := ok.sm
  have e1 := ix_row (r := m.keeps) (k := j) (by rw [ok.kl]; exact h)
  have c2 := ok_scaled S (ok.szK (ent_mem (rs := m.keeps) (k := j) (by rw [ok.kl]; exact h))) (ok.szP h) (by omega)
  have c2 : F_scaled [qD (ent m.keeps j), qD (m.p j)] S = .ok (.im (qD (m.k j * m.p j))) S := c2
  refine fn_wp rfl ?_
  cases hb : b j <;> cases hr : r j
  · simp [b_way_of, wordD, w_fr, w_ff, truD, wayR, wayD, sp, cp, sw, cw, hb, hr, qD_0]
  · simp [b_way_of, wordD, w_rr, truD, wayR, wayD, sp, cp, sw, cw, hb, hr, qD_0, qD_1, c1]
  · simp [b_way_of, wordD, w_kr, w_kf, w_kk, truD, wayR, wayD, sp, cp, sw, cw, hb, hr, qD_0, e1]
    rfl
  · simp [b_way_of, wordD, w_ur, w_uf, w_uk, truD, wayR, wayD, sp, cp, sw, cw, hb, hr, qD_0, e1, c2]
omit ok in
theorem fwd {body : M Flow'} {tg : IT} {d : D} {ds : List D} {ρ ρ1 : Rho} {S : PenSt} {R : Flow' → Rho → PenSt → Prop} (h1 : asgT tg d ρ = some ρ1) (h2 : wp body (fun f ρ2 S2 => f = .nx ∧ wp (forLoop tg body ds) R ρ2 S2) ρ1 S) : wp (forLoop tg body (d :: ds)) R ρ S := by
  unfold wp forLoop
  rw [h1]
  dsimp only
  unfold wp at h2
  split at h2
  · rename_i f ρ2 S2 e
    rw [e]
    obtain ⟨rfl, h3⟩ := h2
    exact h3
  · exact h2.elim
omit ok in
@[simp] theorem wp_for0 {body : M Flow'} {tg : IT} {ρ : Rho} {S : PenSt} {R : Flow' → Rho → PenSt → Prop} : wp (forLoop tg body []) R ρ S = R .nx ρ S := rfl
/-! the rows of equations -/
def dl (i j : Nat) : Rat := if i = j then 1 else 0
def rowP (m : Mo) (b r : Nat → Bool) (i k : Nat) (j : Nat) : Rat := dl j i - (if j < k then Mx m.bk b r i j else 0)
def rhtP (m : Mo) (b r : Nat → Bool) (i k : Nat) : Rat := m.c i + sumR k (fun j => cp (b j) (r j) (m.k j) (m.p j) * m.P j i + cw (b j) (r j) (m.p j) * m.H j i)
omit ok in
theorem plus_unit {n : Nat} {f : Nat → Rat} {c : Rat} {k : Nat} : plusTimes ((List.range n).map f) c (unitR n k) = (List.range n).map (fun j => f j + c * dl j k) := by
  refine list_ext (n := n) ?_ fun j hj => ?_
  · rw [len_plusTimes (by rw [len_unitR, List.length_map, List.length_range]), len_unitR]
  · rw [ent_plusTimes (by rw [len_unitR, List.length_map, List.length_range]), ent_range hj, ent_unitR hj]
    rfl
theorem sz_sp {j : Nat} (h : j < m.n) (b r : Bool) : Sz (e + β + 3) (sp b r (m.k j)) := by
  have := ok.szK (ent_mem (rs := m.keeps) (k := j) (by rw [ok.kl]; exact h))
  unfold sp
  split
  · exact this.mono (by omega)
  · exact sz_zero.mono (by omega)
omit ok in
theorem sz_sw (b r : Bool) : Sz 1 (sw b r) := by
  unfold sw
  split
  · exact sz_one
  · exact sz_zero
theorem sz_cp {j : Nat} (h : j < m.n) (b r : Bool) : Sz (2 * (e + β + 3)) (cp b r (m.k j) (m.p j)) := by
  have h1 := ok.szK (ent_mem (rs := m.keeps) (k := j) (by rw [ok.kl]; exact h))
  have h2 := ok.szP h
  unfold cp
  split
  · split
    · exact (sz_mul h1 h2).mono (by omega)
    · exact sz_zero.mono (by omega)
  · exact h2.mono (by omega)
theorem sz_cw {j : Nat} (h : j < m.n) (b r : Bool) : Sz (e + β + 3) (cw b r (m.p j)) := by
  have h2 := ok.szP h
  unfold cw
  split
  · exact sz_neg h2
  · exact sz_zero.mono (by omega)
omit ok in
theorem sz_dl (i j : Nat) : Sz 1 (dl i j) := by
  unfold dl
  split
  · exact sz_one
  · exact sz_zero
theorem szHh {j i : Nat} (hj : j < m.n) (hi : i < m.n) : Sz (e + β) (m.H j i) := ok.szH (ok.rowH_ hj).1 (ent_mem (by rw [(ok.rowH_ hj).2]; exact hi))
theorem sz_Mx {i j : Nat} (hi : i < m.n) (hj : j < m.n) (b r : Nat → Bool) : Sz (4 * (e + β + 3)) (Mx m.bk b r i j) := by
  unfold Mx
  exact (sz_add (sz_mul (sz_sp ok hj _ _) (ok.PF hj (by omega))) (sz_mul (sz_sw _ _) (szHh ok hj hi))).mono (by omega)
theorem sz_rowP {i k j : Nat} (hi : i < m.n) (hj : j < m.n) (b r : Nat → Bool) : Sz (4 * (e + β + 3) + 2) (rowP m b r i k j) := by
  unfold rowP
  refine (sz_sub (a := 1) (b := 4 * (e + β + 3)) (sz_dl _ _) ?_).mono (by omega)
  split
  · exact sz_Mx ok hi hj b r
  · exact sz_zero.mono (by omega)
theorem sz_rhtP {i k : Nat} (hi : i < m.n) (hk : k ≤ m.n) (b r : Nat → Bool) : Sz (49 * (e + β + 3)) (rhtP m b r i k) := by
  have h7 := ok.n7
  unfold rhtP
  have s1 := sz_sumR (f := fun j => cp (b j) (r j) (m.k j) (m.p j) * m.P j i + cw (b j) (r j) (m.p j) * m.H j i) (b := 6 * (e + β + 3)) k (fun j hj => (sz_add (sz_mul (sz_cp ok (by omega) _ _) (ok.PF (by omega) (by omega))) (sz_mul (sz_cw ok (by omega) _ _) (szHh ok (by omega) hi))).mono (by omega))
  refine (sz_add (ok.szC (ent_mem (rs := m.cash) (k := i) (by rw [ok.cl]; exact hi))) s1).mono ?_
  have : k * (6 * (e + β + 3) + 1) ≤ 7 * (6 * (e + β + 3) + 1) := Nat.mul_le_mul_right _ (by omega)
  omega
theorem ok_equations {f : D} (b r : Nat → Bool) (hf : f.items = some ((List.range m.n).map (wayR m b r))) (hfx : ∀ j, j < m.n → ixD f (.int j) = some (wayR m b r j)) :
    F_equations [modelD m, f] S = .ok (.im (.tup [.lst ((List.range m.n).map fun i => rowD ((List.range m.n).map (rowP m b r i m.n))), .lst ((List.range m.n).map fun i => qD (rhtP m b r i m.n))])) S := by
  have h7 := ok.n7
  have hs := ok.sm
  have hn2 : (m.n : Int) ≤ 100000 ∧ -100000 ≤ (m.n : Int) := by omega
  have cp_ := ok_all_parts ok S
  refine fn_wp rfl ?_
  simp [b_equations, cp_, asgs, len_tup, ok.bl, hn2, rng_map]
  refine wp_for (fun i ρ S' => S' = S ∧ ∃ x2 s4 x7 x8 x9 x10 x11 x12, s4.d = .lst ((List.range m.n).map fun j => rowD (partsR m j)) ∧ ρ = [some (.im (modelD m)), some (.im f), x2, some (.im (.int m.n)), some s4, some (.ow ((List.range i).map fun i => rowD ((List.range m.n).map (rowP m b r i m.n)))), some (.ow ((List.range i).map fun i => qD (rhtP m b r i m.n))), x7, x8, x9, x10, x11, x12])
    ⟨rfl, none, .ow _, none, none, none, none, none, none, rfl, rfl⟩ (fun i y ρ S' hk ⟨hS, x2, s4, x7, x8, x9, x10, x11, x12, h4, hρ⟩ => ?_) fun ρ' S' ⟨hS, x2, s4, x7, x8, x9, x10, x11, x12, h4, hρ⟩ => ?_
  · subst hS hρ
    obtain ⟨rfl, hi⟩ := rng_at hk
    refine ⟨_, rfl, ?_⟩
    have cu := ok_unit_row (n := m.n) (p := i) S' (by omega)
    have ec := ix_row (r := m.cash) (k := i) (by rw [ok.cl]; exact hi)
    have u0 : unitR m.n i = (List.range m.n).map (rowP m b r i 0) := by
      unfold unitR
      congr 1
      funext j
      unfold rowP dl
      rw [if_neg (Nat.not_lt_zero j)]
      grind
    have r0 : m.c i = rhtP m b r i 0 := by
      unfold rhtP
      rw [sumR]
      grind
    simp [cu, ec, asgs, hn2, rng_map]
    refine wp_for (fun k ρ S'' => S'' = S' ∧ ∃ s4 x7 x10 x11 x12, s4.d = .lst ((List.range m.n).map fun j => rowD (partsR m j)) ∧ ρ = [some (.im (modelD m)), some (.im f), some (.im (.int i)), some (.im (.int m.n)), some s4, some (.ow ((List.range i).map fun i => rowD ((List.range m.n).map (rowP m b r i m.n)))), some (.ow ((List.range i).map fun i => qD (rhtP m b r i m.n))), x7, some (.im (rowD ((List.range m.n).map (rowP m b r i k)))), some (.im (qD (rhtP m b r i k))), x10, x11, x12])
      ⟨rfl, s4, x7, x10, x11, x12, h4, by rw [u0]; rw [← r0]; rfl⟩ (fun k y ρ S'' hk ⟨hS, s4, x7, x10, x11, x12, h4, hρ⟩ => ?_) fun ρ' S'' ⟨hS, s4, x7, x10, x11, x12, h4, hρ⟩ => ?_
    · subst hS hρ
      obtain ⟨rfl, hk2⟩ := rng_at hk
      clear hk
      have hk := hk2
      refine ⟨_, rfl, ?_⟩
      have ew := hfx k hk
      have ep := ix_lst (f := fun j => rowD (partsR m j)) (xs := List.range m.n) (k := k) (x := k) (List.getElem?_range hk)
      have e1 := ix_row (r := partsR m k) (k := i) (by rw [len_partsR]; omega)
      have e2 : ent (partsR m k) i = m.P k i := ent_range (by omega)
      rw [e2] at e1
      have e3 := ix_tup (f := rowD) (row_get (t := m.holds) (j := k) (by rw [ok.hl]; exact hk))
      have e4 := ix_row (r := row m.holds k) (k := i) (by rw [(ok.rowH_ hk).2]; exact hi)
      have e4 : ixD (rowD (row m.holds k)) (.int i) = some (qD (m.H k i)) := e4
      simp [ew, h4, ep, e1, e3, e4]
      have su := ok_unit_row (n := m.n) (p := k) S'' (by omega)
      have s1 := sz_sp ok hk (b k) (r k)
      have s2 := ok.PF hk (show i < m.n + 1 by omega)
      have s3 := sz_sw (b k) (r k)
      have s5 := szHh ok hk hi
      have s6 := sz_cp ok hk (b k) (r k)
      have s7 := sz_cw ok hk (b k) (r k)
      have s8 := sz_rhtP ok hi (Nat.le_of_lt hk) b r
      have c1 := ok_scaled S'' s1 s2 (by omega)
      have c2 := ok_turned_sign (sp (b k) (r k) (m.k k) * m.P k i) S''
      have c3 := ok_scaled S'' s3 s5 (by omega)
      have c4 := ok_turned_sign (sw (b k) (r k) * m.H k i) S''
      have szr : ∀ q ∈ (List.range m.n).map (rowP m b r i k), Sz (4 * (e + β + 3) + 2) q := fun q hq => by
        obtain ⟨j, hj, rfl⟩ := List.mem_map.mp hq
        exact sz_rowP ok hi (List.mem_range.mp hj) b r
      have c5 := ok_plus_times (d := rowD ((List.range m.n).map (rowP m b r i k))) (e := rowD (unitR m.n k)) S'' rfl rfl (by rw [len_unitR, List.length_map, List.length_range]) szr sz_unitR (sz_neg (sz_mul s1 s2)) (by omega) rfl
      rw [plus_unit] at c5
      have c6 := ok_plus_times (d := .tup [qD (rhtP m b r i k)]) (e := .tup [qD (cp (b k) (r k) (m.k k) (m.p k))]) (xs := [rhtP m b r i k]) (ys := [cp (b k) (r k) (m.k k) (m.p k)]) S'' rfl rfl rfl (fun q hq => by rw [List.mem_singleton.mp hq]; exact s8) (fun q hq => by rw [List.mem_singleton.mp hq]; exact s6) s2 (by omega) rfl
      have szr2 : ∀ q ∈ (List.range m.n).map (fun j => rowP m b r i k j + -(sp (b k) (r k) (m.k k) * m.P k i) * dl j k), Sz (7 * (e + β + 3) + 4) q := fun q hq => by
        obtain ⟨j, hj, rfl⟩ := List.mem_map.mp hq
        exact (sz_add (sz_rowP ok hi (List.mem_range.mp hj) b r) (sz_mul (sz_neg (sz_mul s1 s2)) (sz_dl j k))).mono (by omega)
      have c7 := ok_plus_times (d := rowD ((List.range m.n).map (fun j => rowP m b r i k j + -(sp (b k) (r k) (m.k k) * m.P k i) * dl j k))) (e := rowD (unitR m.n k)) S'' rfl rfl (by rw [len_unitR, List.length_map, List.length_range]) szr2 sz_unitR (sz_neg (sz_mul s3 s5)) (by omega) rfl
      rw [plus_unit] at c7
      have s9 : Sz (53 * (e + β + 3)) (rhtP m b r i k + m.P k i * cp (b k) (r k) (m.k k) (m.p k)) := (sz_add s8 (sz_mul s2 s6)).mono (by omega)
      have c8 := ok_plus_times (d := .tup [qD (rhtP m b r i k + m.P k i * cp (b k) (r k) (m.k k) (m.p k))]) (e := .tup [qD (cw (b k) (r k) (m.p k))]) (xs := [rhtP m b r i k + m.P k i * cp (b k) (r k) (m.k k) (m.p k)]) (ys := [cw (b k) (r k) (m.p k)]) S'' rfl rfl rfl (fun q hq => by rw [List.mem_singleton.mp hq]; exact s9) (fun q hq => by rw [List.mem_singleton.mp hq]; exact s7) s5 (by omega) rfl
      unfold wayR wayD
      simp [zip2L]
      refine fwd rfl ?_
      have ix1 : ixD (rowD (plusTimes [rhtP m b r i k] (m.P k i) [cp (b k) (r k) (m.k k) (m.p k)])) (.int 0) = some (qD (rhtP m b r i k + m.P k i * cp (b k) (r k) (m.k k) (m.p k))) := rfl
      have ix2 : ixD (rowD (plusTimes [rhtP m b r i k + m.P k i * cp (b k) (r k) (m.k k) (m.p k)] (m.H k i) [cw (b k) (r k) (m.p k)])) (.int 0) = some (qD (rhtP m b r i k + m.P k i * cp (b k) (r k) (m.k k) (m.p k) + m.H k i * cw (b k) (r k) (m.p k))) := rfl
      simp [c1, c2, c5, su, c6, ix1]
      refine fwd rfl ?_
      simp [c3, c4, c7, su, c8, ix2]
      refine ⟨_, rfl, rfl, ?_, ?_⟩
      · congr 2
        funext j
        unfold rowP Mx
        by_cases q : j < k
        · have a1 : j < k + 1 := by omega
          have a2 : dl j k = 0 := if_neg (by omega)
          rw [if_pos q, if_pos a1, a2]
          grind
        · by_cases q2 : j = k
          · subst q2
            have a2 : dl j j = 1 := if_pos rfl
            rw [if_neg q, if_pos (by omega), a2]
            show _ = dl j i - (sp (b j) (r j) (m.k j) * m.P j i + sw (b j) (r j) * m.H j i)
            grind
          · have a2 : dl j k = 0 := if_neg q2
            rw [if_neg q, if_neg (by omega), a2]
            grind
      · unfold rhtP
        rw [sumR]
        congr 1
        grind
    · subst hS hρ
      rw [List.length_map, List.length_range]
      refine wp_mono (Q := fun g ρ2 S2 => g = .nx ∧ S2 = S'' ∧ ρ2 = [some (.im (modelD m)), some (.im f), some (.im (.int i)), some (.im (.int m.n)), some s4, some (.ow ((List.range (i + 1)).map fun i => rowD ((List.range m.n).map (rowP m b r i m.n)))), some (.ow ((List.range (i + 1)).map fun i => qD (rhtP m b r i m.n))), x7, some (.im (rowD ((List.range m.n).map (rowP m b r i m.n)))), some (.im (qD (rhtP m b r i m.n))), x10, x11, x12]) ?_ fun g ρ2 S2 ⟨h1, h2, h3⟩ => ⟨h1, h2, _, _, h4, _, _, _, _, _, _, h3⟩
      rw [range_succ_map, range_succ_map]
      simp
      omega
  · subst hS hρ
    rw [List.length_map, List.length_range]
    simp
end
end PdL
set_option Elab.async false
set_option linter.all false
set_option maxRecDepth 100000
set_option maxHeartbeats 4000000
namespace PdL
open PySem L2 Pd Th
/-! ### wholes over a bottom -/
def Fb (D B : Nat) (x : Rat) : Prop := ∃ i : Int, x * (D : Rat) = (i : Rat) ∧ i.natAbs ≤ B
theorem Fb.to {D B D' B' : Nat} {x : Rat} (h : Fb D B x) (e : D = D') (l : B ≤ B') : Fb D' B' x := by
  obtain ⟨i, h1, h2⟩ := h
  subst e
  exact ⟨i, h1, by omega⟩
theorem fb_zero {D B : Nat} : Fb D B 0 := ⟨0, by show (0 : Rat) * _ = 0; grind, by simp⟩
theorem fb_add {D B B' : Nat} {x y : Rat} (h : Fb D B x) (g : Fb D B' y) : Fb D (B + B') (x + y) := by
  obtain ⟨i, h1, h2⟩ := h
  obtain ⟨j, g1, g2⟩ := g
  exact ⟨i + j, by rw [Rat.intCast_add]; grind, by omega⟩
theorem fb_neg {D B : Nat} {x : Rat} (h : Fb D B x) : Fb D B (-x) := by
  obtain ⟨i, h1, h2⟩ := h
  exact ⟨-i, by rw [Rat.intCast_neg]; grind, by omega⟩
theorem fb_mul {D B D' B' : Nat} {x y : Rat} (h : Fb D B x) (g : Fb D' B' y) : Fb (D * D') (B * B') (x * y) := by
  obtain ⟨i, h1, h2⟩ := h
  obtain ⟨j, g1, g2⟩ := g
  exact ⟨i * j, by rw [Rat.intCast_mul, natM]; grind, by rw [Int.natAbs_mul]; exact Nat.mul_le_mul h2 g2⟩
theorem fb_scale {D B : Nat} {x : Rat} (k : Nat) (h : Fb D B x) : Fb (D * k) (B * k) x := by
  obtain ⟨i, h1, h2⟩ := h
  exact ⟨i * k, by rw [Rat.intCast_mul, natM]; have : ((k : Int) : Rat) = (k : Rat) := rfl; rw [this]; grind, by rw [Int.natAbs_mul, Int.natAbs_natCast]; exact Nat.mul_le_mul_right _ h2⟩
theorem fb_one : Fb 1 1 1 := ⟨1, by rw [Rat.one_mul]; rfl, by decide⟩
theorem fb_sum {D B : Nat} {f : Nat → Rat} : ∀ {n : Nat}, (∀ i, i < n → Fb D B (f i)) → Fb D (n * B) (sumR n f)
  | 0, _ => fb_zero
  | n + 1, h => (fb_add (fb_sum fun i hi => h i (by omega)) (h n (by omega))).to rfl (by rw [Nat.add_mul, Nat.one_mul]; exact Nat.le_refl _)
theorem Fr.fb {E β : Nat} {x : Rat} (h : Fr E β x) (E0 : 0 < E) : Fb E (2 ^ β) x := by
  obtain ⟨i, rfl, hi⟩ := h
  exact ⟨i, Rat.div_mul_cancel (natR E0), by omega⟩
def NJ (m : Mo) (E j : Nat) : Nat := if j < m.n then max 1 (m.p j * E).num.natAbs else 1
section
variable {m : Mo} {E e β : Nat} (ok : m.Ok E e β) (S : PenSt)
include ok
theorem NJ_s {j : Nat} (hj : j < m.n) : ∃ s : Nat, m.p j = (s : Rat) / (E : Rat) ∧ s < 2 ^ (β + 3) ∧ NJ m E j = max 1 s := by
  obtain ⟨s, s1, s2⟩ := ok.pF hj
  refine ⟨s, s1, s2, ?_⟩
  unfold NJ
  rw [if_pos hj, s1, Rat.div_mul_cancel (natR ok.E0)]
  have : (s : Rat).num = s := rfl
  rw [this, Int.natAbs_natCast]
theorem NJ_ok : NOk (NJ m E) (β + 3) := by
  have h1 : 1 < 2 ^ (β + 3) := Nat.one_lt_two_pow (by omega)
  refine ⟨fun j => ?_, fun j => ?_⟩
  · by_cases q : j < m.n
    · obtain ⟨s, _, _, h⟩ := NJ_s ok q
      rw [h]; omega
    · unfold NJ; rw [if_neg q]; decide
  · by_cases q : j < m.n
    · obtain ⟨s, _, h2, h⟩ := NJ_s ok q
      rw [h]; omega
    · unfold NJ; rw [if_neg q]; exact h1
theorem fb_L {j i : Nat} (hj : j < m.n) (hi : i < m.n + 1) : Fb E (2 ^ β) (m.L j i) := by
  obtain ⟨h1, h2⟩ := ok.rowD_ hj
  exact (ok.df _ h1 _ (ent_mem (rs := row m.debts j) (k := i) (by omega))).fb ok.E0
theorem fb_P {j i : Nat} (hj : j < m.n) (hi : i < m.n + 1) : Fb (NJ m E j) (2 ^ β) (m.P j i) := by
  unfold Mo.P
  split
  · exact fb_zero
  · rename_i q
    obtain ⟨s, s1, _, hN⟩ := NJ_s ok hj
    obtain ⟨l, l1, l2⟩ := fb_L ok hj hi
    have E0 := natR ok.E0
    have s0 : s ≠ 0 := fun z => q (by rw [s1, z]; have : ((0 : Nat) : Rat) = 0 := rfl; rw [this]; grind)
    have sr := natR (show 0 < s by omega)
    refine ⟨l, ?_, l2⟩
    have : NJ m E j = s := by rw [hN]; omega
    rw [this, s1]
    grind
theorem fb_pP {j i : Nat} (hj : j < m.n) (hi : i < m.n + 1) : Fb E (2 ^ β) (m.p j * m.P j i) := by
  unfold Mo.P
  by_cases q : m.p j = 0
  · rw [if_pos q, q]
    have : (0 : Rat) * 0 = 0 := by grind
    rw [this]
    exact fb_zero
  · rw [if_neg q]
    have : m.p j * (m.L j i / m.p j) = m.L j i := by grind
    rw [this]
    exact fb_L ok hj hi
theorem fb_H {j i : Nat} (hj : j < m.n) (hi : i < m.n) : Fb E (2 ^ β) (m.H j i) := (ok.hf _ (ok.rowH_ hj).1 _ (ent_mem (rs := row m.holds j) (k := i) (by rw [(ok.rowH_ hj).2]; exact hi))).fb ok.E0
theorem fb_k {j : Nat} (hj : j < m.n) : Fb E (2 ^ β) (m.k j) := (ok.kf _ (ent_mem (rs := m.keeps) (k := j) (by rw [ok.kl]; exact hj))).fb ok.E0
theorem fb_c {j : Nat} (hj : j < m.n) : Fb E (2 ^ β) (m.c j) := (ok.cf _ (ent_mem (rs := m.cash) (k := j) (by rw [ok.cl]; exact hj))).fb ok.E0
theorem fb_p {j : Nat} (hj : j < m.n) : Fb E (2 ^ β * 8) (m.p j) := by
  obtain ⟨s, s1, s2⟩ := ok.pF hj
  refine ⟨s, ?_, ?_⟩
  · rw [s1, Rat.div_mul_cancel (natR ok.E0)]; rfl
  · rw [Nat.pow_add] at s2
    rw [Int.natAbs_natCast]
    omega
theorem fb_row {i j : Nat} (hi : i < m.n) (hj : j < m.n) (b r : Nat → Bool) : Fb (E * E * NJ m E j) (E * E * NJ m E j + (2 ^ β * 2 ^ β * E + 2 ^ β * (E * NJ m E j))) (rowP m b r i m.n j) := by
  have h1 : Fb (E * E * NJ m E j) (E * E * NJ m E j) (dl j i) := by
    unfold dl
    split
    · exact (fb_scale (E * E * NJ m E j) fb_one).to (by rw [Nat.one_mul]) (by rw [Nat.one_mul]; exact Nat.le_refl _)
    · exact fb_zero
  have h2 : Fb (E * E * NJ m E j) (2 ^ β * 2 ^ β * E) (sp (b j) (r j) (m.k j) * m.P j i) := by
    have a1 : Fb E (2 ^ β) (sp (b j) (r j) (m.k j)) := by
      unfold sp
      split
      · exact fb_k ok hj
      · exact fb_zero
    exact (fb_scale E (fb_mul a1 (fb_P ok hj (by omega)))).to (by grind) (Nat.le_refl _)
  have h3 : Fb (E * E * NJ m E j) (2 ^ β * (E * NJ m E j)) (sw (b j) (r j) * m.H j i) := by
    unfold sw
    split
    · rw [Rat.one_mul]
      exact (fb_scale (E * NJ m E j) (fb_H ok hj hi)).to (by grind) (Nat.le_refl _)
    · rw [Rat.zero_mul]
      exact fb_zero
  unfold rowP
  rw [if_pos hj, Rat.sub_eq_add_neg]
  exact fb_add h1 (fb_neg (fb_add h2 h3))
theorem fb_rht {i : Nat} (hi : i < m.n) (b r : Nat → Bool) : Fb (E * E) (2 ^ β * E + m.n * (2 ^ β * 2 ^ β + 2 ^ β * E + 2 ^ β * 8 * 2 ^ β)) (rhtP m b r i m.n) := by
  unfold rhtP
  refine fb_add (fb_scale E (fb_c ok hi)) (fb_sum fun j hj => fb_add ?_ ?_)
  · unfold cp
    split
    · split
      · rw [Rat.mul_assoc]
        exact (fb_mul (fb_k ok hj) (fb_pP ok hj (by omega))).to rfl (Nat.le_add_right _ _)
      · rw [Rat.zero_mul]; exact fb_zero
    · exact (fb_scale E (fb_pP ok hj (by omega))).to rfl (Nat.le_add_left _ _)
  · unfold cw
    split
    · exact fb_mul (fb_neg (fb_p ok hj)) (fb_H ok hj hi)
    · rw [Rat.zero_mul]; exact fb_zero
def eqR (m : Mo) (b r : Nat → Bool) (i : Nat) : List Rat := (List.range m.n).map (rowP m b r i m.n) ++ [rhtP m b r i m.n]
omit ok in
theorem len_eqR {b r : Nat → Bool} {i : Nat} : (eqR m b r i).length = m.n + 1 := by unfold eqR; simp
omit ok in
theorem ent_eqR {b r : Nat → Bool} {i j : Nat} (h : j < m.n) : ent (eqR m b r i) j = rowP m b r i m.n j := by
  unfold eqR ent
  rw [List.getD_eq_getElem?_getD, List.getElem?_append_left (by simp; exact h), List.getElem?_map, List.getElem?_range h]
  rfl
omit ok in
theorem ent_eqR2 {b r : Nat → Bool} {i : Nat} : ent (eqR m b r i) m.n = rhtP m b r i m.n := by
  unfold eqR ent
  rw [List.getD_eq_getElem?_getD, List.getElem?_append_right (by simp)]
  simp
theorem rb_eq {i : Nat} (hi : i < m.n) (b r : Nat → Bool) : RB (NJ m E) (2 * e + 2 * β + 7) (eqR m b r i) := by
  have E0 := ok.E0
  have E1 := ok.E1
  have Y0 : 1 ≤ 2 ^ β := Nat.one_le_two_pow
  have X0 : 1 ≤ 2 ^ e := Nat.one_le_two_pow
  have n7 := ok.n7
  have nok := NJ_ok ok
  have pw : 2 ^ (2 * e + 2 * β + 7) = 2 ^ e * 2 ^ e * (2 ^ β * 2 ^ β) * 128 := by
    rw [Nat.pow_add, Nat.pow_add, Nat.two_mul e, Nat.two_mul β, Nat.pow_add, Nat.pow_add]
  have EX : E ≤ 2 ^ e := Nat.le_of_lt E1
  have EE : E * E ≤ 2 ^ e * 2 ^ e := Nat.mul_le_mul EX EX
  have YY : 1 ≤ 2 ^ β * 2 ^ β := Nat.mul_le_mul Y0 Y0
  have XX : 1 ≤ 2 ^ e * 2 ^ e := Nat.mul_le_mul X0 X0
  have hrow : ∀ j, j < m.n → ∃ v : Int, ent (eqR m b r i) j = (v : Rat) / (((E * E : Nat) : Rat) * (NJ m E j : Rat)) ∧ v.natAbs < 2 ^ (2 * e + 2 * β + 7) := fun j hj => by
    obtain ⟨v, v1, v2⟩ := fb_row ok hi hj b r
    have Np := nok.p j
    have Nl := nok.l j
    refine ⟨v, ?_, ?_⟩
    · rw [ent_eqR hj, ← v1]
      have a1 := natR (Nat.mul_pos E0 E0)
      have a2 := natR Np
      rw [natM (a := E * E)]
      grind
    · refine Nat.lt_of_le_of_lt v2 ?_
      rw [Nat.pow_add] at Nl
      have N8 : NJ m E j ≤ 2 ^ β * 8 := by omega
      have b1 : E * E * NJ m E j ≤ 2 ^ e * 2 ^ e * (2 ^ β * 2 ^ β) * 8 := calc
        E * E * NJ m E j ≤ 2 ^ e * 2 ^ e * (2 ^ β * 8) := Nat.mul_le_mul EE N8
        _ ≤ 2 ^ e * 2 ^ e * (2 ^ β * 2 ^ β * 8) := Nat.mul_le_mul_left _ (Nat.mul_le_mul_right _ (Nat.le_mul_of_pos_right _ Y0))
        _ = _ := by rw [← Nat.mul_assoc]
      have b2 : 2 ^ β * 2 ^ β * E ≤ 2 ^ e * 2 ^ e * (2 ^ β * 2 ^ β) := calc
        2 ^ β * 2 ^ β * E ≤ 2 ^ β * 2 ^ β * (2 ^ e * 2 ^ e) := Nat.mul_le_mul_left _ (Nat.le_trans EX (Nat.le_mul_of_pos_right _ X0))
        _ = _ := Nat.mul_comm _ _
      have b3 : 2 ^ β * (E * NJ m E j) ≤ 2 ^ e * 2 ^ e * (2 ^ β * 2 ^ β) * 8 := calc
        2 ^ β * (E * NJ m E j) ≤ 2 ^ β * (2 ^ e * (2 ^ β * 8)) := Nat.mul_le_mul_left _ (Nat.mul_le_mul EX N8)
        _ = 2 ^ e * (2 ^ β * 2 ^ β) * 8 := by grind
        _ ≤ 2 ^ e * 2 ^ e * (2 ^ β * 2 ^ β) * 8 := Nat.mul_le_mul_right _ (Nat.mul_le_mul_right _ (Nat.le_mul_of_pos_right _ X0))
      have pos : 0 < 2 ^ e * 2 ^ e * (2 ^ β * 2 ^ β) := Nat.mul_pos XX YY
      rw [pw]
      omega
  have hlast : ∃ v : Int, ent (eqR m b r i) m.n = (v : Rat) / (((E * E : Nat) : Rat) * (NJ m E m.n : Rat)) ∧ v.natAbs < 2 ^ (2 * e + 2 * β + 7) := by
    obtain ⟨v, v1, v2⟩ := fb_rht ok hi b r
    refine ⟨v, ?_, ?_⟩
    · have : NJ m E m.n = 1 := if_neg (Nat.lt_irrefl _)
      rw [ent_eqR2, ← v1, this]
      have a1 := natR (Nat.mul_pos E0 E0)
      have a2 : ((1 : Nat) : Rat) = 1 := rfl
      rw [a2]
      grind
    · refine Nat.lt_of_le_of_lt v2 ?_
      have b1 : 2 ^ β * E ≤ 2 ^ e * 2 ^ e * (2 ^ β * 2 ^ β) := calc
        2 ^ β * E ≤ 2 ^ β * 2 ^ β * (2 ^ e * 2 ^ e) := Nat.mul_le_mul (Nat.le_mul_of_pos_right _ Y0) (Nat.le_trans EX (Nat.le_mul_of_pos_right _ X0))
        _ = _ := Nat.mul_comm _ _
      have b2 : 2 ^ β * 2 ^ β ≤ 2 ^ e * 2 ^ e * (2 ^ β * 2 ^ β) := Nat.le_mul_of_pos_left _ XX
      have b3 : 2 ^ β * 8 * 2 ^ β = 2 ^ β * 2 ^ β * 8 := by grind
      have b4 : m.n * (2 ^ β * 2 ^ β + 2 ^ β * E + 2 ^ β * 8 * 2 ^ β) ≤ 7 * (2 ^ β * 2 ^ β + 2 ^ β * E + 2 ^ β * 8 * 2 ^ β) := Nat.mul_le_mul_right _ n7
      have pos : 0 < 2 ^ e * 2 ^ e * (2 ^ β * 2 ^ β) := Nat.mul_pos XX YY
      rw [pw]
      omega
  have all : ∀ j, ∃ v : Int, j < m.n + 1 → ent (eqR m b r i) j = (v : Rat) / (((E * E : Nat) : Rat) * (NJ m E j : Rat)) ∧ v.natAbs < 2 ^ (2 * e + 2 * β + 7) := fun j => by
    by_cases q : j < m.n
    · obtain ⟨v, h⟩ := hrow j q
      exact ⟨v, fun _ => h⟩
    · by_cases q2 : j = m.n
      · subst q2
        obtain ⟨v, h⟩ := hlast
        exact ⟨v, fun _ => h⟩
      · exact ⟨0, fun h => by omega⟩
  refine ⟨E * E, fun j => Classical.choose (all j), Nat.mul_pos E0 E0, ?_, fun j hj => ?_⟩
  · have : E * E < 2 ^ e * 2 ^ e := Nat.mul_lt_mul'' E1 E1
    have : 2 ^ e * 2 ^ e ≤ 2 ^ e * 2 ^ e * (2 ^ β * 2 ^ β) := Nat.le_mul_of_pos_right _ YY
    rw [pw]
    omega
  · rw [len_eqR] at hj
    exact Classical.choose_spec (all j) hj
def eqs (m : Mo) (b r : Nat → Bool) : List (List Rat) := (List.range m.n).map (eqR m b r)
theorem ok_assets_row {f : D} (b r : Nat → Bool) (hf : f.items = some ((List.range m.n).map (wayR m b r))) (hfx : ∀ j, j < m.n → ixD f (.int j) = some (wayR m b r j)) (hz : 6 * (bb (2 * e + 2 * β + 7) m.n + (β + 3)) < 9000) :
    F_assets_row [modelD m, f] S = .ok (.im (optD (solved (eqs m b r) m.n))) S := by
  have h7 := ok.n7
  have ce := ok_equations ok S b r hf hfx
  have ea : aug ((List.range m.n).map fun i => (List.range m.n).map (rowP m b r i m.n)) ((List.range m.n).map fun i => rhtP m b r i m.n) = eqs m b r := by
    unfold aug eqs
    apply List.ext_getElem
    · simp
    · intro i h1 h2
      simp [eqR]
  have cs := ok_solved_row (d := .lst ((List.range m.n).map fun i => rowD ((List.range m.n).map (rowP m b r i m.n)))) (e := .lst ((List.range m.n).map fun i => qD (rhtP m b r i m.n))) (enc := rowD) (R := (List.range m.n).map fun i => (List.range m.n).map (rowP m b r i m.n)) (xs := (List.range m.n).map fun i => rhtP m b r i m.n) (N := NJ m E) (b := 2 * e + 2 * β + 7) (c := β + 3) (w := m.n) S
    (by rw [List.map_map]; rfl) (by rw [List.map_map]; rfl) (fun r S => rfl) (fun r hr => by
      obtain ⟨i, _, rfl⟩ := List.mem_map.mp hr
      simp) (NJ_ok ok) (by omega) (by
      rw [ea]
      intro r' hr
      obtain ⟨i, hi, rfl⟩ := List.mem_map.mp hr
      exact rb_eq ok (List.mem_range.mp hi) b r) hz (by simp; omega) (by omega)
  rw [ea] at cs
  refine fn_wp rfl ?_
  simp [b_assets_row, ce, len_tup, ok.bl, cs]
end
end PdL
set_option Elab.async false
set_option linter.all false
set_option maxRecDepth 100000
set_option maxHeartbeats 4000000
namespace PdL
open PySem L2 Pd Th
theorem rng2 : rngL 0 (Int.toNat 2) = [.int 0, .int 1] := rfl
def toldP (m : Mo) (b r : Nat → Bool) (x : List Rat) : List Rat := (List.range m.n).map fun j => cp (b j) (r j) (m.k j) (m.p j) + sp (b j) (r j) (m.k j) * ent x j
def toldW (m : Mo) (b r : Nat → Bool) (x : List Rat) : List Rat := (List.range m.n).map fun j => cw (b j) (r j) (m.p j) + sw (b j) (r j) * ent x j
theorem zip_range {n : Nat} {g : Nat → D} {x : List Rat} (hx : x.length = n) : zip2L ((List.range n).map g) (x.map qD) = (List.range n).map fun j => .tup [g j, qD (ent x j)] := by
  rw [zip_map]
  apply List.ext_getElem
  · simp [hx]
  · intro i h1 h2
    simp at h1 h2
    have : x[i]? = some (ent x i) := ent_get (by omega)
    rw [List.getElem?_eq_getElem (by omega)] at this
    simp [Option.some.inj this]
theorem zip3_range {n : Nat} {g h : Nat → D} {x : List Rat} (hx : x.length = n) : zip3L ((List.range n).map g) (x.map qD) ((List.range n).map h) = (List.range n).map fun j => .tup [g j, qD (ent x j), h j] := by
  rw [zip3_map]
  apply List.ext_getElem
  · simp [hx]
  · intro i h1 h2
    simp at h1 h2
    have : x[i]? = some (ent x i) := ent_get (by omega)
    rw [List.getElem?_eq_getElem (by omega)] at this
    simp [Option.some.inj this]
theorem enm_range {n : Nat} {g : Nat → D} : enmL 0 ((List.range n).map g) = (List.range n).map fun j => .tup [.int j, g j] := by
  rw [enm_map]
  apply List.ext_getElem
  · simp
  · intro i h1 h2
    simp
/-! ### words that fit -/
def fitB (r : Bool) (p a : Rat) : Bool := if a < 0 then false else if r then !decide (a < p) else !decide (p < a)
theorem i_r : cmpD .in_ (.str "rest") (.tup [.str "rest", .str "full"]) = some true := by decide +kernel
theorem i_u : cmpD .in_ (.str "full") (.tup [.str "rest", .str "full"]) = some true := by decide +kernel
theorem i_f : cmpD .in_ (.str "flat") (.tup [.str "rest", .str "full"]) = some false := by decide +kernel
theorem i_k : cmpD .in_ (.str "kept") (.tup [.str "rest", .str "full"]) = some false := by decide +kernel
theorem num_neg {q : Rat} : q.num < 0 ↔ q < 0 := by
  rw [← Rat.not_le, ← Rat.num_nonneg]
  omega
theorem ok_fits_word {b r : Bool} {x p : Rat} {a c : Nat} (S : PenSt) (hx : Sz a x) (hp : Sz c p) (hz : a + c < 9000) : F_fits_word [wordD b r, qD x, qD p] S = .ok (.im (.bl (fitB r p x))) S := by
  have c1 := ok_below S hx hp hz
  have c2 := ok_below S hp hx (by omega)
  refine fn_wp rfl ?_
  by_cases q : x < 0
  · have q' := num_neg.mpr q
    simp [b_fits_word, cmpD, truD, q, q', fitB]
  · have q' : ¬ x.num < 0 := fun z => q (num_neg.mp z)
    have lt : cmpD .lt (.int x.num) (.int 0) = some false := by
      show some (decide (x.num < 0)) = _
      simp [q']
    unfold fitB
    rw [if_neg q]
    cases b <;> cases r
    · simp [b_fits_word, lt, truD, wordD, i_f, c2]
    · simp [b_fits_word, lt, truD, wordD, i_r, c1]
    · simp [b_fits_word, lt, truD, wordD, i_k, c2]
    · simp [b_fits_word, lt, truD, wordD, i_u, c1]
section
variable {m : Mo} {E e β : Nat} (ok : m.Ok E e β) (S : PenSt)
include ok
theorem ok_told_of {x : List Rat} {a : Nat} (b r : Nat → Bool) (hx : x.length = m.n) (sx : ∀ q ∈ x, Sz a q) (hz : a + 4 * (e + β + 3) < 9000) :
    F_told_of [.lst ((List.range m.n).map (wayR m b r)), rowD x] S = .ok (.im (.tup [rowD (toldP m b r x), rowD (toldW m b r x)])) S := by
  have key : ∀ j, j < m.n → F_plus_times [.tup [qD (cp (b j) (r j) (m.k j) (m.p j))], qD (sp (b j) (r j) (m.k j)), .tup [qD (ent x j)]] S = .ok (.im (rowD [cp (b j) (r j) (m.k j) (m.p j) + sp (b j) (r j) (m.k j) * ent x j])) S := fun j hj =>
    ok_plus_times (d := .tup [qD (cp (b j) (r j) (m.k j) (m.p j))]) (e := .tup [qD (ent x j)]) (xs := [cp (b j) (r j) (m.k j) (m.p j)]) (ys := [ent x j]) S rfl rfl rfl (fun q hq => by rw [List.mem_singleton.mp hq]; exact sz_cp ok hj _ _) (fun q hq => by rw [List.mem_singleton.mp hq]; exact sx _ (ent_mem (by omega))) (sz_sp ok hj _ _) (by omega) rfl
  have key2 : ∀ j, j < m.n → F_plus_times [.tup [qD (cw (b j) (r j) (m.p j))], qD (sw (b j) (r j)), .tup [qD (ent x j)]] S = .ok (.im (rowD [cw (b j) (r j) (m.p j) + sw (b j) (r j) * ent x j])) S := fun j hj =>
    ok_plus_times (d := .tup [qD (cw (b j) (r j) (m.p j))]) (e := .tup [qD (ent x j)]) (xs := [cw (b j) (r j) (m.p j)]) (ys := [ent x j]) S rfl rfl rfl (fun q hq => by rw [List.mem_singleton.mp hq]; exact sz_cw ok hj _ _) (fun q hq => by rw [List.mem_singleton.mp hq]; exact sx _ (ent_mem (by omega))) (sz_sw _ _) (by omega) rfl
  have one : ∀ q : Rat, ixD (rowD [q]) (.int 0) = some (qD q) := fun q => rfl
  refine fn_wp rfl ?_
  simp [b_told_of, rng2, zip_range hx]
  refine fwd rfl ?_
  simp [zip_range hx]
  refine wp_map (fun _ => true) (fun j => qD (cp (b j) (r j) (m.k j) (m.p j) + sp (b j) (r j) (m.k j) * ent x j)) (fun ρ => ρ = [some (.im (.lst ((List.range m.n).map (wayR m b r)))), some (.im (rowD x)), some (.ow []), some (.im (.int 0)), none, none]) rfl (fun j hj ρ hρ => ?_) fun ρ' hρ => ?_
  · subst hρ
    have hj := List.mem_range.mp hj
    have k1 := key j hj
    refine ⟨_, rfl, ?_⟩
    simp [wipeE, wayR, wayD, k1, one]
  subst hρ
  rw [filter_t]
  simp [tuple_lst]
  refine fwd rfl ?_
  simp [zip_range hx]
  refine wp_map (fun _ => true) (fun j => qD (cw (b j) (r j) (m.p j) + sw (b j) (r j) * ent x j)) (fun ρ => ρ = [some (.im (.lst ((List.range m.n).map (wayR m b r)))), some (.im (rowD x)), some (.ow [.tup ((List.range m.n).map fun j => qD (cp (b j) (r j) (m.k j) (m.p j) + sp (b j) (r j) (m.k j) * ent x j))]), some (.im (.int 1)), none, none]) rfl (fun j hj ρ hρ => ?_) fun ρ' hρ => ?_
  · subst hρ
    have hj := List.mem_range.mp hj
    have k1 := key2 j hj
    refine ⟨_, rfl, ?_⟩
    simp [wipeE, wayR, wayD, k1, one]
  subst hρ
  rw [filter_t]
  simp [tuple_lst, atI, ixN, toldP, toldW, rowD]
/-- sizes of what solving tells -/
theorem sz_solved {b r : Nat → Bool} {x : List Rat} (h : solved (eqs m b r) m.n = some x) : x.length = m.n ∧ ∀ q ∈ x, Sz (bb (2 * e + 2 * β + 7) m.n + (β + 3)) q := by
  have hl : ∀ r' ∈ eqs m b r, r'.length = m.n + 1 := fun r' hr => by
    obtain ⟨i, _, rfl⟩ := List.mem_map.mp hr
    exact len_eqR
  have hb : ∀ r' ∈ eqs m b r, RB (NJ m E) (2 * e + 2 * β + 7) r' := fun r' hr => by
    obtain ⟨i, hi, rfl⟩ := List.mem_map.mp hr
    exact rb_eq ok (List.mem_range.mp hi) b r
  have LB := led_Bs (NJ_ok ok) (by omega) hl hb (Nat.le_refl m.n)
  have LI := led_to hl (Nat.le_refl m.n)
  obtain ⟨hx, _⟩ := solved_some hl h
  refine ⟨hx, fun q hq => ?_⟩
  unfold solved at h
  split at h
  · cases h
  · cases h
    have main : ∀ (done : List (Nat × List Rat)) (o : List Rat), (∀ p ∈ done, p ∈ (ledTo (eqs m b r) m.n).1) → (∀ q ∈ o, Sz (bb (2 * e + 2 * β + 7) m.n + (β + 3)) q) → ∀ q ∈ done.foldl (fun o q => o.set q.1 (ent q.2 m.n)) o, Sz (bb (2 * e + 2 * β + 7) m.n + (β + 3)) q := fun done => by
      induction done with
      | nil => exact fun o _ h => h
      | cons p done ih =>
        intro o hd ho
        rw [List.foldl_cons]
        refine ih _ (fun p' hp' => hd p' (List.mem_cons_of_mem _ hp')) fun q hq => ?_
        rcases List.mem_or_eq_of_mem_set hq with h1 | h1
        · exact ho q h1
        · rw [h1]
          have hp := hd p (List.mem_cons_self ..)
          exact (LB.b1 p hp).sz (NJ_ok ok) _ (ent_mem (by rw [LI.l1 p hp]; omega))
    exact main _ _ (fun p hp => hp) (fun q hq => by rw [(List.mem_replicate.mp hq).2]; exact sz_zero.mono (by omega)) q hq
end
/-! ### subsets -/
def subs (l : List Nat) : List (List Nat) := l.foldl (fun out i => out ++ out.map (· ++ [i])) [[]]
theorem subs_len {l : List Nat} : (subs l).length = 2 ^ l.length := by
  have main : ∀ (l : List Nat) (o : List (List Nat)), (l.foldl (fun out i => out ++ out.map (· ++ [i])) o).length = o.length * 2 ^ l.length := fun l => by
    induction l with
    | nil => intro o; simp
    | cons i l ih =>
      intro o
      rw [List.foldl_cons, ih, List.length_append, List.length_map, List.length_cons, Nat.pow_succ]
      grind
  unfold subs
  rw [main]
  simp
theorem subs_snoc {l : List Nat} {i : Nat} : subs (l ++ [i]) = subs l ++ (subs l).map (· ++ [i]) := by
  unfold subs
  rw [List.foldl_append]
  rfl
theorem subs_mem {n : Nat} (p : Nat → Bool) : (List.range n).filter p ∈ subs (List.range n) := by
  induction n with
  | zero => simp [subs]
  | succ n ih =>
    rw [List.range_succ, List.filter_append, subs_snoc]
    cases q : p n with
    | false =>
      refine List.mem_append_left _ ?_
      simpa [q] using ih
    | true =>
      refine List.mem_append_right _ (List.mem_map.mpr ⟨_, ih, ?_⟩)
      simp [q]
theorem ok_subsets_of {n : Nat} (S : PenSt) (hn : n ≤ 7) : F_subsets_of [.lst ((List.range n).map fun i => D.int (i : Nat))] S = .ok (.im (.lst ((subs (List.range n)).map natsD))) S := by
  refine fn_wp rfl ?_
  simp [b_subsets_of]
  refine wp_for (fun k ρ S' => S' = S ∧ ∃ x2 s1, s1.d = .lst ((subs (List.range k)).map natsD) ∧ ρ = [some (.im (.lst ((List.range n).map fun i => D.int (i : Nat)))), some s1, x2, none]) ⟨rfl, none, .ow [.tup []], rfl, rfl⟩ (fun k y ρ S' hk ⟨hS, x2, s1, h1, hρ⟩ => ?_) fun ρ' S' ⟨hS, x2, s1, h1, hρ⟩ => ?_
  · subst hS hρ
    obtain ⟨rfl, hkn⟩ := rng_at hk
    refine ⟨_, rfl, ?_⟩
    simp [h1]
    refine wp_map (fun _ => true) (fun l => natsD (l ++ [k])) (fun ρ => ρ = [some (.im (.lst ((List.range n).map fun i => D.int (i : Nat)))), some (.im (.lst ((subs (List.range k)).map natsD))), some (.im (.int k)), none]) rfl (fun l hl ρ hρ => ?_) fun ρ' hρ => ?_
    · subst hρ
      refine ⟨_, rfl, ?_⟩
      have : l.length ≤ k := by
        have main : ∀ k (l : List Nat), l ∈ subs (List.range k) → l.length ≤ k := fun k => by
          induction k with
          | zero => intro l hl; simp [subs] at hl; simp [hl]
          | succ k ih =>
            intro l hl
            rw [List.range_succ, subs_snoc] at hl
            rcases List.mem_append.mp hl with hl | hl
            · have := ih l hl; omega
            · obtain ⟨l', h1, rfl⟩ := List.mem_map.mp hl
              have := ih l' h1
              rw [List.length_append]
              simp
              exact this
        exact main k l hl
      have ea : binD .add (natsD l) (.tup [.int k]) = some (.im (natsD (l ++ [k]))) := by
        unfold natsD
        rw [add_tup (by simp; omega), List.map_append]
        rfl
      simp [wipeE, ea]
    subst hρ
    have hl : (subs (List.range k)).length ≤ 128 := by
      rw [subs_len, List.length_range]
      exact Nat.le_trans (Nat.pow_le_pow_right (by decide) (show k ≤ 7 by omega)) (by decide)
    rw [filter_t, add_lst (by simp; omega)]
    simp
    refine ⟨_, _, ?_, rfl, rfl⟩
    rw [List.range_succ, subs_snoc, List.map_append, List.map_map]
    rfl
  · subst hS hρ
    rw [List.length_map, List.length_range] at h1
    simp [h1]
end PdL
set_option Elab.async false
set_option linter.all false
set_option maxRecDepth 100000
set_option maxHeartbeats 4000000
namespace PdL
open PySem L2 Pd Th
theorem mapM_nats {l : List Nat} : (l.map fun i => D.int (i : Nat)).mapM flatD = some (l.map fun i => V.int (i : Nat)) := by
  induction l with
  | nil => rfl
  | cons i l ih =>
    rw [List.map_cons, List.mapM_cons, ih]
    rfl
theorem in_nats {j : Nat} {l : List Nat} : cmpD .in_ (.int j) (natsD l) = some (decide (j ∈ l)) := by
  have e : cmpD .in_ (.int j) (natsD l) = inD (.int j) (natsD l) := rfl
  rw [e]
  unfold inD natsD
  simp only [flatD, it_tup, mapM_nats]
  congr 1
  unfold inV
  rw [List.any_map]
  rw [Bool.eq_iff_iff, List.any_eq_true, decide_eq_true_eq]
  constructor
  · rintro ⟨x, h1, h2⟩
    have h2 : ((x : Int) == (j : Int)) = true := h2
    have : x = j := by
      have h3 := eq_of_beq h2
      omega
    rw [← this]; exact h1
  · intro h
    refine ⟨j, h, ?_⟩
    show ((j : Int) == (j : Int)) = true
    simp
theorem notin_nats {j : Nat} {l : List Nat} : cmpD .notIn (.int j) (natsD l) = some (!decide (j ∈ l)) := by
  have e : cmpD .notIn (.int j) (natsD l) = (cmpD .in_ (.int j) (natsD l)).map (!·) := rfl
  rw [e, in_nats]
  rfl
def bOf (β1 : Bool) (banks : List Nat) (j : Nat) : Bool := if j ∈ banks then β1 else !β1
def rOf (l : List Nat) (j : Nat) : Bool := decide (j ∈ l)
def pairD (p : List Rat × List Rat) : D := .tup [rowD p.1, rowD p.2]
def fits (m : Mo) (r : Nat → Bool) (x : List Rat) : Bool := (List.range m.n).all fun j => fitB (r j) (m.p j) (ent x j)
def entry (m : Mo) (b : Nat → Bool) (l : List Nat) : Option (List Rat × List Rat) := match solved (eqs m b (rOf l)) m.n with
  | none => none
  | some x => if fits m (rOf l) x then some (toldP m b (rOf l) x, toldW m b (rOf l) x) else none
def settledR (m : Mo) (b : Nat → Bool) : List (List Rat × List Rat) := (subs (List.range m.n)).filterMap (entry m b)
def wordsD (β1 : Bool) : D := .tup [wordD β1 true, wordD β1 false]
section
variable {m : Mo} {E e β : Nat} (ok : m.Ok E e β) (S : PenSt)
include ok
theorem ok_settled {β1 : Bool} {banks : List Nat} (hz : 6 * (bb (2 * e + 2 * β + 7) m.n + (β + 3)) < 8000) :
    F_settled [modelD m, natsD banks, wordsD β1, wordsD (!β1)] S = .ok (.ow ((settledR m (bOf β1 banks)).map pairD)) S := by
  have h7 := ok.n7
  have hs := ok.sm
  have hn2 : (m.n : Int) ≤ 100000 ∧ -100000 ≤ (m.n : Int) := by omega
  have co := ok_all_owed ok S
  have cs := ok_subsets_of (n := m.n) S h7
  have sl : (subs (List.range m.n)).length ≤ 128 := by
    rw [subs_len, List.length_range]
    exact Nat.le_trans (Nat.pow_le_pow_right (by decide) h7) (by decide)
  refine fn_wp rfl ?_
  simp [b_settled, co, asgs, len_tup, ok.bl, hn2, rng_map, cs]
  refine wp_for (fun i ρ S' => S' = S ∧ ∃ x4 s5 x8 x9 x10 x11 x12, s5.d = .lst ((List.range m.n).map fun j => qD (m.p j)) ∧ ρ = [some (.im (modelD m)), some (.im (natsD banks)), some (.im (wordsD β1)), some (.im (wordsD (!β1))), x4, some s5, some (.im (.int m.n)), some (.ow ((((subs (List.range m.n)).take i).filterMap (entry m (bOf β1 banks))).map pairD)), x8, x9, x10, x11, x12, none, none, none])
    ⟨rfl, none, .ow _, none, none, none, none, none, rfl, rfl⟩ (fun i y ρ S' hk ⟨hS, x4, s5, x8, x9, x10, x11, x12, h5, hρ⟩ => ?_) fun ρ' S' ⟨hS, x4, s5, x8, x9, x10, x11, x12, h5, hρ⟩ => ?_
  · subst hS hρ
    rw [List.getElem?_map, Option.map_eq_some_iff] at hk
    obtain ⟨l, hl, rfl⟩ := hk
    refine ⟨_, rfl, ?_⟩
    have tk : ((subs (List.range m.n)).take (i + 1)).filterMap (entry m (bOf β1 banks)) = ((subs (List.range m.n)).take i).filterMap (entry m (bOf β1 banks)) ++ (entry m (bOf β1 banks) l).toList := by
      rw [List.take_add_one, hl, List.filterMap_append]
      show _ ++ List.filterMap _ [l] = _
      cases h : entry m (bOf β1 banks) l <;> simp [h]
    have len : (((subs (List.range m.n)).take i).filterMap (entry m (bOf β1 banks))).length ≤ 128 := Nat.le_trans (List.length_filterMap_le ..) (by rw [List.length_take]; omega)
    simp [hn2, rng_map]
    refine wp_for (fun k ρ S'' => S'' = S' ∧ ∃ x9 x12, ρ = [some (.im (modelD m)), some (.im (natsD banks)), some (.im (wordsD β1)), some (.im (wordsD (!β1))), some (.im (natsD l)), some s5, some (.im (.int m.n)), some (.ow ((((subs (List.range m.n)).take i).filterMap (entry m (bOf β1 banks))).map pairD)), some (.ow ((List.range k).map fun j => wordD (bOf β1 banks j) (rOf l j))), x9, x10, x11, x12, none, none, none])
      ⟨rfl, x9, x12, rfl⟩ (fun k y ρ S'' hk ⟨hS, x9, x12, hρ⟩ => ?_) fun ρ' S'' ⟨hS, x9, x12, hρ⟩ => ?_
    · subst hS hρ
      obtain ⟨rfl, hk2⟩ := rng_at hk
      refine ⟨_, rfl, ?_⟩
      rw [range_succ_map]
      simp [in_nats, truD]
      by_cases q : k ∈ banks
      · by_cases q2 : k ∈ l
        · simp [q, q2, wordsD, bOf, rOf]
          omega
        · simp [q, q2, wordsD, bOf, rOf]
          omega
      · by_cases q2 : k ∈ l
        · simp [q, q2, wordsD, bOf, rOf]
          omega
        · simp [q, q2, wordsD, bOf, rOf]
          omega
    subst hS hρ
    rw [List.length_map, List.length_range]
    simp [enm_range]
    refine wp_map (fun _ => true) (fun j => wayR m (bOf β1 banks) (rOf l) j) (fun ρ => ∃ s5 x9, s5.d = .lst ((List.range m.n).map fun j => qD (m.p j)) ∧ ρ = [some (.im (modelD m)), some (.im (natsD banks)), some (.im (wordsD β1)), some (.im (wordsD (!β1))), some (.im (natsD l)), some s5, some (.im (.int m.n)), some (.ow ((((subs (List.range m.n)).take i).filterMap (entry m (bOf β1 banks))).map pairD)), some (.im (.lst ((List.range m.n).map fun j => wordD (bOf β1 banks j) (rOf l j)))), x9, x10, x11, x12, none, none, none]) ⟨s5, x9, h5, rfl⟩ (fun j hj ρ ⟨s5, x9, h5, hρ⟩ => ?_) fun ρ' ⟨s5, x9, h5, hρ⟩ => ?_
    · subst hρ
      have hj := List.mem_range.mp hj
      have e1 := ix_lst (f := fun j => qD (m.p j)) (xs := List.range m.n) (k := j) (x := j) (List.getElem?_range hj)
      have c1 := ok_way_of ok S'' hj (bOf β1 banks) (rOf l)
      refine ⟨_, rfl, ?_⟩
      simp [h5, e1, c1, wipeE]
    subst hρ
    rw [filter_t]
    have ca := ok_assets_row ok (f := .lst ((List.range m.n).map fun j => wayR m (bOf β1 banks) (rOf l) j)) S'' (bOf β1 banks) (rOf l) rfl (fun j hj => ix_lst (List.getElem?_range hj)) (by omega)
    cases es : solved (eqs m (bOf β1 banks) (rOf l)) m.n with
    | none =>
      rw [es] at ca
      have en : entry m (bOf β1 banks) l = none := by unfold entry; rw [es]
      rw [en] at tk
      simp [ca, optD, cmpD, truD, tk]
      exact h5
    | some x =>
      rw [es] at ca
      obtain ⟨hx, sx⟩ := sz_solved ok es
      have ea : entry m (bOf β1 banks) l = if fits m (rOf l) x then some (toldP m (bOf β1 banks) (rOf l) x, toldW m (bOf β1 banks) (rOf l) x) else none := by unfold entry; rw [es]
      have nn : cmpD .notN (rowD x) .non = some true := rfl
      simp [ca, optD, nn, truD, h5, zip3_range hx]
      refine wp_map (fun _ => true) (fun j => .bl (fitB (rOf l j) (m.p j) (ent x j))) (fun ρ => ρ = [some (.im (modelD m)), some (.im (natsD banks)), some (.im (wordsD β1)), some (.im (wordsD (!β1))), some (.im (natsD l)), some (.im (.lst ((List.range m.n).map fun j => qD (m.p j)))), some (.im (.int m.n)), some (.ow ((((subs (List.range m.n)).take i).filterMap (entry m (bOf β1 banks))).map pairD)), some (.im (.lst ((List.range m.n).map fun j => wordD (bOf β1 banks j) (rOf l j)))), x9, some (.im (.lst ((List.range m.n).map fun j => wayR m (bOf β1 banks) (rOf l) j))), some (.im (rowD x)), x12, none, none, none]) rfl (fun j hj ρ hρ => ?_) fun ρ' hρ => ?_
      · subst hρ
        have hj := List.mem_range.mp hj
        have c1 := ok_fits_word (b := bOf β1 banks j) (r := rOf l j) S'' (sx _ (ent_mem (rs := x) (k := j) (by omega))) (ok.szP hj) (by omega)
        refine ⟨_, rfl, ?_⟩
        simp [c1, wipeE]
      subst hρ
      rw [filter_t]
      obtain ⟨A, hA⟩ : ∃ A, A = fits m (rOf l) x := ⟨_, rfl⟩
      have cA : pF fAll [.lst ((List.range m.n).map fun j => .bl (fitB (rOf l j) (m.p j) (ent x j)))] S'' = .ok (.im (.bl A)) S'' := by rw [hA]; exact all_lst
      rw [← hA] at ea
      cases A with
      | false =>
        rw [if_neg (by decide)] at ea
        rw [ea] at tk
        simp [cA, truD, tk]
      | true =>
        rw [if_pos rfl] at ea
        rw [ea] at tk
        have ct := ok_told_of ok S'' (bOf β1 banks) (rOf l) hx sx (by omega)
        have ct : F_told_of [.lst ((List.range m.n).map fun j => wayR m (bOf β1 banks) (rOf l) j), rowD x] S'' = .ok (.im (.tup [rowD (toldP m (bOf β1 banks) (rOf l) x), rowD (toldW m (bOf β1 banks) (rOf l) x)])) S'' := ct
        simp [cA, truD, tk, ct]
        exact ⟨by omega, _, _, rfl, rfl, rfl, rfl⟩
  · subst hS hρ
    rw [List.length_map, List.take_length]
    simp [settledR]
end
end PdL
set_option Elab.async false
set_option linter.all false
set_option maxRecDepth 100000
set_option maxHeartbeats 4000000
namespace PdL
open PySem L2 Pd Th
abbrev Pr2 := List Rat × List Rat
def anyB (r s : List Rat) : Bool := (r.zip s).any fun p => decide (p.1 < p.2)
def noLess (P Q : Pr2) : Bool := !(anyB P.1 Q.1 || anyB P.2 Q.2)
def SzP (a : Nat) (P : Pr2) : Prop := (∀ q ∈ P.1, Sz a q) ∧ ∀ q ∈ P.2, Sz a q
theorem ok_is_no_less {P Q : Pr2} {a : Nat} (S : PenSt) (hP : SzP a P) (hQ : SzP a Q) (hz : a + a < 9000) : F_is_no_less [pairD P, pairD Q] S = .ok (.im (.bl (noLess P Q))) S := by
  refine fn_wp rfl ?_
  have ez : zip2L [rowD P.1, rowD P.2] [rowD Q.1, rowD Q.2] = [(P.1, Q.1), (P.2, Q.2)].map fun p => .tup [rowD p.1, rowD p.2] := rfl
  have it : ∀ P : Pr2, (pairD P).items = some [rowD P.1, rowD P.2] := fun _ => rfl
  have sz : ∀ p ∈ [(P.1, Q.1), (P.2, Q.2)], (∀ q ∈ p.1, Sz a q) ∧ ∀ q ∈ p.2, Sz a q := fun p hp => by
    simp at hp
    rcases hp with rfl | rfl
    · exact ⟨hP.1, hQ.1⟩
    · exact ⟨hP.2, hQ.2⟩
  simp only [b_is_no_less]
  simp [it]
  rw [ez]
  refine wp_map (fun _ => true) (fun p => .bl (anyB p.1 p.2)) (fun ρ => ρ = [some (.im (pairD P)), some (.im (pairD Q)), none, none, none, none]) rfl (fun p hp ρ hρ => ?_) fun ρ' hρ => ?_
  · subst hρ
    refine ⟨_, rfl, ?_⟩
    obtain ⟨s1, s2⟩ := sz p hp
    simp [wipeE, zip_enc]
    refine wp_map (fun _ => true) (fun q => .bl (decide (q.1 < q.2))) (fun ρ => ρ = [some (.im (pairD P)), some (.im (pairD Q)), some (.im (rowD p.1)), some (.im (rowD p.2)), none, none]) rfl (fun q hq ρ hρ => ?_) fun ρ' hρ => ?_
    · subst hρ
      have c1 := ok_below S (s1 _ (List.of_mem_zip hq).1) (s2 _ (List.of_mem_zip hq).2) hz
      exact ⟨_, rfl, by simp [wipeE, c1]⟩
    · subst hρ
      rw [filter_t]
      have ca : pF fAny [.lst ((p.1.zip p.2).map fun q => .bl (decide (q.1 < q.2)))] S = .ok (.im (.bl (anyB p.1 p.2))) S := any_lst
      simp [ca]
  · subst hρ
    rw [filter_t]
    have ca : pF fAny [.lst ([(P.1, Q.1), (P.2, Q.2)].map fun p => .bl (anyB p.1 p.2))] S = .ok (.im (.bl (anyB P.1 Q.1 || (anyB P.2 Q.2 || false)))) S := any_lst
    simp only [List.map_cons, List.map_nil] at ca
    simp [ca, truD, noLess]
def gfold (L : List Pr2) (p0 : Pr2) : Pr2 := L.foldl (fun o p => if noLess p o then p else o) p0
def lfold (L : List Pr2) (p0 : Pr2) : Pr2 := L.foldl (fun o p => if noLess o p then p else o) p0
theorem gfold_mem {L : List Pr2} {p0 : Pr2} : gfold L p0 = p0 ∨ gfold L p0 ∈ L := by
  unfold gfold
  induction L generalizing p0 with
  | nil => exact .inl rfl
  | cons p L ih =>
    rw [List.foldl_cons]
    rcases @ih (if noLess p p0 then p else p0) with h | h
    · rw [h]
      split
      · exact .inr (List.mem_cons_self ..)
      · exact .inl rfl
    · exact .inr (List.mem_cons_of_mem _ h)
theorem lfold_mem {L : List Pr2} {p0 : Pr2} : lfold L p0 = p0 ∨ lfold L p0 ∈ L := by
  unfold lfold
  induction L generalizing p0 with
  | nil => exact .inl rfl
  | cons p L ih =>
    rw [List.foldl_cons]
    rcases @ih (if noLess p0 p then p else p0) with h | h
    · rw [h]
      split
      · exact .inr (List.mem_cons_self ..)
      · exact .inl rfl
    · exact .inr (List.mem_cons_of_mem _ h)
theorem gfold_is {G : Pr2} : ∀ {L : List Pr2} {p0 : Pr2}, (∀ P ∈ L, noLess G P = true) → (∀ P ∈ L, noLess P G = true → P = G) → noLess G p0 = true → (G ∈ L ∨ p0 = G) → gfold L p0 = G
  | [], p0, _, _, _, h => by
    rcases h with h | h
    · cases h
    · exact h
  | p :: L, p0, h1, h2, h3, h4 => by
    have m := List.mem_cons_self (a := p) (l := L)
    unfold gfold
    rw [List.foldl_cons]
    refine gfold_is (fun P hP => h1 P (List.mem_cons_of_mem _ hP)) (fun P hP => h2 P (List.mem_cons_of_mem _ hP)) ?_ ?_
    · split
      · exact h1 p m
      · exact h3
    · rcases h4 with h4 | h4
      · rcases List.mem_cons.mp h4 with e | e
        · subst e
          rw [if_pos h3]
          exact .inr rfl
        · exact .inl e
      · subst h4
        split
        · rename_i q
          exact .inr (h2 p m q)
        · exact .inr rfl
theorem lfold_is {G : Pr2} : ∀ {L : List Pr2} {p0 : Pr2}, (∀ P ∈ L, noLess P G = true) → (∀ P ∈ L, noLess G P = true → P = G) → noLess p0 G = true → (G ∈ L ∨ p0 = G) → lfold L p0 = G
  | [], p0, _, _, _, h => by
    rcases h with h | h
    · cases h
    · exact h
  | p :: L, p0, h1, h2, h3, h4 => by
    have m := List.mem_cons_self (a := p) (l := L)
    unfold lfold
    rw [List.foldl_cons]
    refine lfold_is (fun P hP => h1 P (List.mem_cons_of_mem _ hP)) (fun P hP => h2 P (List.mem_cons_of_mem _ hP)) ?_ ?_
    · split
      · exact h1 p m
      · exact h3
    · rcases h4 with h4 | h4
      · rcases List.mem_cons.mp h4 with e | e
        · subst e
          rw [if_pos h3]
          exact .inr rfl
        · exact .inl e
      · subst h4
        split
        · rename_i q
          exact .inr (h2 p m q)
        · exact .inr rfl
theorem fold_take {α β : Type} {f : α → β → α} {L : List β} {k : Nat} {q : β} {o : α} (h : L[k]? = some q) : (L.take (k + 1)).foldl f o = f ((L.take k).foldl f o) q := by
  rw [List.take_add_one, h]
  simp
theorem ok_greatest_of {P : Pr2} {L : List Pr2} {a : Nat} (S : PenSt) (hL : ∀ Q ∈ P :: L, SzP a Q) (hz : a + a < 9000) : F_greatest_of [.lst ((P :: L).map pairD)] S = .ok (.im (pairD (gfold (P :: L) P))) S := by
  refine fn_wp rfl ?_
  have e0 : ixD (.lst ((P :: L).map pairD)) (.int 0) = some (pairD P) := by simp
  simp only [b_greatest_of]
  simp [-List.map_cons, e0]
  refine wp_for (fun k ρ S' => S' = S ∧ ∃ x2, ρ = [some (.im (.lst ((P :: L).map pairD))), some (.im (pairD (gfold ((P :: L).take k) P))), x2]) ⟨rfl, none, rfl⟩ (fun k y ρ S' hk ⟨hS, x2, hρ⟩ => ?_) fun ρ' S' ⟨hS, x2, hρ⟩ => ?_
  · subst hS hρ
    rw [List.getElem?_map, Option.map_eq_some_iff] at hk
    obtain ⟨Q, hQ, rfl⟩ := hk
    refine ⟨_, rfl, ?_⟩
    have so : SzP a (gfold ((P :: L).take k) P) := by
      rcases gfold_mem (L := (P :: L).take k) (p0 := P) with h | h
      · rw [h]; exact hL P (List.mem_cons_self ..)
      · exact hL _ (List.mem_of_mem_take h)
    have c1 := ok_is_no_less S' (hL Q (List.mem_of_getElem? hQ)) so hz
    have e1 : gfold ((P :: L).take (k + 1)) P = if noLess Q (gfold ((P :: L).take k) P) then Q else gfold ((P :: L).take k) P := fold_take hQ
    rw [e1]
    simp [c1, truD]
    cases noLess Q (gfold ((P :: L).take k) P) <;> simp
  · subst hS hρ
    rw [List.length_map, List.take_length]
    simp
theorem ok_least_of {P : Pr2} {L : List Pr2} {a : Nat} (S : PenSt) (hL : ∀ Q ∈ P :: L, SzP a Q) (hz : a + a < 9000) : F_least_of [.lst ((P :: L).map pairD)] S = .ok (.im (pairD (lfold (P :: L) P))) S := by
  refine fn_wp rfl ?_
  have e0 : ixD (.lst ((P :: L).map pairD)) (.int 0) = some (pairD P) := by simp
  simp only [b_least_of]
  simp [-List.map_cons, e0]
  refine wp_for (fun k ρ S' => S' = S ∧ ∃ x2, ρ = [some (.im (.lst ((P :: L).map pairD))), some (.im (pairD (lfold ((P :: L).take k) P))), x2]) ⟨rfl, none, rfl⟩ (fun k y ρ S' hk ⟨hS, x2, hρ⟩ => ?_) fun ρ' S' ⟨hS, x2, hρ⟩ => ?_
  · subst hS hρ
    rw [List.getElem?_map, Option.map_eq_some_iff] at hk
    obtain ⟨Q, hQ, rfl⟩ := hk
    refine ⟨_, rfl, ?_⟩
    have so : SzP a (lfold ((P :: L).take k) P) := by
      rcases lfold_mem (L := (P :: L).take k) (p0 := P) with h | h
      · rw [h]; exact hL P (List.mem_cons_self ..)
      · exact hL _ (List.mem_of_mem_take h)
    have c1 := ok_is_no_less S' so (hL Q (List.mem_of_getElem? hQ)) hz
    have e1 : lfold ((P :: L).take (k + 1)) P = if noLess (lfold ((P :: L).take k) P) Q then Q else lfold ((P :: L).take k) P := fold_take hQ
    rw [e1]
    simp [c1, truD]
    cases noLess (lfold ((P :: L).take k) P) Q <;> simp
  · subst hS hρ
    rw [List.length_map, List.take_length]
    simp
end PdL
set_option Elab.async false
set_option linter.all false
set_option maxRecDepth 100000
set_option maxHeartbeats 4000000
namespace PdL
open PySem L2 Pd Th
/-! ### what is told, by the theory of clearings -/
structure Mo.Nn (m : Mo) : Prop where
  c0 : ∀ i, i < m.n → 0 ≤ m.c i
  H0 : ∀ j, j < m.n → ∀ i, i < m.n → 0 ≤ m.H j i
  H1 : ∀ j, j < m.n → sumR m.n (m.H j) < 1
  k0 : ∀ i, i < m.n → 0 ≤ m.k i
  k1 : ∀ i, i < m.n → m.k i ≤ 1
def payR (m : Mo) (b : Nat → Bool) (a : Nat → Rat) : List Rat := (List.range m.n).map fun j => pay (b j) (m.k j) (m.p j) (a j)
def worR (m : Mo) (b : Nat → Bool) (a : Nat → Rat) : List Rat := (List.range m.n).map fun j => wor (b j) (m.p j) (a j)
def clrP (m : Mo) (b : Nat → Bool) (a : Nat → Rat) : Pr2 := (payR m b a, worR m b a)
section
variable {m : Mo} {E e β : Nat} (ok : m.Ok E e β)
include ok
theorem L0 {j i : Nat} (hj : j < m.n) (hi : i < m.n + 1) : 0 ≤ m.L j i := by
  obtain ⟨h1, h2⟩ := ok.rowD_ hj
  exact ok.d0 _ h1 _ (ent_mem (by omega))
theorem P_nonneg {j i : Nat} (hj : j < m.n) (hi : i < m.n + 1) : 0 ≤ m.P j i := by
  unfold Mo.P
  split
  · exact Rat.le_refl
  · rename_i q
    have h1 := L0 ok hj hi
    have h2 := ok.p0 hj
    rw [le_div' (by grind)]
    grind
theorem P_sum {j : Nat} (hj : j < m.n) : sumR (m.n + 1) (m.P j) = if m.p j = 0 then 0 else 1 := by
  by_cases q : m.p j = 0
  · rw [if_pos q]
    exact sumR_zero fun i _ => by unfold Mo.P; rw [if_pos q]
  · rw [if_neg q]
    have : sumR (m.n + 1) (m.P j) = sumR (m.n + 1) (m.L j) * (1 / m.p j) := by
      rw [← sumR_mulr]
      exact sumR_congr fun i _ => by unfold Mo.P; rw [if_neg q]; grind
    rw [this]
    show m.p j * (1 / m.p j) = 1
    grind
theorem bk_ok (nn : m.Nn) : m.bk.Ok := by
  refine ⟨nn.c0, fun i hi => ok.p0 hi, fun j hj i hi => P_nonneg ok hj (Nat.lt_succ_of_lt hi), fun j hj => ?_, nn.H0, nn.H1, nn.k0, nn.k1⟩
  have h1 := P_sum ok hj
  have h2 := P_nonneg ok hj (Nat.lt_succ_self m.n)
  rw [sumR] at h1
  show sumR m.n (m.P j) ≤ 1
  split at h1 <;> grind
omit ok in
theorem sat_eq {b r : Nat → Bool} {x : Nat → Rat} {i : Nat} (hi : i < m.n) : sat m.n x (eqR m b r i) ↔ x i = Cx m.bk b r i + sumR m.n (fun j => Mx m.bk b r i j * x j) := by
  unfold sat
  rw [ent_eqR2]
  have e1 : sumR m.n (fun j => ent (eqR m b r i) j * x j) = x i - sumR m.n (fun j => Mx m.bk b r i j * x j) := by
    have : sumR m.n (fun j => ent (eqR m b r i) j * x j) = sumR m.n (fun j => dl j i * x j) - sumR m.n (fun j => Mx m.bk b r i j * x j) := by
      rw [← sumR_sub]
      refine sumR_congr fun j hj => ?_
      rw [ent_eqR hj]
      unfold rowP
      rw [if_pos hj]
      grind
    rw [this, sumR_single hi (fun j _ ne => by unfold dl; rw [if_neg ne]; grind)]
    unfold dl
    rw [if_pos rfl]
    grind
  rw [e1]
  have : rhtP m b r i m.n = Cx m.bk b r i := rfl
  rw [this]
  constructor <;> intro h <;> grind
omit ok in
theorem eqs_len {b r : Nat → Bool} : ∀ r' ∈ eqs m b r, r'.length = m.n + 1 := fun r' hr => by
  obtain ⟨i, _, rfl⟩ := List.mem_map.mp hr
  exact len_eqR
omit ok in
theorem eqs_sat {b r : Nat → Bool} {x : Nat → Rat} : (∀ r' ∈ eqs m b r, sat m.n x r') ↔ ∀ i, i < m.n → x i = Cx m.bk b r i + sumR m.n (fun j => Mx m.bk b r i j * x j) := by
  constructor
  · intro h i hi
    exact (sat_eq hi).mp (h _ (List.mem_map.mpr ⟨i, List.mem_range.mpr hi, rfl⟩))
  · intro h r' hr
    obtain ⟨i, hi, rfl⟩ := List.mem_map.mp hr
    have hi := List.mem_range.mp hi
    exact (sat_eq hi).mpr (h i hi)
omit ok in
theorem fit_of {r : Bool} {p a : Rat} (h : fitB r p a = true) : 0 ≤ a ∧ fit r p a := by
  unfold fitB at h
  by_cases q : a < 0
  · rw [if_pos q] at h
    cases h
  · rw [if_neg q] at h
    refine ⟨Rat.not_lt.mp q, ?_⟩
    unfold fit
    cases r <;> simp at h ⊢ <;> exact Rat.not_lt.mp h
omit ok in
theorem fitB_of {r : Bool} {p a : Rat} (h0 : 0 ≤ a) (h : fit r p a) : fitB r p a = true := by
  unfold fitB
  rw [if_neg (Rat.not_lt.mpr h0)]
  unfold fit at h
  cases r <;> simp at h ⊢ <;> exact Rat.not_lt.mpr h
omit ok in
theorem told_is {b r : Nat → Bool} {x : List Rat} {a : Nat → Rat} (hx : ∀ j, j < m.n → ent x j = a j) (hf : ∀ j, j < m.n → fit (r j) (m.p j) (a j)) : (toldP m b r x, toldW m b r x) = clrP m b a := by
  unfold toldP toldW clrP payR worR
  congr 1
  · refine List.map_congr_left fun j hj => ?_
    have hj := List.mem_range.mp hj
    rw [hx j hj, pay_fit (hf j hj)]
    grind
  · refine List.map_congr_left fun j hj => ?_
    have hj := List.mem_range.mp hj
    rw [hx j hj, wor_fit (hf j hj)]
    grind
/-- each pair of the list is a clearing row's -/
theorem settled_sound {b : Nat → Bool} {P : Pr2} (h : P ∈ settledR m b) : ∃ a : Nat → Rat, (∀ i, i < m.n → F m.bk b a i = a i) ∧ (∀ i, i < m.n → 0 ≤ a i) ∧ P = clrP m b a ∧ SzP (bb (2 * e + 2 * β + 7) m.n + (β + 3) + 4 * (e + β + 3)) P := by
  unfold settledR at h
  obtain ⟨l, hl, he⟩ := List.mem_filterMap.mp h
  unfold entry at he
  split at he
  · cases he
  · rename_i x es
    split at he
    · rename_i hf
      cases he
      obtain ⟨hx, sx⟩ := sz_solved ok es
      obtain ⟨_, hs⟩ := solved_some eqs_len es
      have hs := eqs_sat.mp hs
      have fb : ∀ j, j < m.n → fitB (rOf l j) (m.p j) (ent x j) = true := fun j hj => List.all_eq_true.mp hf j (List.mem_range.mpr hj)
      have ff : ∀ j, j < m.n → fit (rOf l j) (m.p j) (ent x j) := fun j hj => (fit_of (fb j hj)).2
      refine ⟨ent x, fun i hi => ?_, fun i hi => (fit_of (fb i hi)).1, told_is (fun _ _ => rfl) ff, fun q hq => ?_, fun q hq => ?_⟩
      · rw [F_fit (B := m.bk) (r := rOf l) ff]
        exact (hs i hi).symm
      · obtain ⟨j, hj, rfl⟩ := List.mem_map.mp hq
        have hj := List.mem_range.mp hj
        exact (sz_add (sz_cp ok hj _ _) (sz_mul (sz_sp ok hj _ _) (sx _ (ent_mem (by omega))))).mono (by omega)
      · obtain ⟨j, hj, rfl⟩ := List.mem_map.mp hq
        have hj := List.mem_range.mp hj
        exact (sz_add (sz_cw ok hj _ _) (sz_mul (sz_sw _ _) (sx _ (ent_mem (by omega))))).mono (by omega)
    · cases he
theorem settled_mem {b r : Nat → Bool} {g : Nat → Rat} (hr : ∀ j, r j = true → j < m.n) (h0 : ∀ i, i < m.n → 0 ≤ g i) (hf : ∀ j, j < m.n → fit (r j) (m.p j) (g j)) (fx : ∀ i, i < m.n → F m.bk b g i = g i)
    (one : ∀ y : Nat → Rat, (∀ i, i < m.n → y i = Cx m.bk b r i + sumR m.n (fun j => Mx m.bk b r i j * y j)) → ∀ f, f < m.n → y f ≠ g f → g f = 0) : clrP m b g ∈ settledR m b := by
  have er : ∀ j, j < m.n → rOf ((List.range m.n).filter r) j = r j := fun j hj => by
    unfold rOf
    rw [Bool.eq_iff_iff, decide_eq_true_eq, List.mem_filter, List.mem_range]
    exact ⟨fun h => h.2, fun h => ⟨hj, h⟩⟩
  have er' : rOf ((List.range m.n).filter r) = r := by
    funext j
    by_cases q : j < m.n
    · exact er j q
    · unfold rOf
      have h1 : r j = false := by
        cases z : r j with
        | false => rfl
        | true => exact absurd (hr j z) q
      rw [h1]
      exact decide_eq_false fun h => q (List.mem_range.mp (List.mem_filter.mp h).1)
  obtain ⟨x, ex, hx, hxe⟩ := solved_pick (rows := eqs m b r) eqs_len (x := g) (eqs_sat.mpr fun i hi => by
    have := fx i hi
    rw [F_fit (B := m.bk) (r := r) hf] at this
    exact this.symm) (fun y hy => one y (eqs_sat.mp hy))
  refine List.mem_filterMap.mpr ⟨_, subs_mem r, ?_⟩
  unfold entry
  rw [er', ex]
  have hfit : fits m r x = true := List.all_eq_true.mpr fun j hj => by
    have hj := List.mem_range.mp hj
    rw [hxe j hj]
    exact fitB_of (h0 j hj) (hf j hj)
  dsimp only
  rw [if_pos hfit, told_is hxe hf]
theorem settled_G (nn : m.Nn) {b : Nat → Bool} {g : Nat → Rat} (hg : isG m.bk b g) : clrP m b g ∈ settledR m b := by
  have bo := bk_ok ok nn
  refine settled_mem ok (r := fun j => decide (j < m.n) && decide (m.p j ≤ g j)) (fun j h => by simp at h; exact h.1) hg.2.1 (fun j hj => ?_) hg.1 fun y hy f hf ne => ?_
  · have e : (decide (j < m.n) && decide (m.p j ≤ g j)) = decide (m.p j ≤ g j) := by simp [hj]
    rw [e]
    unfold fit
    by_cases q : m.p j ≤ g j
    · simp [q]
    · simp [q]; grind
  · have := greatest_one (B := m.bk) bo hg.1 hg.2.2 (r := fun j => decide (j < m.n) && decide (m.p j ≤ g j)) (fun j hj => by
      have hj : j < m.n := hj
      have e : m.bk.p j = m.p j := rfl
      rw [e]
      simp [hj]) hy f hf
    exact absurd this ne
theorem settled_L (nn : m.Nn) {b : Nat → Bool} {l : Nat → Rat} (hl : isL m.bk b l) : clrP m b l ∈ settledR m b := by
  have bo := bk_ok ok nn
  refine settled_mem ok (r := fun j => decide (j < m.n) && decide (m.p j < l j)) (fun j h => by simp at h; exact h.1) hl.2.1 (fun j hj => ?_) hl.1 fun y hy f hf ne => ?_
  · have e : (decide (j < m.n) && decide (m.p j < l j)) = decide (m.p j < l j) := by simp [hj]
    rw [e]
    unfold fit
    by_cases q : m.p j < l j
    · simp [q]; grind
    · simp [q]; grind
  · exact least_one (B := m.bk) bo hl.1 hl.2.1 hl.2.2 (r := fun j => decide (j < m.n) && decide (m.p j < l j)) (fun j hj => by
      have hj : j < m.n := hj
      have e : m.bk.p j = m.p j := rfl
      rw [e]
      simp [hj]) hy f hf ne
omit ok in
theorem anyB_range {n : Nat} {f g : Nat → Rat} : anyB ((List.range n).map f) ((List.range n).map g) = true ↔ ∃ j, j < n ∧ f j < g j := by
  unfold anyB
  rw [List.any_eq_true]
  constructor
  · rintro ⟨p, hp, h⟩
    rw [List.zip_map'] at hp
    obtain ⟨j, hj, rfl⟩ := List.mem_map.mp hp
    exact ⟨j, List.mem_range.mp hj, by simpa using h⟩
  · rintro ⟨j, hj, h⟩
    refine ⟨(f j, g j), ?_, by simpa using h⟩
    rw [List.zip_map']
    exact List.mem_map.mpr ⟨j, List.mem_range.mpr hj, rfl⟩
omit ok in
theorem noLess_clr {b b' : Nat → Bool} {a a' : Nat → Rat} : noLess (clrP m b a) (clrP m b' a') = true ↔ ∀ j, j < m.n → pay (b' j) (m.k j) (m.p j) (a' j) ≤ pay (b j) (m.k j) (m.p j) (a j) ∧ wor (b' j) (m.p j) (a' j) ≤ wor (b j) (m.p j) (a j) := by
  unfold noLess clrP payR worR
  rw [Bool.not_eq_true', Bool.or_eq_false_iff, ← Bool.not_eq_true, ← Bool.not_eq_true, anyB_range, anyB_range]
  constructor
  · rintro ⟨h1, h2⟩ j hj
    exact ⟨Rat.not_lt.mp fun z => h1 ⟨j, hj, z⟩, Rat.not_lt.mp fun z => h2 ⟨j, hj, z⟩⟩
  · intro h
    exact ⟨fun ⟨j, hj, z⟩ => Rat.not_lt.mpr (h j hj).1 z, fun ⟨j, hj, z⟩ => Rat.not_lt.mpr (h j hj).2 z⟩
omit ok in
theorem clr_eq {b b' : Nat → Bool} {a a' : Nat → Rat} (h1 : noLess (clrP m b a) (clrP m b' a') = true) (h2 : noLess (clrP m b' a') (clrP m b a) = true) : clrP m b a = clrP m b' a' := by
  have h1 := noLess_clr.mp h1
  have h2 := noLess_clr.mp h2
  unfold clrP payR worR
  congr 1
  · refine List.map_congr_left fun j hj => ?_
    have hj := List.mem_range.mp hj
    have := (h1 j hj).1
    have := (h2 j hj).1
    grind
  · refine List.map_congr_left fun j hj => ?_
    have hj := List.mem_range.mp hj
    have := (h1 j hj).2
    have := (h2 j hj).2
    grind
theorem clr_mono (nn : m.Nn) {b : Nat → Bool} {a a' : Nat → Rat} (h : ∀ i, i < m.n → a i ≤ a' i) : noLess (clrP m b a') (clrP m b a) = true :=
  noLess_clr.mpr fun j hj => ⟨pay_mono (nn.k0 j hj) (h j hj), wor_mono (h j hj)⟩
def szK (m : Mo) (e β : Nat) : Nat := bb (2 * e + 2 * β + 7) m.n + (β + 3) + 4 * (e + β + 3)
/-- the greatest pair where some banks fail -/
theorem ok_with_failing_by (nn : m.Nn) (S : PenSt) {banks : List Nat} (hz : 6 * (bb (2 * e + 2 * β + 7) m.n + (β + 3)) < 8000) {g : Nat → Rat} (hg : isG m.bk (bOf true banks) g) :
    F_with_failing_by [modelD m, natsD banks] S = .ok (.im (pairD (clrP m (bOf true banks) g))) S ∧ SzP (szK m e β) (clrP m (bOf true banks) g) := by
  have hs := ok.sm
  have hG := settled_G ok nn hg
  have cs := ok_settled ok S (β1 := true) (banks := banks) hz
  have sz : ∀ Q ∈ settledR m (bOf true banks), SzP (szK m e β) Q := fun Q hQ => by
    obtain ⟨_, _, _, _, h⟩ := settled_sound ok hQ
    exact h
  refine ⟨?_, sz _ hG⟩
  have hle : ∀ P ∈ settledR m (bOf true banks), noLess (clrP m (bOf true banks) g) P = true := fun P hP => by
    obtain ⟨a, a1, a2, rfl, _⟩ := settled_sound ok hP
    exact clr_mono ok nn (hg.2.2 a fun i hi => by rw [a1 i hi]; exact Rat.le_refl)
  have hun : ∀ P ∈ settledR m (bOf true banks), noLess P (clrP m (bOf true banks) g) = true → P = clrP m (bOf true banks) g := fun P hP h => by
    have h2 := hle P hP
    obtain ⟨a, a1, a2, rfl, _⟩ := settled_sound ok hP
    exact clr_eq h h2
  cases hL : settledR m (bOf true banks) with
  | nil => rw [hL] at hG; cases hG
  | cons P L =>
    rw [hL] at hG hle hun sz cs
    have cg := ok_greatest_of (P := P) (L := L) S sz (by unfold szK; omega)
    rw [gfold_is hle hun (hle P (List.mem_cons_self ..)) (.inl hG)] at cg
    have cs : F_settled [modelD m, natsD banks, .tup [.str "full", .str "kept"], .tup [.str "rest", .str "flat"]] S = .ok (.ow ((P :: L).map pairD)) S := cs
    refine fn_wp rfl ?_
    simp only [b_with_failing_by]
    obtain ⟨X, hX⟩ : ∃ X, X = (P :: L).map pairD := ⟨_, rfl⟩
    rw [← hX] at cs cg
    simp [cs, cg]
theorem ok_with_paying_by (nn : m.Nn) (S : PenSt) {banks : List Nat} (hz : 6 * (bb (2 * e + 2 * β + 7) m.n + (β + 3)) < 8000) {l : Nat → Rat} (hl : isL m.bk (bOf false banks) l) :
    F_with_paying_by [modelD m, natsD banks] S = .ok (.im (pairD (clrP m (bOf false banks) l))) S ∧ SzP (szK m e β) (clrP m (bOf false banks) l) := by
  have hs := ok.sm
  have hG := settled_L ok nn hl
  have cs := ok_settled ok S (β1 := false) (banks := banks) hz
  have sz : ∀ Q ∈ settledR m (bOf false banks), SzP (szK m e β) Q := fun Q hQ => by
    obtain ⟨_, _, _, _, h⟩ := settled_sound ok hQ
    exact h
  refine ⟨?_, sz _ hG⟩
  have hle : ∀ P ∈ settledR m (bOf false banks), noLess P (clrP m (bOf false banks) l) = true := fun P hP => by
    obtain ⟨a, a1, a2, rfl, _⟩ := settled_sound ok hP
    exact clr_mono ok nn (hl.2.2 a fun i hi => ⟨a2 i hi, by rw [a1 i hi]; exact Rat.le_refl⟩)
  have hun : ∀ P ∈ settledR m (bOf false banks), noLess (clrP m (bOf false banks) l) P = true → P = clrP m (bOf false banks) l := fun P hP h => by
    have h2 := hle P hP
    obtain ⟨a, a1, a2, rfl, _⟩ := settled_sound ok hP
    exact clr_eq h2 h
  cases hL : settledR m (bOf false banks) with
  | nil => rw [hL] at hG; cases hG
  | cons P L =>
    rw [hL] at hG hle hun sz cs
    have cg := ok_least_of (P := P) (L := L) S sz (by unfold szK; omega)
    rw [lfold_is hle hun (hle P (List.mem_cons_self ..)) (.inl hG)] at cg
    have cs : F_settled [modelD m, natsD banks, .tup [.str "rest", .str "flat"], .tup [.str "full", .str "kept"]] S = .ok (.ow ((P :: L).map pairD)) S := cs
    refine fn_wp rfl ?_
    simp only [b_with_paying_by]
    obtain ⟨X, hX⟩ : ∃ X, X = (P :: L).map pairD := ⟨_, rfl⟩
    rw [← hX] at cs cg
    simp [cs, cg]
end
end PdL
set_option Elab.async false
set_option linter.all false
set_option maxRecDepth 100000
set_option maxHeartbeats 4000000
namespace PdL
open PySem L2 Pd Th
/-! ### sorted numbers -/
def bl (n : Nat) (p : Nat → Bool) : List Nat := (List.range n).filter p
theorem mem_bl {n j : Nat} {p : Nat → Bool} : j ∈ bl n p ↔ j < n ∧ p j = true := by unfold bl; rw [List.mem_filter, List.mem_range]
theorem pw_ext : ∀ {l l' : List Int}, l.Pairwise (· < ·) → l'.Pairwise (· < ·) → (∀ x, x ∈ l ↔ x ∈ l') → l = l'
  | [], [], _, _, _ => rfl
  | [], b :: l', _, _, h => absurd ((h b).mpr (List.mem_cons_self ..)) (by simp)
  | a :: l, [], _, _, h => absurd ((h a).mp (List.mem_cons_self ..)) (by simp)
  | a :: l, b :: l', h1, h2, h => by
    rw [List.pairwise_cons] at h1 h2
    have e : a = b := by
      have ha := (h a).mp (List.mem_cons_self ..)
      have hb := (h b).mpr (List.mem_cons_self ..)
      rcases List.mem_cons.mp ha with e | e
      · exact e
      · rcases List.mem_cons.mp hb with e' | e'
        · exact e'.symm
        · have := h2.1 a e
          have := h1.1 b e'
          omega
    subst e
    rw [pw_ext h1.2 h2.2 fun x => ?_]
    constructor
    · intro hx
      rcases List.mem_cons.mp ((h x).mp (List.mem_cons_of_mem _ hx)) with e | e
      · have := h1.1 x hx; omega
      · exact e
    · intro hx
      rcases List.mem_cons.mp ((h x).mpr (List.mem_cons_of_mem _ hx)) with e | e
      · have := h2.1 x hx; omega
      · exact e
theorem srtI_mem' (j : Int) : ∀ l : List Int, j ∈ srtI l ↔ j ∈ l
  | [] => Iff.rfl
  | x :: xs => by
    show j ∈ insI x (srtI xs) ↔ _
    rw [insI_mem, srtI_mem' j xs, List.mem_cons]
theorem srtI_pw : ∀ l : List Int, (srtI l).Pairwise (· < ·)
  | [] => List.Pairwise.nil
  | x :: xs => insI_srt x _ (srtI_pw xs)
theorem bl_pw {n : Nat} {p : Nat → Bool} : ((bl n p).map fun i : Nat => (i : Int)).Pairwise (· < ·) := by
  rw [List.pairwise_map]
  unfold bl
  exact (List.Pairwise.filter _ (List.pairwise_lt_range (n := n))).imp fun h => by omega
theorem ints_nats {l : List Nat} : intsD (l.map fun i => D.int (i : Nat)) = some (l.map fun i : Nat => (i : Int)) := by
  induction l with
  | nil => rfl
  | cons i l ih =>
    show (intsD (l.map fun i => D.int (i : Nat))).map ((i : Int) :: ·) = _
    rw [ih]
    rfl
theorem bl_len {n : Nat} {p : Nat → Bool} : (bl n p).length ≤ n := by
  unfold bl
  have := List.length_filter_le p (List.range n)
  rw [List.length_range] at this
  exact this
theorem ok_joined {n : Nat} {p q : Nat → Bool} (S : PenSt) (hn : n ≤ 7) : F_joined [natsD (bl n p), natsD (bl n q)] S = .ok (.im (natsD (bl n fun j => p j || q j))) S := by
  have l1 := @bl_len n p
  have l2 := @bl_len n q
  have ea : binD .add (natsD (bl n p)) (natsD (bl n q)) = some (.im (natsD (bl n p ++ bl n q))) := by
    unfold natsD
    rw [add_tup (by simp; omega), List.map_append]
  have es : srtI ((bl n p ++ bl n q).map fun i : Nat => (i : Int)) = (bl n fun j => p j || q j).map fun i : Nat => (i : Int) := by
    refine pw_ext (srtI_pw _) bl_pw fun x => ?_
    rw [srtI_mem', List.mem_map, List.mem_map]
    constructor
    · rintro ⟨j, hj, rfl⟩
      refine ⟨j, mem_bl.mpr ?_, rfl⟩
      rcases List.mem_append.mp hj with h | h
      · obtain ⟨h1, h2⟩ := mem_bl.mp h
        exact ⟨h1, by simp [h2]⟩
      · obtain ⟨h1, h2⟩ := mem_bl.mp h
        exact ⟨h1, by simp [h2]⟩
    · rintro ⟨j, hj, rfl⟩
      refine ⟨j, ?_, rfl⟩
      obtain ⟨h1, h2⟩ := mem_bl.mp hj
      rw [Bool.or_eq_true] at h2
      rcases h2 with h2 | h2
      · exact List.mem_append_left _ (mem_bl.mpr ⟨h1, h2⟩)
      · exact List.mem_append_right _ (mem_bl.mpr ⟨h1, h2⟩)
  have ct : pF fSrt [natsD (bl n p ++ bl n q)] S = .ok (.im (natsD (bl n fun j => p j || q j))) S := by
    unfold pF natsD fSrt
    simp only [ints_nats]
    rw [if_pos (by rw [List.length_map, List.length_append]; omega), es, List.map_map]
    rfl
  refine fn_wp rfl ?_
  simp [b_joined, ea, ct]
theorem nb_nats {l : List Nat} : nb 60 (natsD l) = true := nb_le (k := 1) (nb_tup fun x hx => by
  obtain ⟨i, _, rfl⟩ := List.mem_map.mp hx
  rfl) (by decide)
theorem nats_inj {l l' : List Nat} (h : natsD l = natsD l') : l = l' := by
  unfold natsD at h
  simp at h
  exact List.map_inj_right (fun a b h => by simp at h; omega) |>.mp h
theorem bl_congr {n : Nat} {p q : Nat → Bool} (h : ∀ j, j < n → p j = q j) : bl n p = bl n q := List.filter_congr fun j hj => h j (List.mem_range.mp hj)
/-! ### rounds -/
def cnt : Nat → (Nat → Bool) → Nat
  | 0, _ => 0
  | n + 1, p => cnt n p + if p n then 0 else 1
theorem cnt_le {p p' : Nat → Bool} : ∀ {n : Nat}, (∀ j, j < n → p j = true → p' j = true) → cnt n p' ≤ cnt n p
  | 0, _ => Nat.le_refl _
  | n + 1, h => by
    have h1 := cnt_le (n := n) fun j hj => h j (by omega)
    have h2 := h n (by omega)
    unfold cnt
    cases e : p n with
    | false => split <;> simp <;> omega
    | true => rw [h2 e]; simp; exact h1
theorem cnt_lt {p p' : Nat → Bool} : ∀ {n : Nat}, (∀ j, j < n → p j = true → p' j = true) → (∃ j, j < n ∧ p' j = true ∧ p j = false) → cnt n p' < cnt n p
  | 0, _, ⟨j, hj, _⟩ => by omega
  | n + 1, h, ⟨j, hj, h1, h2⟩ => by
    have a1 := cnt_le (n := n) (p := p) (p' := p') fun j hj => h j (by omega)
    unfold cnt
    by_cases q : j = n
    · subst q
      rw [h1, h2]
      simp
      omega
    · have a2 := cnt_lt (n := n) (p := p) (p' := p') (fun j hj => h j (by omega)) ⟨j, by omega, h1, h2⟩
      have h3 := h n (by omega)
      cases e : p n with
      | false => split <;> simp <;> omega
      | true => rw [h3 e]; simp; exact a2
theorem cnt_n {p : Nat → Bool} : ∀ {n : Nat}, cnt n p ≤ n
  | 0 => Nat.le_refl _
  | n + 1 => by
    have := @cnt_n p n
    unfold cnt
    split <;> omega
abbrev Rnd := (Nat → Bool) × (Nat → Rat)
def bG (m : Mo) (p : Nat → Bool) : Nat → Bool := bOf true (bl m.n p)
def bL (m : Mo) (p : Nat → Bool) : Nat → Bool := bOf false (bl m.n p)
theorem bG_at {m : Mo} {p : Nat → Bool} {j : Nat} (h : j < m.n) : bG m p j = p j := by
  unfold bG bOf
  by_cases q : p j = true
  · rw [if_pos (mem_bl.mpr ⟨h, q⟩), q]
  · rw [if_neg (fun z => q (mem_bl.mp z).2)]
    simp at q
    rw [q]
    rfl
theorem bL_at {m : Mo} {p : Nat → Bool} {j : Nat} (h : j < m.n) : bL m p j = !p j := by
  unfold bL bOf
  by_cases q : p j = true
  · rw [if_pos (mem_bl.mpr ⟨h, q⟩), q]
    rfl
  · rw [if_neg (fun z => q (mem_bl.mp z).2)]
    simp at q
    rw [q]
def nxG (m : Mo) (p : Nat → Bool) (g : Nat → Rat) (j : Nat) : Bool := p j || decide (g j < m.p j)
def nxL (m : Mo) (p : Nat → Bool) (l : Nat → Rat) (j : Nat) : Bool := p j || !decide (l j < m.p j)
/-- the rounds down from some banks -/
inductive GR (m : Mo) : (Nat → Bool) → List Rnd → Prop
  | stop {p : Nat → Bool} {g : Nat → Rat} : isG m.bk (bG m p) g → (∀ j, j < m.n → g j < m.p j → p j = true) → GR m p [(p, g)]
  | step {p : Nat → Bool} {g : Nat → Rat} {rs : List Rnd} : isG m.bk (bG m p) g → (∃ j, j < m.n ∧ g j < m.p j ∧ p j = false) → GR m (nxG m p g) rs → GR m p ((p, g) :: rs)
/-- the rounds up -/
inductive LR (m : Mo) : (Nat → Bool) → List Rnd → Prop
  | stop {p : Nat → Bool} {g : Nat → Rat} : isL m.bk (bL m p) g → (∀ j, j < m.n → m.p j ≤ g j → p j = true) → LR m p [(p, g)]
  | step {p : Nat → Bool} {g : Nat → Rat} {rs : List Rnd} : isL m.bk (bL m p) g → (∃ j, j < m.n ∧ m.p j ≤ g j ∧ p j = false) → LR m (nxL m p g) rs → LR m p ((p, g) :: rs)
theorem gr_exists {m : Mo} (bo : m.bk.Ok) : ∀ (c : Nat) (p : Nat → Bool), cnt m.n p ≤ c → ∃ rs, GR m p rs ∧ rs.length ≤ c + 1 := fun c => by
  induction c with
  | zero =>
    intro p hp
    obtain ⟨g, hg⟩ := Th.greatest (b := bG m p) bo
    refine ⟨_, .stop hg fun j hj h => ?_, Nat.le_refl _⟩
    cases e : p j with
    | true => rfl
    | false =>
      have := cnt_lt (n := m.n) (p := p) (p' := fun _ => true) (fun _ _ _ => rfl) ⟨j, hj, rfl, e⟩
      omega
  | succ c ih =>
    intro p hp
    obtain ⟨g, hg⟩ := Th.greatest (b := bG m p) bo
    by_cases q : ∃ j, j < m.n ∧ g j < m.p j ∧ p j = false
    · have := cnt_lt (n := m.n) (p := p) (p' := nxG m p g) (fun j hj h => by unfold nxG; rw [h]; rfl) (by
        obtain ⟨j, hj, h1, h2⟩ := q
        exact ⟨j, hj, by unfold nxG; simp [h1], h2⟩)
      obtain ⟨rs, h1, h2⟩ := ih (nxG m p g) (by omega)
      exact ⟨_, .step hg q h1, by rw [List.length_cons]; omega⟩
    · refine ⟨_, .stop hg fun j hj h => ?_, by simp⟩
      cases e : p j with
      | true => rfl
      | false => exact absurd ⟨j, hj, h, e⟩ q
theorem lr_exists {m : Mo} (bo : m.bk.Ok) : ∀ (c : Nat) (p : Nat → Bool), cnt m.n p ≤ c → ∃ rs, LR m p rs ∧ rs.length ≤ c + 1 := fun c => by
  induction c with
  | zero =>
    intro p hp
    obtain ⟨g, hg⟩ := Th.least (b := bL m p) bo
    refine ⟨_, .stop hg fun j hj h => ?_, Nat.le_refl _⟩
    cases e : p j with
    | true => rfl
    | false =>
      have := cnt_lt (n := m.n) (p := p) (p' := fun _ => true) (fun _ _ _ => rfl) ⟨j, hj, rfl, e⟩
      omega
  | succ c ih =>
    intro p hp
    obtain ⟨g, hg⟩ := Th.least (b := bL m p) bo
    by_cases q : ∃ j, j < m.n ∧ m.p j ≤ g j ∧ p j = false
    · have := cnt_lt (n := m.n) (p := p) (p' := nxL m p g) (fun j hj h => by unfold nxL; rw [h]; rfl) (by
        obtain ⟨j, hj, h1, h2⟩ := q
        refine ⟨j, hj, ?_, h2⟩
        unfold nxL
        simp
        exact .inr (Rat.not_lt.mpr h1))
      obtain ⟨rs, h1, h2⟩ := ih (nxL m p g) (by omega)
      exact ⟨_, .step hg q h1, by rw [List.length_cons]; omega⟩
    · refine ⟨_, .stop hg fun j hj h => ?_, by simp⟩
      cases e : p j with
      | true => rfl
      | false => exact absurd ⟨j, hj, h, e⟩ q
end PdL
set_option Elab.async false
set_option linter.all false
set_option maxRecDepth 100000
set_option maxHeartbeats 4000000
namespace PdL
open PySem L2 Pd Th
def whlOf : List IS → List IS
  | [] => []
  | .whl _ b :: _ => b
  | _ :: r => whlOf r
theorem whl_one {body : M Flow'} {k : Nat} {ρ : Rho} {S : PenSt} {R : Flow' → Rho → PenSt → Prop} (h : wp body (fun f ρ' S' => match f with
    | .nx => wp (whlLoop body k) R ρ' S'
    | .cnt => wp (whlLoop body k) R ρ' S'
    | .brk => R .nx ρ' S'
    | .ret sv => R (.ret sv) ρ' S') ρ S) : wp (whlLoop body (k + 1)) R ρ S := by
  show wp (M.bnd body _) R ρ S
  rw [wp_bnd]
  refine wp_mono h fun f ρ' S' h => ?_
  cases f <;> exact h
/-- room for the numbers -/
structure Mo.Fin (m : Mo) (e β : Nat) : Prop where
  z1 : 6 * (bb (2 * e + 2 * β + 7) m.n + (β + 3)) < 8000
  z2 : 2 * m.n * (szK m e β + e + β + 4) + 2 * e + 2 * β + 20 < 9000
def rndG (m : Mo) (r : Rnd) : D := .tup [natsD (bl m.n r.1), rowD (payR m (bG m r.1) r.2), rowD (worR m (bG m r.1) r.2)]
def rndL (m : Mo) (r : Rnd) : D := .tup [natsD (bl m.n r.1), rowD (payR m (bL m r.1) r.2), rowD (worR m (bL m r.1) r.2)]
theorem len_payR {m : Mo} {b : Nat → Bool} {a : Nat → Rat} : (payR m b a).length = m.n := by unfold payR; simp
theorem len_worR {m : Mo} {b : Nat → Bool} {a : Nat → Rat} : (worR m b a).length = m.n := by unfold worR; simp
/-- what a clearing row makes of itself -/
theorem asR_clr {m : Mo} {b : Nat → Bool} {a : Nat → Rat} : asR m (payR m b a) (worR m b a) = (List.range m.n).map (F m.bk b a) := by
  unfold asR
  refine List.map_congr_left fun i hi => ?_
  unfold asT F payR worR
  rw [Rat.add_assoc, ← sumR_add]
  show m.c i + _ = m.c i + _
  congr 1
  refine sumR_congr fun j hj => ?_
  rw [ent_range hj, ent_range hj]
  rfl
theorem asR_fix {m : Mo} {b : Nat → Bool} {a : Nat → Rat} (h : ∀ i, i < m.n → F m.bk b a i = a i) : asR m (payR m b a) (worR m b a) = (List.range m.n).map a := by
  rw [asR_clr]
  exact List.map_congr_left fun i hi => h i (List.mem_range.mp hi)
section
variable {m : Mo} {E e β : Nat} (ok : m.Ok E e β)
include ok
theorem ok_assets_clr (fn : m.Fin e β) (S : PenSt) {b : Nat → Bool} {a : Nat → Rat} (h : ∀ i, i < m.n → F m.bk b a i = a i) (sz : SzP (szK m e β) (clrP m b a)) :
    F_assets_by [modelD m, rowD (payR m b a), rowD (worR m b a)] S = .ok (.im (rowD ((List.range m.n).map a))) S ∧ ∀ q ∈ (List.range m.n).map a, Sz (2 * m.n * (szK m e β + e + β + 4) + e + β + 4) q := by
  have z2 := fn.z2
  have h1 := ok_assets_by ok (d := rowD (payR m b a)) (f := rowD (worR m b a)) S rfl rfl len_payR len_worR sz.1 sz.2 (by omega)
  have h2 := sz_asR ok (x := payR m b a) (w := worR m b a) len_payR len_worR sz.1 sz.2
  rw [asR_fix h] at h1 h2
  exact ⟨h1, h2⟩
theorem ok_lacking_clr (fn : m.Fin e β) (S : PenSt) {b : Nat → Bool} {a : Nat → Rat} (h : ∀ i, i < m.n → F m.bk b a i = a i) (sz : SzP (szK m e β) (clrP m b a)) :
    F_lacking [modelD m, rowD ((List.range m.n).map a)] S = .ok (.im (natsD (bl m.n fun i => decide (a i < m.p i)))) S := by
  have z2 := fn.z2
  obtain ⟨h1, h2⟩ := ok_assets_clr ok fn S h sz
  have h3 := ok_lacking ok S (x := (List.range m.n).map a) (by simp) h2 (by omega)
  have e1 : lackR m ((List.range m.n).map a) = bl m.n fun i => decide (a i < m.p i) := by
    unfold lackR
    exact bl_congr fun j hj => by rw [ent_range hj]
  rw [e1] at h3
  exact h3
theorem greatest_loop (nn : m.Nn) (fn : m.Fin e β) (S : PenSt) {R : Flow' → Rho → PenSt → Prop} {p : Nat → Bool} {rs : List Rnd} (h : GR m p rs) : ∀ (fuel : Nat) (acc : List D) (x3 x4 x5 : Option SV), rs.length ≤ fuel → acc.length + rs.length ≤ 1000 →
    (∀ ρ', R (.ret (.im (.tup (acc ++ rs.map (rndG m))))) ρ' S) → wp (whlLoop (evSs (whlOf b_greatest_rounds)) fuel) R [some (.im (modelD m)), some (.im (natsD (bl m.n p))), some (.ow acc), x3, x4, x5] S := by
  induction h with
  | @stop p g hg hs =>
    intro fuel acc x3 x4 x5 hf hl q
    cases fuel with
    | zero => simp at hf
    | succ k =>
      refine whl_one ?_
      obtain ⟨c1, sz⟩ := ok_with_failing_by ok nn S (banks := bl m.n p) fn.z1 hg
      obtain ⟨c2, _⟩ := ok_assets_clr ok fn S hg.1 sz
      have c3 := ok_lacking_clr ok fn S hg.1 sz
      have c4 := ok_joined (n := m.n) (p := p) (q := fun i => decide (g i < m.p i)) S ok.n7
      have e1 : bl m.n (fun j => p j || decide (g j < m.p j)) = bl m.n p := bl_congr fun j hj => by
        by_cases z : g j < m.p j
        · rw [hs j hj z]; rfl
        · simp [z]
      rw [e1] at c4
      have c5 := eq_same (d := natsD (bl m.n p)) nb_nats
      have c1 : F_with_failing_by [modelD m, natsD (bl m.n p)] S = .ok (.im (.tup [rowD (payR m (bG m p) g), rowD (worR m (bG m p) g)])) S := c1
      simp at hl
      simp [b_greatest_rounds, whlOf, c1, c2, c3, c4, c5, truD, tuple_lst]
      refine ⟨by omega, ?_⟩
      exact q _
  | @step p g rs hg hs hr ih =>
    intro fuel acc x3 x4 x5 hf hl q
    cases fuel with
    | zero => simp at hf
    | succ k =>
      refine whl_one ?_
      obtain ⟨c1, sz⟩ := ok_with_failing_by ok nn S (banks := bl m.n p) fn.z1 hg
      obtain ⟨c2, _⟩ := ok_assets_clr ok fn S hg.1 sz
      have c3 := ok_lacking_clr ok fn S hg.1 sz
      have c4 := ok_joined (n := m.n) (p := p) (q := fun i => decide (g i < m.p i)) S ok.n7
      have c4 : F_joined [natsD (bl m.n p), natsD (bl m.n fun i => decide (g i < m.p i))] S = .ok (.im (natsD (bl m.n (nxG m p g)))) S := c4
      have c5 := eq_other (d := natsD (bl m.n (nxG m p g))) (e := natsD (bl m.n p)) nb_nats nb_nats fun z => by
        obtain ⟨j, hj, h1, h2⟩ := hs
        have h3 : j ∈ bl m.n (nxG m p g) := mem_bl.mpr ⟨hj, by unfold nxG; simp [h1]⟩
        rw [nats_inj z] at h3
        have := (mem_bl.mp h3).2
        rw [h2] at this
        cases this
      have c1 : F_with_failing_by [modelD m, natsD (bl m.n p)] S = .ok (.im (.tup [rowD (payR m (bG m p) g), rowD (worR m (bG m p) g)])) S := c1
      rw [List.length_cons] at hf hl
      have next := ih k (acc ++ [rndG m (p, g)]) (some (.im (natsD (bl m.n (nxG m p g))))) (some (.im (rowD (payR m (bG m p) g)))) (some (.im (rowD (worR m (bG m p) g)))) (by omega) (by simp; omega) (fun ρ' => by
        have := q ρ'
        rw [List.append_assoc]
        exact this)
      simp [b_greatest_rounds, whlOf] at next
      simp [b_greatest_rounds, whlOf, c1, c2, c3, c4, c5, truD]
      exact ⟨by omega, next⟩
end
end PdL
set_option Elab.async false
set_option linter.all false
set_option maxRecDepth 100000
set_option maxHeartbeats 4000000
namespace PdL
open PySem L2 Pd Th
section
variable {m : Mo} {E e β : Nat} (ok : m.Ok E e β)
include ok
def owedL (m : Mo) : List D := (List.range m.n).map fun j => qD (m.p j)
theorem least_body (nn : m.Nn) (fn : m.Fin e β) (S : PenSt) {p : Nat → Bool} {g : Nat → Rat} (hg : isL m.bk (bL m p) g) {acc : List D} {s2 : SV} {x4 x5 x6 x7 : Option SV} (h2 : s2.d = .lst (owedL m)) (hl : acc.length < 1000) {Q : Flow' → Rho → PenSt → Prop}
    (q : ∀ x6 x7, ∀ kd : Bool, cmpD .eq (natsD (bl m.n (nxL m p g))) (natsD (bl m.n p)) = some kd → if kd then ∀ ρ', Q (.ret (.im (.tup (acc ++ [rndL m (p, g)])))) ρ' S else
      Q .nx [some (.im (modelD m)), some (.im (natsD (bl m.n (nxL m p g)))), some (.im (.lst (owedL m))), some (.ow (acc ++ [rndL m (p, g)])), some (.im (rowD ((List.range m.n).map g))), some (.im (natsD (bl m.n (nxL m p g)))), x6, x7, none, none] S) :
    wp (evSs (whlOf b_least_rounds)) Q [some (.im (modelD m)), some (.im (natsD (bl m.n p))), some s2, some (.ow acc), x4, x5, x6, x7, none, none] S := by
  have z2 := fn.z2
  obtain ⟨c1, sz⟩ := ok_with_paying_by ok nn S (banks := bl m.n p) fn.z1 hg
  obtain ⟨c2, sa⟩ := ok_assets_clr ok fn S hg.1 sz
  have c4 := ok_joined (n := m.n) (p := p) (q := fun i => !decide (g i < m.p i)) S ok.n7
  have c4 : F_joined [natsD (bl m.n p), natsD (bl m.n fun i => !decide (g i < m.p i))] S = .ok (.im (natsD (bl m.n (nxL m p g)))) S := c4
  have c1 : F_with_paying_by [modelD m, natsD (bl m.n p)] S = .ok (.im (.tup [rowD (payR m (bL m p) g), rowD (worR m (bL m p) g)])) S := c1
  obtain ⟨kd, hk⟩ : ∃ kd, cmpD .eq (natsD (bl m.n (nxL m p g))) (natsD (bl m.n p)) = some kd := by
    obtain ⟨r, h, _⟩ := eqD_nb (d := natsD (bl m.n (nxL m p g))) (e := natsD (bl m.n p)) nb_nats nb_nats
    exact ⟨r, by rw [cmp_eqD]; exact h⟩
  have q := q (some (.im (rowD (payR m (bL m p) g)))) (some (.im (rowD (worR m (bL m p) g)))) kd hk
  unfold owedL at h2 q
  simp [b_least_rounds, whlOf, c1, c2, h2, enm_range]
  refine ⟨by omega, ?_⟩
  refine wp_map (fun i => !decide (g i < m.p i)) (fun i => .int (i : Nat)) (fun ρ => ρ = [some (.im (modelD m)), some (.im (natsD (bl m.n p))), some (.im (.lst ((List.range m.n).map fun j => qD (m.p j)))), some (.ow (acc ++ [rndL m (p, g)])), some (.im (rowD ((List.range m.n).map g))), x5, some (.im (rowD (payR m (bL m p) g))), some (.im (rowD (worR m (bL m p) g))), none, none]) rfl (fun i hi ρ hρ => ?_) fun ρ' hρ => ?_
  · subst hρ
    have hi := List.mem_range.mp hi
    have e1 := ix_row (r := (List.range m.n).map g) (k := i) (by simp; exact hi)
    rw [ent_range hi] at e1
    have sg := sa _ (ent_mem (rs := (List.range m.n).map g) (k := i) (by simp; exact hi))
    rw [ent_range hi] at sg
    have c5 := ok_below S sg (ok.szP hi) (by omega)
    refine ⟨_, rfl, ?_⟩
    by_cases z : g i < m.p i
    · simp [wipeE, e1, c5, truD, z]
    · simp [wipeE, e1, c5, truD, z]
  · subst hρ
    have et : D.tup (((List.range m.n).filter fun i => !decide (g i < m.p i)).map fun i => D.int (i : Nat)) = natsD (bl m.n fun i => !decide (g i < m.p i)) := rfl
    simp [tuple_lst, et, c4, hk, truD]
    cases kd with
    | true =>
      simp at q ⊢
      exact q _
    | false =>
      simp at q ⊢
      exact q
theorem least_loop (nn : m.Nn) (fn : m.Fin e β) (S : PenSt) {R : Flow' → Rho → PenSt → Prop} {p : Nat → Bool} {rs : List Rnd} (h : LR m p rs) : ∀ (fuel : Nat) (acc : List D) (s2 : SV) (x4 x5 x6 x7 : Option SV), s2.d = .lst (owedL m) → rs.length ≤ fuel → acc.length + rs.length ≤ 1000 →
    (∀ ρ', R (.ret (.im (.tup (acc ++ rs.map (rndL m))))) ρ' S) → wp (whlLoop (evSs (whlOf b_least_rounds)) fuel) R [some (.im (modelD m)), some (.im (natsD (bl m.n p))), some s2, some (.ow acc), x4, x5, x6, x7, none, none] S := by
  induction h with
  | @stop p g hg hs =>
    intro fuel acc s2 x4 x5 x6 x7 h2 hf hl q
    cases fuel with
    | zero => simp at hf
    | succ k =>
      refine whl_one (least_body ok nn fn S hg h2 (by simp at hl; omega) fun x6 x7 kd hk => ?_)
      have e1 : bl m.n (nxL m p g) = bl m.n p := bl_congr fun j hj => by
        unfold nxL
        by_cases z : m.p j ≤ g j
        · rw [hs j hj z]; rfl
        · have : g j < m.p j := Rat.not_le.mp z
          simp [this]
      rw [e1, eq_same nb_nats] at hk
      cases hk
      exact q
  | @step p g rs hg hs hr ih =>
    intro fuel acc s2 x4 x5 x6 x7 h2 hf hl q
    rw [List.length_cons] at hf hl
    cases fuel with
    | zero => omega
    | succ k =>
      refine whl_one (least_body ok nn fn S hg h2 (by omega) fun y6 y7 kd hk => ?_)
      rw [eq_other nb_nats nb_nats fun z => by
        obtain ⟨j, hj, h1, h3⟩ := hs
        have h4 : j ∈ bl m.n (nxL m p g) := mem_bl.mpr ⟨hj, by unfold nxL; simp; exact .inr (Rat.not_lt.mpr h1)⟩
        rw [nats_inj z] at h4
        have := (mem_bl.mp h4).2
        rw [h3] at this
        cases this] at hk
      cases hk
      exact ih k (acc ++ [rndL m (p, g)]) _ _ _ y6 y7 rfl (by omega) (by simp; omega) fun ρ' => by
        have := q ρ'
        rw [List.append_assoc]
        exact this
theorem ok_greatest_rounds (nn : m.Nn) (fn : m.Fin e β) (S : PenSt) {rs : List Rnd} (h : GR m (fun _ => false) rs) (hl : rs.length ≤ 8) : F_greatest_rounds [modelD m] S = .ok (.im (.tup (rs.map (rndG m)))) S := by
  refine fn_wp rfl ?_
  have e0 : D.tup [] = natsD (bl m.n fun _ => false) := by
    have : bl m.n (fun _ => false) = [] := List.filter_eq_nil_iff.mpr (by simp)
    rw [this]; rfl
  have := greatest_loop ok nn fn S (R := fun f _ S' => f = .ret (.im (.tup (rs.map (rndG m)))) ∧ S' = S) h 100000 [] none none none (by omega) (by simp; omega) (fun ρ' => ⟨rfl, rfl⟩)
  rw [← e0] at this
  simp only [whlOf, b_greatest_rounds] at this
  simp only [b_greatest_rounds]
  simp [asgs]
  refine wp_mono this fun f ρ' S' ⟨h1, h2⟩ => ?_
  subst h1 h2
  simp
def p0 (m : Mo) (j : Nat) : Bool := decide (m.p j = 0)
theorem ok_least_rounds (nn : m.Nn) (fn : m.Fin e β) (S : PenSt) {rs : List Rnd} (h : LR m (p0 m) rs) (hl : rs.length ≤ 8) : F_least_rounds [modelD m] S = .ok (.im (.tup (rs.map (rndL m)))) S := by
  have co := ok_all_owed ok S
  refine fn_wp rfl ?_
  simp [b_least_rounds, co, asgs, enm_range]
  refine wp_map (p0 m) (fun i => .int (i : Nat)) (fun ρ => ρ = [some (.im (modelD m)), none, some (.im (.lst (owedL m))), some (.ow []), none, none, none, none, none, none]) rfl (fun i hi ρ hρ => ?_) fun ρ' hρ => ?_
  · subst hρ
    refine ⟨_, rfl, ?_⟩
    have e1 : (((m.p i).num == 0) : Bool) = p0 m i := by
      unfold p0
      rw [Bool.eq_iff_iff, beq_iff_eq, decide_eq_true_eq, num_zero]
    by_cases z : m.p i = 0
    · simp [wipeE, e1, truD, p0, z]
    · have z' : ¬ (m.p i).num = 0 := fun y => z (num_zero.mp y)
      simp [wipeE, truD, p0, z, z']
  · subst hρ
    have := least_loop ok nn fn S (R := fun f _ S' => f = .ret (.im (.tup (rs.map (rndL m)))) ∧ S' = S) h 100000 [] (.im (.lst (owedL m))) none none none none rfl (by omega) (by simp; omega) (fun ρ' => ⟨rfl, rfl⟩)
    simp only [whlOf, b_least_rounds] at this
    have et : D.tup (((List.range m.n).filter (p0 m)).map fun i => D.int (i : Nat)) = natsD (bl m.n (p0 m)) := rfl
    simp [tuple_lst, et]
    refine wp_mono this fun f ρ' S' ⟨h1, h2⟩ => ?_
    subst h1 h2
    simp
end
end PdL
set_option Elab.async false
set_option linter.all false
set_option maxRecDepth 100000
set_option maxHeartbeats 4000000
namespace PdL
open PySem L2 Pd Th
/-! ### the last rounds -/
theorem gr_last {m : Mo} (bo : m.bk.Ok) {p : Nat → Bool} {rs : List Rnd} (h : GR m p rs) : ∃ pre q g, rs = pre ++ [(q, g)] ∧ isG m.bk (bG m q) g ∧ (∀ j, j < m.n → g j < m.p j → q j = true) ∧ (∀ j, j < m.n → q j = true → p j = true ∨ g j < m.p j) ∧ (∀ j, j < m.n → p j = true → q j = true) ∧
    (∀ y : Nat → Rat, Clr m.bk y → (∀ j, j < m.n → p j = true → y j < m.p j) → ∀ i, i < m.n → y i ≤ g i) := by
  induction h with
  | @stop p g hg hs =>
    exact ⟨[], p, g, rfl, hg, hs, fun j _ h => .inl h, fun _ _ h => h, fun y hy hp => clr_le (B := m.bk) bo hy hg fun j hj h => hp j hj (by have e := bG_at (m := m) (p := p) (show j < m.n from hj); rw [← e]; exact h)⟩
  | @step p g rs hg hs hr ih =>
    obtain ⟨pre, q, g', e, h1, h2, h3, h4, h5⟩ := ih
    have pq : ∀ j, j < m.n → p j = true → q j = true := fun j hj h => h4 j hj (by unfold nxG; rw [h]; rfl)
    have gg : ∀ i, i < m.n → g' i ≤ g i := isG_more (B := m.bk) bo hg h1 fun j hj h => by
      have hj : j < m.n := hj
      rw [bG_at hj] at h ⊢
      exact pq j hj h
    refine ⟨(p, g) :: pre, q, g', by rw [e]; rfl, h1, h2, fun j hj h => ?_, pq, fun y hy hp => ?_⟩
    · rcases h3 j hj h with z | z
      · unfold nxG at z
        rw [Bool.or_eq_true, decide_eq_true_eq] at z
        rcases z with z | z
        · exact .inl z
        · exact .inr (by have := gg j hj; grind)
      · exact .inr z
    · have yg := clr_le (B := m.bk) bo hy hg fun j hj h => hp j hj (by have e := bG_at (m := m) (p := p) (show j < m.n from hj); rw [← e]; exact h)
      refine h5 y hy fun j hj h => ?_
      unfold nxG at h
      rw [Bool.or_eq_true, decide_eq_true_eq] at h
      rcases h with h | h
      · exact hp j hj h
      · have := yg j hj; grind
theorem lr_last {m : Mo} (bo : m.bk.Ok) {p : Nat → Bool} {rs : List Rnd} (h : LR m p rs) : ∃ pre q g, rs = pre ++ [(q, g)] ∧ isL m.bk (bL m q) g ∧ (∀ j, j < m.n → m.p j ≤ g j → q j = true) ∧ (∀ j, j < m.n → q j = true → p j = true ∨ m.p j ≤ g j) ∧ (∀ j, j < m.n → p j = true → q j = true) ∧
    (∀ y : Nat → Rat, Clr m.bk y → (∀ i, i < m.n → 0 ≤ y i) → (∀ j, j < m.n → p j = true → m.p j ≤ y j) → ∀ i, i < m.n → g i ≤ y i) := by
  induction h with
  | @stop p g hg hs =>
    exact ⟨[], p, g, rfl, hg, hs, fun j _ h => .inl h, fun _ _ h => h, fun y hy y0 hp => clr_ge (B := m.bk) bo hy y0 hg fun j hj h => hp j hj (by
      have hj : j < m.n := hj
      rw [bL_at hj] at h
      simpa using h)⟩
  | @step p g rs hg hs hr ih =>
    obtain ⟨pre, q, g', e, h1, h2, h3, h4, h5⟩ := ih
    have pq : ∀ j, j < m.n → p j = true → q j = true := fun j hj h => h4 j hj (by unfold nxL; rw [h]; rfl)
    have gg : ∀ i, i < m.n → g i ≤ g' i := isL_more (B := m.bk) bo h1 hg fun j hj h => by
      have hj : j < m.n := hj
      rw [bL_at hj] at h ⊢
      cases z : p j with
      | false => rfl
      | true => rw [pq j hj z] at h; exact h
    refine ⟨(p, g) :: pre, q, g', by rw [e]; rfl, h1, h2, fun j hj h => ?_, pq, fun y hy y0 hp => ?_⟩
    · rcases h3 j hj h with z | z
      · unfold nxL at z
        simp at z
        rcases z with z | z
        · exact .inl z
        · exact .inr (by have := gg j hj; have := Rat.not_lt.mp z; grind)
      · exact .inr z
    · have yg := clr_ge (B := m.bk) bo hy y0 hg fun j hj h => hp j hj (by
        have hj : j < m.n := hj
        rw [bL_at hj] at h
        simpa using h)
      refine h5 y hy y0 fun j hj h => ?_
      unfold nxL at h
      simp at h
      rcases h with h | h
      · exact hp j hj h
      · have := yg j hj; have := Rat.not_lt.mp h; grind
theorem ix_lastD {xs : List D} {x : D} : ixD (.tup (xs ++ [x])) (.int (-1)) = some x := by
  have e : ixN (xs ++ [x]).length (-1) = some xs.length := by
    unfold ixN
    rw [if_neg (by decide), if_pos (by rw [List.length_append]; simp; omega)]
    congr 1
    rw [List.length_append]
    simp
    omega
  show atI (xs ++ [x]) (-1) = _
  unfold atI
  rw [e]
  simp
@[simp] theorem ix_tup2 {x y z : D} {xs : List D} : ixD (.tup (x :: y :: z :: xs)) (.int 2) = some z := by
  have e : ixN (x :: y :: z :: xs).length 2 = some 2 := by
    unfold ixN
    rw [if_pos (by decide), if_pos (by simp only [List.length_cons]; omega)]
    rfl
  show atI _ 2 = _
  unfold atI
  rw [e]
  rfl
/-- what the clearings of a model come to -/
structure ClrOf (m : Mo) (rs : List Rnd) (q : Nat → Bool) (g : Nat → Rat) : Prop where
  last : ∃ pre, rs = pre ++ [(q, g)]
  clr : Clr m.bk g
  g0 : ∀ i, i < m.n → 0 ≤ g i
  qs : ∀ j, j < m.n → (q j = true ↔ g j < m.p j)
theorem gr_clr {m : Mo} (bo : m.bk.Ok) {rs : List Rnd} (h : GR m (fun _ => false) rs) : ∃ q g, ClrOf m rs q g ∧ isG m.bk (bG m q) g ∧ ∀ y, Clr m.bk y → ∀ i, i < m.n → y i ≤ g i := by
  obtain ⟨pre, q, g, e, h1, h2, h3, _, h5⟩ := gr_last bo h
  have qs : ∀ j, j < m.n → (q j = true ↔ g j < m.p j) := fun j hj => ⟨fun z => (h3 j hj z).resolve_left (by simp), h2 j hj⟩
  refine ⟨q, g, ⟨⟨pre, e⟩, clr_of (B := m.bk) h1.1 fun j hj => ?_, h1.2.1, qs⟩, h1, fun y hy => h5 y hy fun _ _ z => by cases z⟩
  have hj : j < m.n := hj
  rw [bG_at hj]
  unfold lack
  rw [Bool.eq_iff_iff, decide_eq_true_eq]
  exact qs j hj
/-- .. up: q are those that pay -/
theorem lr_clr {m : Mo} (bo : m.bk.Ok) {rs : List Rnd} (h : LR m (p0 m) rs) : ∃ q g, (∃ pre, rs = pre ++ [(q, g)]) ∧ Clr m.bk g ∧ (∀ i, i < m.n → 0 ≤ g i) ∧ (∀ j, j < m.n → (q j = true ↔ m.p j ≤ g j)) ∧ isL m.bk (bL m q) g ∧ ∀ y, Clr m.bk y → (∀ i, i < m.n → 0 ≤ y i) → ∀ i, i < m.n → g i ≤ y i := by
  obtain ⟨pre, q, g, e, h1, h2, h3, _, h5⟩ := lr_last bo h
  have p00 : ∀ y : Nat → Rat, (∀ i, i < m.n → 0 ≤ y i) → ∀ j, j < m.n → p0 m j = true → m.p j ≤ y j := fun y y0 j hj z => by
    unfold p0 at z
    rw [decide_eq_true_eq] at z
    rw [z]
    exact y0 j hj
  have qs : ∀ j, j < m.n → (q j = true ↔ m.p j ≤ g j) := fun j hj => ⟨fun z => (h3 j hj z).elim (p00 g h1.2.1 j hj) id, h2 j hj⟩
  refine ⟨q, g, ⟨pre, e⟩, clr_of (B := m.bk) h1.1 fun j hj => ?_, h1.2.1, qs, h1, fun y hy y0 => h5 y hy y0 (p00 y y0)⟩
  have hj : j < m.n := hj
  rw [bL_at hj]
  unfold lack
  rw [Bool.eq_iff_iff, decide_eq_true_eq, Bool.not_eq_true', ← Bool.not_eq_true, qs j hj]
  exact Rat.not_le
section
variable {m : Mo} {E e β : Nat} (ok : m.Ok E e β)
include ok
def paysD (x w : List Rat) : D := .ins 2 [rowD x, rowD w]
def leastD (x w : List Rat) : D := .ins 3 [rowD x, rowD w]
theorem ok_pays (nn : m.Nn) (fn : m.Fin e β) (S : PenSt) {rs pre : List Rnd} {q : Nat → Bool} {g : Nat → Rat} (h : GR m (fun _ => false) rs) (hl : rs.length ≤ 8) (e1 : rs = pre ++ [(q, g)]) :
    F_pays [modelD m] S = .ok (.im (.tup [paysD (payR m (bG m q) g) (worR m (bG m q) g), .tup (rs.map (rndG m))])) S := by
  have c1 := ok_greatest_rounds ok nn fn S h hl
  have c2 := ok_need_model ok S
  have e2 : ixD (.tup (rs.map (rndG m))) (.int (-1)) = some (.tup [natsD (bl m.n q), rowD (payR m (bG m q) g), rowD (worR m (bG m q) g)]) := by
    rw [e1, List.map_append]
    exact ix_lastD
  have c3 : F_pays_by [modelD m] S = .ok (.im (.tup [paysD (payR m (bG m q) g) (worR m (bG m q) g), .tup (rs.map (rndG m))])) S := by
    refine fn_wp rfl ?_
    simp [b_pays_by, c1, e2, F_Pays, mkD, allC, okC, rowD, copD, paysD]
  refine fn_wp rfl ?_
  simp [b_pays, c2, c3]
theorem ok_least (nn : m.Nn) (fn : m.Fin e β) (S : PenSt) {rs pre : List Rnd} {q : Nat → Bool} {g : Nat → Rat} (h : LR m (p0 m) rs) (hl : rs.length ≤ 8) (e1 : rs = pre ++ [(q, g)]) :
    F_least [modelD m] S = .ok (.im (.tup [leastD (payR m (bL m q) g) (worR m (bL m q) g), .tup (rs.map (rndL m))])) S := by
  have c1 := ok_least_rounds ok nn fn S h hl
  have c2 := ok_need_model ok S
  have e2 : ixD (.tup (rs.map (rndL m))) (.int (-1)) = some (.tup [natsD (bl m.n q), rowD (payR m (bL m q) g), rowD (worR m (bL m q) g)]) := by
    rw [e1, List.map_append]
    exact ix_lastD
  have c3 : F_least_by [modelD m] S = .ok (.im (.tup [leastD (payR m (bL m q) g) (worR m (bL m q) g), .tup (rs.map (rndL m))])) S := by
    refine fn_wp rfl ?_
    simp [b_least_by, c1, e2, F_Least, mkD, allC, okC, rowD, copD, leastD]
  refine fn_wp rfl ?_
  simp [b_least, c2, c3]
theorem ok_worst_failing (nn : m.Nn) (fn : m.Fin e β) (S : PenSt) {rs pre : List Rnd} {q : Nat → Bool} {g : Nat → Rat} (h : LR m (p0 m) rs) (hl : rs.length ≤ 8) (e1 : rs = pre ++ [(q, g)]) (hg : isL m.bk (bL m q) g) :
    F_worst_failing [modelD m] S = .ok (.im (natsD (bl m.n fun i => decide (g i < m.p i)))) S := by
  have c1 := ok_least_rounds ok nn fn S h hl
  obtain ⟨_, sz⟩ := ok_with_paying_by ok nn S (banks := bl m.n q) fn.z1 hg
  obtain ⟨c2, _⟩ := ok_assets_clr ok fn S hg.1 sz
  have c3 := ok_lacking_clr ok fn S hg.1 sz
  have e2 : ixD (.tup (rs.map (rndL m))) (.int (-1)) = some (.tup [natsD (bl m.n q), rowD (payR m (bL m q) g), rowD (worR m (bL m q) g)]) := by
    rw [e1, List.map_append]
    exact ix_lastD
  have c4 : F_failing_by [modelD m, rowD (payR m (bL m q) g), rowD (worR m (bL m q) g)] S = .ok (.im (natsD (bl m.n fun i => decide (g i < m.p i)))) S := by
    refine fn_wp rfl ?_
    have c2 : F_assets_by [modelD m, rowD (payR m (bL m q) g), rowD (worR m (bL m q) g)] S = .ok (.im (rowD ((List.range m.n).map g))) S := c2
    simp [b_failing_by, c2, c3]
  refine fn_wp rfl ?_
  simp [b_worst_failing, c1, e2, c4]
theorem ok_torn (nn : m.Nn) (fn : m.Fin e β) (S : PenSt) {rs pre rs' pre' : List Rnd} {q q' : Nat → Bool} {g g' : Nat → Rat} (h : LR m (p0 m) rs) (hl : rs.length ≤ 8) (e1 : rs = pre ++ [(q, g)]) (hg : isL m.bk (bL m q) g)
    (h' : GR m (fun _ => false) rs') (hl' : rs'.length ≤ 8) (e1' : rs' = pre' ++ [(q', g')]) :
    F_torn [modelD m] S = .ok (.im (natsD (bl m.n fun i => decide (g i < m.p i) && !q' i))) S := by
  have c1 := ok_worst_failing ok nn fn S h hl e1 hg
  have c2 := ok_need_model ok S
  have c3 := ok_greatest_rounds ok nn fn S h' hl'
  have e2 : ixD (.tup (rs'.map (rndG m))) (.int (-1)) = some (.tup [natsD (bl m.n q'), rowD (payR m (bG m q') g'), rowD (worR m (bG m q') g')]) := by
    rw [e1', List.map_append]
    exact ix_lastD
  have it : ∀ l : List Nat, (natsD l).items = some (l.map fun i => D.int (i : Nat)) := fun _ => rfl
  refine fn_wp rfl ?_
  simp [b_torn, c1, c2, c3, e2, it]
  refine wp_map (fun i => !decide (i ∈ bl m.n q')) (fun i => .int (i : Nat)) (fun ρ => ρ = [some (.im (modelD m)), some (.im (natsD (bl m.n q'))), none]) rfl (fun i hi ρ hρ => ?_) fun ρ' hρ => ?_
  · subst hρ
    refine ⟨_, rfl, ?_⟩
    by_cases z : i ∈ bl m.n q'
    · simp [wipeE, notin_nats, truD, z]
    · simp [wipeE, notin_nats, truD, z]
  · subst hρ
    simp [tuple_lst]
    unfold natsD
    congr 2
    unfold bl
    rw [List.filter_filter]
    refine List.filter_congr fun j hj => ?_
    have hj := List.mem_range.mp hj
    have e3 : decide (j ∈ List.filter q' (List.range m.n)) = q' j := by
      rw [Bool.eq_iff_iff, decide_eq_true_eq, List.mem_filter, List.mem_range]
      exact ⟨fun z => z.2, fun z => ⟨hj, z⟩⟩
    rw [e3, Bool.and_comm]
end
end PdL
set_option Elab.async false
set_option linter.all false
set_option maxRecDepth 100000
set_option maxHeartbeats 4000000
namespace PdL
open PySem L2 Pd Th
/-! ### the source of numbers -/
structure PenOk (c : Nat) (S : PenSt) : Prop where
  c : S.count ≤ c
  f0 : 0 ≤ S.fold
  f1 : S.fold < 2 ^ 32
  d0 : 0 ≤ S.digits
theorem PenOk.mono {c c' : Nat} {S : PenSt} (h : PenOk c S) (l : c ≤ c') : PenOk c' S := ⟨Nat.le_trans h.c l, h.f0, h.f1, h.d0⟩
theorem pen0_ok (ns : List Int) : PenOk 0 (pen0 ns) := ⟨Nat.le_refl _, (foldOf_lt ns).1, by have := (foldOf_lt ns).2; show foldOf ns < 2 ^ 32; omega, Int.le_refl _⟩
section
variable {ρ : Rho} {S : PenSt} {Q : SV → Rho → PenSt → Prop} {R : Flow' → Rho → PenSt → Prop}
@[simp] theorem wp_pgetM {i k : Nat} : wp (pgetM i k) Q ρ S = match ρ[i]? with
  | some (some (.im .pen)) => (match penGet S k with
    | some d => Q (.im d) ρ S
    | none => False)
  | _ => False := by
  unfold wp pgetM
  cases ρ[i]? with
  | none => rfl
  | some o => cases o with
    | none => rfl
    | some sv => cases sv <;> try rfl
                 rename_i d
                 cases d <;> try rfl
                 dsimp only
                 cases penGet S k <;> rfl
@[simp] theorem wp_psetM {i k : Nat} {v : D} : wp (psetM i k v) R ρ S = match ρ[i]?, v with
  | some (some (.im .pen)), .int j => (match penSet S k j with
    | some S' => R .nx ρ S'
    | none => False)
  | _, _ => False := by
  unfold wp psetM
  cases ρ[i]? with
  | none => rfl
  | some o => cases o with
    | none => rfl
    | some sv => cases sv <;> try rfl
                 rename_i d
                 cases d <;> try rfl
                 cases v <;> try rfl
                 rename_i j
                 dsimp only
                 cases penSet S k j <;> rfl
end
theorem pow1018 : binD .pow (.int 10) (.int 18) = some (.im (.int 1000000000000000000)) := by
  have : powOk 10 18 = true := by decide +kernel
  show (if powOk 10 18 then some (SV.im (.int ((10 : Int) ^ (18 : Int).toNat))) else none) = _
  rw [if_pos this]
  rfl
theorem pset1 {S : PenSt} {j : Nat} : penSet S 1 (j : Int) = some { S with at_ := j } := by
  have : penSet S 1 (j : Int) = if 0 ≤ (j : Int) then some { S with at_ := (j : Int).toNat } else none := rfl
  rw [this, if_pos (by omega), Int.toNat_natCast]
theorem pset2 {S : PenSt} {j : Int} (h : 0 ≤ j) : penSet S 2 j = some { S with digits := j } := by
  have : penSet S 2 j = if 0 ≤ j then some { S with digits := j } else none := rfl
  rw [this, if_pos h]
theorem pset3 {S : PenSt} {j : Nat} : penSet S 3 (j : Int) = some { S with count := j } := by
  have : penSet S 3 (j : Int) = if 0 ≤ (j : Int) then some { S with count := (j : Int).toNat } else none := rfl
  rw [this, if_pos (by omega), Int.toNat_natCast]
theorem fmod_lt {a : Int} {n : Nat} (hn : 0 < n) : ∃ k : Nat, a.fmod (n : Int) = (k : Int) ∧ k < n := by
  have h1 := Int.fmod_nonneg_of_pos a (show (0 : Int) < n by omega)
  have h2 := Int.fmod_lt_of_pos a (show (0 : Int) < n by omega)
  exact ⟨(a.fmod n).toNat, by omega, by omega⟩
def drawT : List IS := [.ite (.tst (.cmp .gt (.pget 0 2) (.cst (.int 0)))) [.asg (.nm 4) (.bin .mod (.call (pF fInt) [(.pget 0 2)]) (.var 1)), .pset 0 2 (.bin .fdiv (.pget 0 2) (.var 1)), .ret (.var 4)] [], .asg (.nm 2) (.bin .add (.bin .add (.pget 0 4) (.bin .mul (.pget 0 3) (.cst (.int 6317)))) (.cst (.int 191))), .ret (.bin .mod (.bin .fdiv (.call (pF fInt) [(.bin .mod (.bin .pow (.var 2) (.cst (.int 53))) (.cst (.int 2305843009213693951)))]) (.cst (.int 2048))) (.var 1))]
theorem draw_split : b__law_draw = .pset 0 3 (.bin .add (.pget 0 3) (.cst (.int 1))) :: .ite (.and (.tst (.cmp .eq (.pget 0 2) (.cst (.int 0)))) (.tst (.cmp .lt (.pget 0 1) (.call (pF fLen) [(.pget 0 0)])))) [.asg (.nm 3) (.ix (.pget 0 0) (.pget 0 1)), .pset 0 1 (.bin .add (.pget 0 1) (.cst (.int 1))), .ite (.tst (.cmp .ge (.var 3) (.bin .pow (.cst (.int 10)) (.cst (.int 18))))) [.pset 0 2 (.bin .sub (.var 3) (.bin .pow (.cst (.int 10)) (.cst (.int 18))))] [.pset 0 4 (.bin .mod (.call (pF fInt) [(.bin .add (.bin .mul (.pget 0 4) (.cst (.int 31013))) (.var 3))]) (.cst (.int 2147482909)))]] [] :: drawT := rfl
theorem ok_draw {c n : Nat} {S : PenSt} (h : PenOk c S) (hn : 0 < n) (hn2 : n < 2 ^ 60) (hc : c < 2 ^ 20) : ∃ (k : Nat) (S' : PenSt), F__law_draw [.pen, .int n] S = .ok (.im (.int k)) S' ∧ k < n ∧ PenOk (c + 1) S' := by
  have fold1 : ∀ x : Int, 0 ≤ x.fmod 2147482909 ∧ x.fmod 2147482909 < 2 ^ 32 := fun x => by
    have h1 := Int.fmod_nonneg_of_pos x (show (0 : Int) < 2147482909 by decide)
    have h2 := Int.fmod_lt_of_pos x (show (0 : Int) < 2147482909 by decide)
    exact ⟨h1, by omega⟩
  -- what stands behind the reading of a cell
  have tail : ∀ (S : PenSt) (x2 x3 x4 : Option SV), PenOk (c + 1) S → wp (evSs drawT)
      (fun f _ S' => match f with
        | .ret sv => ∃ k : Nat, sv = .im (.int k) ∧ k < n ∧ PenOk (c + 1) S'
        | _ => False) [some (.im .pen), some (.im (.int n)), x2, x3, x4] S := fun S x2 x3 x4 h => by
    have pi : ∀ i : Int, pF fInt [.int i] S = .ok (.im (.int i)) S := fun _ => rfl
    have bm : ∀ (a : Int), ∃ k : Nat, binD .mod (.int a) (.int (n : Int)) = some (.im (.int k)) ∧ k < n := fun a => by
      obtain ⟨k, h1, h2⟩ := fmod_lt (a := a) hn
      refine ⟨k, ?_, h2⟩
      have : binD .mod (.int a) (.int (n : Int)) = if decide ((n : Int) ≠ 0) then some (.im (.int (a.fmod n))) else none := rfl
      rw [this, if_pos (by simp; omega), h1]
    by_cases q : 0 < S.digits
    · have g : cmpD .gt (.int S.digits) (.int 0) = some true := by
        show some (decide (0 < S.digits)) = _
        rw [decide_eq_true q]
      obtain ⟨k, k1, k2⟩ := bm S.digits
      have dv : binD .fdiv (.int S.digits) (.int (n : Int)) = some (.im (.int (S.digits.fdiv n))) := by
        have d : divOk (n : Int) = true := by
          unfold divOk
          have : (n : Int).natAbs.log2 ≤ 60 := log_lt (by rw [Int.natAbs_natCast]; exact hn2)
          rw [Bool.and_eq_true]
          exact ⟨decide_eq_true (by omega), decide_eq_true (by omega)⟩
        have : binD .fdiv (.int S.digits) (.int (n : Int)) = if divOk (n : Int) then some (.im (.int (S.digits.fdiv n))) else none := rfl
        rw [this, if_pos d]
      have dn : 0 ≤ S.digits.fdiv n := Int.fdiv_nonneg h.d0 (by omega)
      simp [drawT, penGet, g, truD, pi, k1, dv, pset2 dn]
      exact ⟨k, rfl, k2, h.c, h.f0, h.f1, dn⟩
    · have g : cmpD .gt (.int S.digits) (.int 0) = some false := by
        show some (decide (0 < S.digits)) = _
        rw [decide_eq_false q]
      have m1 : binD .mul (.int (S.count : Int)) (.int 6317) = some (.im (.int ((S.count : Int) * 6317))) := by
        have : mulOk (S.count : Int) 6317 = true := mulOk_of (a := 40) (b := 13) (by
          rw [Int.natAbs_natCast]
          have := h.c
          have : (2 : Nat) ^ 40 = 1099511627776 := by decide
          omega) (by decide) (by decide)
        show (if mulOk (S.count : Int) 6317 then some (SV.im (.int ((S.count : Int) * 6317))) else none) = _
        rw [if_pos this]
      obtain ⟨B, hB⟩ : ∃ B, B = S.fold + (S.count : Int) * 6317 + 191 := ⟨_, rfl⟩
      have pw : binD .pow (.int B) (.int 53) = some (.im (.int (B ^ 53))) := by
        have : powOk B 53 = true := by
          unfold powOk
          have h1 := h.c
          have h2 := h.f0
          have h3 := h.f1
          have : (2 : Nat) ^ 64 = 18446744073709551616 := by decide
          simp
          omega
        show (if powOk B 53 then some (SV.im (.int (B ^ (53 : Int).toNat))) else none) = _
        rw [if_pos this]
        rfl
      have a1 : ∀ i j : Int, binD .add (.int i) (.int j) = some (.im (.int (i + j))) := fun _ _ => rfl
      have md : ∀ i : Int, binD .mod (.int i) (.int 2305843009213693951) = some (.im (.int (i.fmod 2305843009213693951))) := fun _ => rfl
      have dv : ∀ i : Int, binD .fdiv (.int i) (.int 2048) = some (.im (.int (i.fdiv 2048))) := fun i => by
        have d : divOk 2048 = true := by decide +kernel
        show (if divOk 2048 then some (SV.im (.int (i.fdiv 2048))) else none) = _
        rw [if_pos d]
      obtain ⟨k, k1, k2⟩ := bm (((B ^ 53).fmod 2305843009213693951).fdiv 2048)
      simp [drawT, penGet, g, truD, m1, a1, ← hB, pw, md, pi, dv, k1]
      exact ⟨k, rfl, k2, h⟩
  have main : wp (evSs b__law_draw) (fun f _ S' => match f with
        | .ret sv => ∃ k : Nat, sv = .im (.int k) ∧ k < n ∧ PenOk (c + 1) S'
        | _ => False) [some (.im .pen), some (.im (.int n)), none, none, none] S := by
    have a1 : ∀ i j : Int, binD .add (.int i) (.int j) = some (.im (.int (i + j))) := fun _ _ => rfl
    obtain ⟨S1, hS1⟩ : ∃ S1, S1 = { S with count := S.count + 1 } := ⟨_, rfl⟩
    have p1 : penSet S 3 ((S.count : Int) + 1) = some S1 := by
      rw [hS1]
      exact pset3 (j := S.count + 1)
    have h1 : PenOk (c + 1) S1 := by
      rw [hS1]
      exact ⟨by show S.count + 1 ≤ c + 1; have := h.c; omega, h.f0, h.f1, h.d0⟩
    have pi : ∀ (i : Int) (S : PenSt), pF fInt [.int i] S = .ok (.im (.int i)) S := fun _ _ => rfl
    have gl : ∀ S : PenSt, penGet S 0 = some (.lst (S.cells.map .int)) := fun _ => rfl
    have g1 : ∀ S : PenSt, penGet S 1 = some (.int S.at_) := fun _ => rfl
    have g2 : ∀ S : PenSt, penGet S 2 = some (.int S.digits) := fun _ => rfl
    have g3 : ∀ S : PenSt, penGet S 3 = some (.int S.count) := fun _ => rfl
    have g4 : ∀ S : PenSt, penGet S 4 = some (.int S.fold) := fun _ => rfl
    rw [draw_split]
    simp [g3, a1, p1, g2, truD]
    by_cases q : S1.digits = 0
    · have lt : cmpD .lt (.int (S1.at_ : Int)) (.int (S1.cells.length : Int)) = some (decide (S1.at_ < S1.cells.length)) := by
        show some (decide ((S1.at_ : Int) < (S1.cells.length : Int))) = _
        congr 1
        rw [decide_eq_decide]
        omega
      by_cases q2 : S1.at_ < S1.cells.length
      · obtain ⟨cell, hc1⟩ : ∃ cell, S1.cells[S1.at_]? = some cell := ⟨_, List.getElem?_eq_getElem q2⟩
        have ix : ixD (.lst (S1.cells.map .int)) (.int (S1.at_ : Int)) = some (.int cell) := ix_lst hc1
        obtain ⟨S2, hS2⟩ : ∃ S2, S2 = { S1 with at_ := S1.at_ + 1 } := ⟨_, rfl⟩
        have p2 : penSet S1 1 ((S1.at_ : Int) + 1) = some S2 := by
          rw [hS2]
          exact pset1 (j := S1.at_ + 1)
        have h2 : PenOk (c + 1) S2 := by rw [hS2]; exact ⟨h1.c, h1.f0, h1.f1, h1.d0⟩
        by_cases q3 : 1000000000000000000 ≤ cell
        · have ge : cmpD .ge (.int cell) (.int 1000000000000000000) = some true := by
            show some (decide ((1000000000000000000 : Int) ≤ cell)) = _
            rw [decide_eq_true q3]
          have sb : binD .sub (.int cell) (.int 1000000000000000000) = some (.im (.int (cell - 1000000000000000000))) := rfl
          obtain ⟨S3, hS3⟩ : ∃ S3, S3 = { S2 with digits := cell - 1000000000000000000 } := ⟨_, rfl⟩
          have p3 : penSet S2 2 (cell - 1000000000000000000) = some S3 := by
            rw [hS3]
            exact pset2 (by omega)
          have h3 : PenOk (c + 1) S3 := by rw [hS3]; exact ⟨h2.c, h2.f0, h2.f1, by show 0 ≤ cell - _; omega⟩
          have := tail S3 none (some (.im (.int cell))) none h3
          simp [q, gl, g1, len_lst, lt, q2, ix, a1, p2, pow1018, ge, sb, p3]
          exact this
        · have ge : cmpD .ge (.int cell) (.int 1000000000000000000) = some false := by
            show some (decide ((1000000000000000000 : Int) ≤ cell)) = _
            rw [decide_eq_false q3]
          have m1 : binD .mul (.int S2.fold) (.int 31013) = some (.im (.int (S2.fold * 31013))) := by
            have : mulOk S2.fold 31013 = true := mulOk_of (a := 40) (b := 15) (by
              have := h2.f0
              have := h2.f1
              have : (2 : Nat) ^ 40 = 1099511627776 := by decide
              omega) (by decide) (by decide)
            show (if mulOk S2.fold 31013 then some (SV.im (.int (S2.fold * 31013))) else none) = _
            rw [if_pos this]
          have md : ∀ i : Int, binD .mod (.int i) (.int 2147482909) = some (.im (.int (i.fmod 2147482909))) := fun _ => rfl
          obtain ⟨S3, hS3⟩ : ∃ S3, S3 = { S2 with fold := (S2.fold * 31013 + cell).fmod 2147482909 } := ⟨_, rfl⟩
          have p3 : penSet S2 4 ((S2.fold * 31013 + cell).fmod 2147482909) = some S3 := by rw [hS3]; rfl
          have h3 : PenOk (c + 1) S3 := by rw [hS3]; exact ⟨h2.c, (fold1 _).1, (fold1 _).2, h2.d0⟩
          have := tail S3 none (some (.im (.int cell))) none h3
          simp [q, gl, g1, len_lst, lt, q2, ix, a1, p2, pow1018, ge, g4, m1, md, pi, p3]
          exact this
      · have := tail S1 none none none h1
        simp [q, gl, g1, len_lst, lt, q2]
        exact this
    · have := tail S1 none none none h1
      simp [q]
      exact this
  have e : FQ F__law_draw [.pen, .int n] S fun sv S' => ∃ k : Nat, sv = .im (.int k) ∧ k < n ∧ PenOk (c + 1) S' := by
    refine fn_FQ rfl ?_
    refine wp_mono main fun f ρ' S' h => ?_
    cases f <;> first | exact h | exact h.elim
  obtain ⟨sv, S', h1, k, h2, h3, h4⟩ := e.get
  exact ⟨k, S', by rw [h1, h2], h3, h4⟩
theorem ok_pick {c : Nat} {S : PenSt} (h : PenOk c S) {xs : List D} (hx : 0 < xs.length) (hx2 : xs.length < 1000) (hc : c < 2 ^ 20) : ∃ (d : D) (S' : PenSt), F__law_pick [.pen, .lst xs] S = .ok (.im d) S' ∧ d ∈ xs ∧ PenOk (c + 1) S' := by
  obtain ⟨k, S', h1, h2, h3⟩ := ok_draw h hx (by have : (2 : Nat) ^ 60 = 1152921504606846976 := by decide
                                                 omega) hc
  refine ⟨xs[k], S', ?_, List.getElem_mem h2, h3⟩
  have ix : ixD (.lst xs) (.int (k : Int)) = some xs[k] := atI_nat h2
  refine fn_wp rfl ?_
  simp [b__law_pick, len_lst, h1, ix]
end PdL
set_option Elab.async false
set_option linter.all false
set_option maxRecDepth 100000
set_option maxHeartbeats 4000000
namespace PdL
open PySem L2 Pd Th
/-! ### rings of banks: the book and its model -/
structure Rg where
  n : Nat
  like : Rat
  cash : List Rat
  world : Rat
  keep : Rat
def nmD (i : Nat) : D := .str (Str.ofString "b" ++ Str.ofString (toString (i : Int)))
theorem name_ok : ∀ i : Nat, i < 4 → binD .add (.str "b") (.str (Str.ofString (toString (i : Int)))) = some (.im (nmD i)) ∧ ((i : Int).natAbs.log2 < 1920)
  | 0, _ => ⟨if_pos (e := none) (show (Str.ofString "b").length + (Str.ofString (toString ((0 : Nat) : Int))).length ≤ 100000 by decide +kernel), by decide +kernel⟩
  | 1, _ => ⟨if_pos (e := none) (show (Str.ofString "b").length + (Str.ofString (toString ((1 : Nat) : Int))).length ≤ 100000 by decide +kernel), by decide +kernel⟩
  | 2, _ => ⟨if_pos (e := none) (show (Str.ofString "b").length + (Str.ofString (toString ((2 : Nat) : Int))).length ≤ 100000 by decide +kernel), by decide +kernel⟩
  | 3, _ => ⟨if_pos (e := none) (show (Str.ofString "b").length + (Str.ofString (toString ((3 : Nat) : Int))).length ≤ 100000 by decide +kernel), by decide +kernel⟩
def rgRow (r : Rg) (i : Nat) : List Rat := (List.range (r.n + 1)).map fun j => if j = (i + 1) % r.n then r.like else if j = r.n then r.world else 0
def rgM (r : Rg) : Mo := ⟨r.n, (List.range r.n).map nmD, r.cash, (List.range r.n).map (rgRow r), List.replicate r.n (List.replicate r.n 0), List.replicate r.n r.keep, .tup []⟩
def rgK (r : Rg) : List (Nat × D) := [(5, .tup ((List.range r.n).map nmD)), (6, rowD r.cash), (7, .lst ((List.range r.n).map fun i => rowD (rgRow r i))), (8, .lst (List.replicate r.n (rowD (List.replicate r.n 0)))), (9, rowD (List.replicate r.n r.keep)), (10, .lst [])]
def rgD (r : Rg) : D := .dct (rgK r)
theorem ok_built (r : Rg) (S : PenSt) : F__law_built [rgD r] S = .ok (.im (modelD (rgM r))) S := by
  have k5 : keyD (rgD r) 5 = some (.tup ((List.range r.n).map nmD)) := rfl
  have k6 : keyD (rgD r) 6 = some (rowD r.cash) := rfl
  have k7 : keyD (rgD r) 7 = some (.lst ((List.range r.n).map fun i => rowD (rgRow r i))) := rfl
  have k8 : keyD (rgD r) 8 = some (.lst (List.replicate r.n (rowD (List.replicate r.n 0)))) := rfl
  have k9 : keyD (rgD r) 9 = some (rowD (List.replicate r.n r.keep)) := rfl
  have k10 : keyD (rgD r) 10 = some (.lst []) := rfl
  refine fn_wp rfl ?_
  simp [b__law_built, k5, k6, k7, k8, k9, k10, tuple_tup, tuple_lst, tuple_row, F_Model, mkD, allC, okC, copD, modelD, rgM, rowD]
theorem mod_ok {i n : Nat} (h : 0 < n) : binD .mod (.int ((i : Int) + 1)) (.int (n : Int)) = some (.im (.int (((i + 1) % n : Nat) : Int))) := by
  have e : ((i : Int) + 1).fmod (n : Int) = (((i + 1) % n : Nat) : Int) := by
    rw [Int.fmod_eq_emod_of_nonneg _ (by omega)]
    rfl
  have hn : ((n : Int) ≠ 0) := by omega
  show (if decide ((n : Int) ≠ 0) then some (SV.im (.int (((i : Int) + 1).fmod (n : Int)))) else none) = _
  rw [if_pos (by simp [hn]; omega), e]
theorem ok_ring_book (r : Rg) (S : PenSt) (n1 : 1 ≤ r.n) (n4 : r.n ≤ 4) : F__law_ring_book [.int (r.n : Int), qD r.like, rowD r.cash, qD r.world, qD r.keep] S = .ok (.od (rgK r)) S := by
  obtain ⟨n, hn⟩ : ∃ n, n = r.n := ⟨_, rfl⟩
  rw [← hn] at n1 n4 ⊢
  have a1 : ∀ i j : Int, binD .add (.int i) (.int j) = some (.im (.int (i + j))) := fun _ _ => rfl
  have hr : (n : Int) ≤ 100000 ∧ -100000 ≤ (n : Int) := by omega
  obtain ⟨N1, hN1⟩ : ∃ N1, N1 = n + 1 := ⟨_, rfl⟩
  have an1 : binD .add (.int (n : Int)) (.int 1) = some (.im (.int (N1 : Int))) := by rw [hN1]; rfl
  have hr2 : (N1 : Int) ≤ 100000 ∧ -100000 ≤ (N1 : Int) := by omega
  refine fn_wp rfl ?_
  simp [b__law_ring_book, hr, rng_map]
  refine wp_map (fun _ => true) (fun i => rowD (rgRow r i)) (fun ρ => ρ = [some (.im (.int n)), some (.im (qD r.like)), some (.im (rowD r.cash)), some (.im (qD r.world)), some (.im (qD r.keep)), none, none, none, none]) rfl (fun i hi ρ hρ => ?_) fun ρ' hρ => ?_
  · subst hρ
    have hi := List.mem_range.mp hi
    refine ⟨_, rfl, ?_⟩
    simp [wipeE, an1, hr2, rng_map]
    refine wp_map (fun _ => true) (fun j => qD (if j = (i + 1) % n then r.like else if j = n then r.world else 0)) (fun ρ => ρ = [some (.im (.int n)), some (.im (qD r.like)), some (.im (rowD r.cash)), some (.im (qD r.world)), some (.im (qD r.keep)), none, some (.im (.int i)), none, none]) rfl (fun j hj ρ hρ => ?_) fun ρ' hρ => ?_
    · subst hρ
      refine ⟨_, rfl, ?_⟩
      have md := mod_ok (i := i) (n := n) (by omega)
      obtain ⟨u, hu⟩ : ∃ u, u = (i + 1) % n := ⟨_, rfl⟩
      rw [← hu] at md ⊢
      have s1 : binD .add (.int (i : Int)) (.int 1) = some (.im (.int ((i : Int) + 1))) := rfl
      obtain ⟨v, hv⟩ : ∃ v : Int, v = (i : Int) + 1 := ⟨_, rfl⟩
      rw [← hv] at md s1
      by_cases z : j = u
      · subst z
        simp [wipeE, s1, md, truD]
      · have z' : ¬ ((j : Nat) : Int) = (u : Int) := by omega
        by_cases y : j = n
        · subst y
          simp [wipeE, s1, md, truD, z, z']
        · have y' : ¬ ((j : Nat) : Int) = (n : Int) := by omega
          simp [wipeE, s1, md, truD, z, z', y, y', qD_0]
    · subst hρ
      rw [filter_t]
      have el : D.tup ((List.range N1).map fun j => qD (if j = (i + 1) % n then r.like else if j = n then r.world else 0)) = rowD (rgRow r i) := by
        unfold rowD rgRow
        rw [List.map_map, hN1, hn]
        rfl
      simp [tuple_lst, el]
  subst hρ
  rw [filter_t]
  simp [hr, rng_map]
  refine wp_map (fun _ => true) (fun i => nmD i) (fun ρ => ρ = [some (.im (.int n)), some (.im (qD r.like)), some (.im (rowD r.cash)), some (.im (qD r.world)), some (.im (qD r.keep)), some (.ow ((List.range n).map fun i => rowD (rgRow r i))), none, none, none]) rfl (fun i hi ρ hρ => ?_) fun ρ' hρ => ?_
  · subst hρ
    have hi := List.mem_range.mp hi
    obtain ⟨e1, e2⟩ := name_ok i (by omega)
    have e3 : pF fStr [.int (i : Int)] S = .ok (.im (.str (Str.ofString (toString (i : Int))))) S := by
      show (match fStr [.int (i : Int)] with
        | some sv => FR.ok sv S
        | none => FR.bad) = _
      have : fStr [.int (i : Int)] = if (i : Int).natAbs.log2 < 1920 then some (.im (.str (Str.ofString (toString (i : Int))))) else none := rfl
      rw [this, if_pos e2]
    obtain ⟨X, hX⟩ : ∃ X, X = Str.ofString (toString (i : Int)) := ⟨_, rfl⟩
    rw [← hX] at e1 e3
    exact ⟨_, rfl, by simp [wipeE, e1, e3]⟩
  subst hρ
  rw [filter_t]
  have mu1 : binD .mul (.tup [D.tup [.int 0, .int 1]]) (.int (n : Int)) = some (.im (rowD (List.replicate n 0))) := by
    rw [qD_0, mul_tup1 (by omega) n1]
    unfold rowD
    rw [List.map_replicate]
  have mu3 : binD .mul (.tup [qD r.keep]) (.int (n : Int)) = some (.im (rowD (List.replicate n r.keep))) := by
    rw [mul_tup1 (by omega) n1]
    unfold rowD
    rw [List.map_replicate]
  have mu2 : binD .mul (.lst [rowD (List.replicate n 0)]) (.int (n : Int)) = some (.ow (List.replicate n (rowD (List.replicate n 0)))) := mul_lst1 (by omega)
  simp [tuple_lst, mu1, mu2, mu3]
  unfold rgK
  rw [← hn]
end PdL
set_option Elab.async false
set_option linter.all false
set_option maxRecDepth 100000
set_option maxHeartbeats 4000000
namespace PdL
open PySem L2 Pd Th
/-! ### rings of banks: their model in the theory -/
def Gd (x : Rat) : Prop := Fr 12 6 x ∧ 0 ≤ x ∧ Sz 3 x
structure Rg.Ok (r : Rg) : Prop where
  n2 : 2 ≤ r.n
  n4 : r.n ≤ 4
  cl : r.cash.length = r.n
  lg : Gd r.like
  l0 : 0 < r.like
  cg : ∀ x ∈ r.cash, Gd x
  wg : Gd r.world
  kg : Gd r.keep
  k1 : r.keep ≤ 1
theorem fr12 {x : Rat} {i : Int} (h : x * 12 = (i : Rat)) (hi : i.natAbs < 64) : Fr 12 6 x := ⟨i, by
  have e : ((12 : Nat) : Rat) = 12 := rfl
  rw [e]
  grind, hi⟩
theorem gd_0 : Gd 0 := ⟨fr12 (i := 0) (by grind) (by decide), Rat.le_refl, sz_zero.mono (by decide)⟩
theorem gd_nat {i : Nat} (h : i ≤ 5) : Gd (i : Rat) := by
  have d0 : (0 : Rat) ≤ (i : Rat) := by
    have z : ((0 : Int) : Rat) ≤ ((i : Int) : Rat) := Rat.intCast_le_intCast.mpr (by omega)
    exact z
  refine ⟨fr12 (i := 12 * i) ?_ (by omega), d0, ?_⟩
  · rw [Rat.intCast_mul]
    have e : ((i : Int) : Rat) = (i : Rat) := rfl
    have e2 : ((12 : Int) : Rat) = 12 := rfl
    rw [e, e2]
    grind
  · show (i : Int).natAbs < 2 ^ 3 ∧ 1 < 2 ^ 3
    omega
theorem gd_div {a b : Nat} {x : Rat} {i : Int} (h : x = Rat.divInt a b) (h2 : x * 12 = (i : Rat)) (hi : i.natAbs < 64) (h0 : 0 ≤ x) (ha : a < 8) (hb : 0 < b) (hb8 : b < 8) : Gd x := ⟨fr12 h2 hi, h0, by rw [h]; exact sz_divInt (by omega) (by omega) (by omega)⟩
theorem gd_half : Gd (1 / 2) := gd_div (a := 1) (b := 2) (i := 6) ((Rat.divInt_eq_div _ _).symm) (by grind) (by decide) (by grind) (by decide) (by decide) (by decide)
theorem gd_34 : Gd (3 / 4) := gd_div (a := 3) (b := 4) (i := 9) ((Rat.divInt_eq_div _ _).symm) (by grind) (by decide) (by grind) (by decide) (by decide) (by decide)
theorem gd_13 : Gd (1 / 3) := gd_div (a := 1) (b := 3) (i := 4) ((Rat.divInt_eq_div _ _).symm) (by grind) (by decide) (by grind) (by decide) (by decide) (by decide)
theorem ent_rep {n i : Nat} {x : Rat} (h : i < n) : ent (List.replicate n x) i = x := by
  unfold ent
  rw [List.getD_eq_getElem?_getD, List.getElem?_replicate, if_pos h]
  rfl
section
variable {r : Rg} (ok : r.Ok)
include ok
theorem rgM_ok : (rgM r).Ok 12 4 6 := by
  have n4 := ok.n4
  refine ⟨by show r.n ≤ 7; omega, by simp [rgM], ok.cl, by simp [rgM], fun x hx => ?_, by simp [rgM], fun x hx => ?_, by simp [rgM], by decide, by decide, fun x hx => (ok.cg x hx).1, fun x hx y hy => ?_, fun x hx y hy => ?_, fun x hx => ?_, fun x hx y hy => ?_, by decide⟩
  · obtain ⟨i, _, rfl⟩ := List.mem_map.mp hx
    simp [rgRow, rgM]
  · rw [(List.mem_replicate.mp hx).2]
    simp [rgM]
  · obtain ⟨i, hi, rfl⟩ := List.mem_map.mp hx
    obtain ⟨j, _, rfl⟩ := List.mem_map.mp hy
    split
    · exact ok.lg.1
    · split
      · exact ok.wg.1
      · exact gd_0.1
  · rw [(List.mem_replicate.mp hx).2] at hy
    rw [(List.mem_replicate.mp hy).2]
    exact gd_0.1
  · rw [(List.mem_replicate.mp hx).2]
    exact ok.kg.1
  · obtain ⟨i, hi, rfl⟩ := List.mem_map.mp hx
    obtain ⟨j, _, rfl⟩ := List.mem_map.mp hy
    split
    · exact ok.lg.2.1
    · split
      · exact ok.wg.2.1
      · exact Rat.le_refl
theorem rg_row {j : Nat} (h : j < r.n) : row (rgM r).debts j = rgRow r j := by
  have : (rgM r).debts[j]? = some (rgRow r j) := by
    show ((List.range r.n).map (rgRow r))[j]? = _
    rw [List.getElem?_map, List.getElem?_range h]
    rfl
  unfold row
  rw [List.getD_eq_getElem?_getD, this]
  rfl
theorem rg_L {j i : Nat} (h : j < r.n) (hi : i < r.n + 1) : (rgM r).L j i = if i = (j + 1) % r.n then r.like else if i = r.n then r.world else 0 := by
  unfold Mo.L
  rw [rg_row ok h]
  exact ent_range hi
def Rg.p (r : Rg) : Rat := r.like + r.world
theorem rg_p {j : Nat} (h : j < r.n) : (rgM r).p j = r.p := by
  have n2 := ok.n2
  unfold Mo.p
  show sumR (r.n + 1) _ = _
  rw [sumR]
  have e1 : (rgM r).L j r.n = r.world := by
    rw [rg_L ok h (by omega), if_neg (by have := Nat.mod_lt (j + 1) (show 0 < r.n by omega); omega), if_pos rfl]
  have e2 : sumR r.n ((rgM r).L j) = r.like := by
    rw [sumR_single (p := (j + 1) % r.n) (Nat.mod_lt _ (by omega)) (fun i hi ne => by rw [rg_L ok h (by omega), if_neg ne, if_neg (by omega)]), rg_L ok h (by have := Nat.mod_lt (j + 1) (show 0 < r.n by omega); omega), if_pos rfl]
  rw [e1, e2]
  rfl
theorem rg_p0 : 0 < r.p := by
  have := ok.l0
  have := ok.wg.2.1
  unfold Rg.p
  grind
def Rg.s (r : Rg) : Rat := r.like / r.p
theorem rg_P {j i : Nat} (h : j < r.n) (hi : i < r.n) : (rgM r).P j i = if i = (j + 1) % r.n then r.s else 0 := by
  have p0 := rg_p0 ok
  unfold Mo.P
  rw [rg_p ok h, if_neg (by grind), rg_L ok h (by omega)]
  split
  · rfl
  · rw [if_neg (by omega), Rat.div_def, Rat.zero_mul]
theorem rg_H {j i : Nat} (h : j < r.n) (hi : i < r.n) : (rgM r).H j i = 0 := by
  unfold Mo.H row
  show ent ((List.replicate r.n (List.replicate r.n 0)).getD j []) i = 0
  rw [List.getD_eq_getElem?_getD, List.getElem?_replicate, if_pos h]
  exact ent_rep hi
theorem rg_k {j : Nat} (h : j < r.n) : (rgM r).k j = r.keep := ent_rep h
theorem rg_c {j : Nat} (h : j < r.n) : Gd (ent r.cash j) := ok.cg _ (ent_mem (by rw [ok.cl]; exact h))
theorem rgM_nn : (rgM r).Nn := by
  refine ⟨fun i hi => (rg_c ok hi).2.1, fun j hj i hi => by rw [rg_H ok hj hi]; exact Rat.le_refl, fun j hj => ?_, fun i hi => by rw [rg_k ok hi]; exact ok.kg.2.1, fun i hi => by rw [rg_k ok hi]; exact ok.k1⟩
  have z : sumR (rgM r).n ((rgM r).H j) = 0 := sumR_zero (fun i hi => rg_H ok hj hi)
  rw [z]
  decide
theorem rgM_fin : (rgM r).Fin 4 6 := by
  have n2 := ok.n2
  have n4 := ok.n4
  have : r.n = 2 ∨ r.n = 3 ∨ r.n = 4 := by omega
  refine ⟨?_, ?_⟩
  · show 6 * (bb 27 r.n + 9) < 8000
    rcases this with e | e | e <;> rw [e] <;> decide
  · show 2 * r.n * (bb 27 r.n + 9 + 52 + 4 + 6 + 4) + 2 * 4 + 2 * 6 + 20 < 9000
    rcases this with e | e | e <;> rw [e] <;> decide
/-- the bank ahead -/
def prv (n i : Nat) : Nat := if i = 0 then n - 1 else i - 1
omit ok in
theorem prv_lt {n i : Nat} (hi : i < n) : prv n i < n := by
  unfold prv
  split <;> omega
omit ok in
theorem prv_iff {n i j : Nat} (hi : i < n) (hj : j < n) : i = (j + 1) % n ↔ j = prv n i := by
  unfold prv
  by_cases z : j + 1 = n
  · rw [z, Nat.mod_self]
    split <;> omega
  · rw [Nat.mod_eq_of_lt (by omega)]
    split <;> omega
theorem rg_F {b : Nat → Bool} {a : Nat → Rat} {i : Nat} (hi : i < r.n) : F (rgM r).bk b a i = ent r.cash i + r.s * pay (b (prv r.n i)) r.keep r.p (a (prv r.n i)) := by
  unfold F
  show ent r.cash i + _ = _
  congr 1
  have e : ∀ j, j < r.n → pay (b j) ((rgM r).k j) ((rgM r).p j) (a j) * (rgM r).P j i + wor (b j) ((rgM r).p j) (a j) * (rgM r).H j i = if j = prv r.n i then r.s * pay (b j) r.keep r.p (a j) else 0 := fun j hj => by
    rw [rg_p ok hj, rg_P ok hj hi, rg_H ok hj hi, rg_k ok hj]
    by_cases z : j = prv r.n i
    · rw [if_pos ((prv_iff hi hj).mpr z), if_pos z]
      grind
    · rw [if_neg (fun y => z ((prv_iff hi hj).mp y)), if_neg z]
      grind
  have e2 : sumR (rgM r).bk.n (fun j => pay (b j) ((rgM r).bk.k j) ((rgM r).bk.p j) (a j) * (rgM r).bk.P j i + wor (b j) ((rgM r).bk.p j) (a j) * (rgM r).bk.H j i) = sumR r.n (fun j => if j = prv r.n i then r.s * pay (b j) r.keep r.p (a j) else 0) := sumR_congr e
  rw [e2, sumR_single (p := prv r.n i) (prv_lt hi) (fun j _ ne => if_neg ne), if_pos rfl]
end
end PdL
set_option Elab.async false
set_option linter.all false
set_option maxRecDepth 100000
set_option maxHeartbeats 4000000
namespace PdL
open PySem L2 Pd Th
/-! ### rings of banks: their clearings by hand -/
theorem sum_prv {n : Nat} (h2 : 2 ≤ n) (h4 : n ≤ 4) (f : Nat → Rat) : sumR n (fun i => f (prv n i)) = sumR n f := by
  have : n = 2 ∨ n = 3 ∨ n = 4 := by omega
  rcases this with rfl | rfl | rfl <;> simp [sumR, prv] <;> grind
theorem sum_all0 {n : Nat} {f : Nat → Rat} (h0 : ∀ i, i < n → 0 ≤ f i) (h : sumR n f ≤ 0) : ∀ i, i < n → f i = 0 := fun i hi => by
  have e : sumR n (fun _ => (0 : Rat)) = 0 := sumR_zero fun _ _ => rfl
  exact sum_same (f := fun _ => 0) h0 (by rw [e]; exact h) i hi
/-- what a bank with so much pays -/
def phi (k p a : Rat) : Rat := if a < p then k * a else p
theorem pay_lack {k p a : Rat} : pay (decide (a < p)) k p a = phi k p a := by
  unfold pay phi
  by_cases z : a < p
  · simp [z]
    grind
  · simp [z]
/-- less than all of it comes back: then none is lost -/
theorem cyc0 {n : Nat} (h2 : 2 ≤ n) (h4 : n ≤ 4) {q : Rat} (q1 : q < 1) {d : Nat → Rat} (d0 : ∀ i, i < n → 0 ≤ d i) (h : ∀ i, i < n → d i ≤ q * d (prv n i)) : ∀ i, i < n → d i = 0 := by
  refine sum_all0 d0 ?_
  have e1 : sumR n d ≤ sumR n (fun i => q * d (prv n i)) := sumR_le h
  have e2 : sumR n (fun i => q * d (prv n i)) = q * sumR n d := by
    rw [sum_prv h2 h4 (fun i => q * d i), sumR_mul]
  have s0 : 0 ≤ sumR n d := sumR_nonneg d0
  rw [e2] at e1
  refine Rat.not_lt.mp fun z => ?_
  have : q * sumR n d < 1 * sumR n d := Rat.mul_lt_mul_of_pos_right q1 z
  grind
section
variable {r : Rg} (ok : r.Ok)
include ok
theorem rg_s : 0 < r.s ∧ r.s ≤ 1 ∧ r.s * r.p = r.like := by
  have p0 := rg_p0 ok
  have l0 := ok.l0
  have w0 := ok.wg.2.1
  have e : r.s * r.p = r.like := by
    unfold Rg.s
    grind
  refine ⟨?_, ?_, e⟩
  · refine Rat.not_le.mp fun z => ?_
    have : r.s * r.p ≤ 0 * r.p := Rat.mul_le_mul_of_nonneg_right z (by grind)
    grind
  · refine Rat.not_lt.mp fun z => ?_
    have : 1 * r.p < r.s * r.p := Rat.mul_lt_mul_of_pos_right z p0
    unfold Rg.p at *
    grind
theorem rg_clr {a : Nat → Rat} : Clr (rgM r).bk a ↔ ∀ i, i < r.n → ent r.cash i + r.s * phi r.keep r.p (a (prv r.n i)) = a i := by
  have key : ∀ i, i < r.n → F (rgM r).bk (lack (rgM r).bk a) a i = ent r.cash i + r.s * phi r.keep r.p (a (prv r.n i)) := fun i hi => by
    rw [rg_F ok hi]
    have ep : (rgM r).bk.p (prv r.n i) = r.p := rg_p ok (prv_lt hi)
    unfold lack
    rw [ep, pay_lack]
  exact ⟨fun h i hi => by rw [← key i hi]; exact h i hi, fun h i hi => by
    have hi : i < r.n := hi
    rw [key i hi]
    exact h i hi⟩
end
end PdL
set_option Elab.async false
set_option linter.all false
set_option maxRecDepth 100000
set_option maxHeartbeats 4000000
namespace PdL
open PySem L2 Pd Th
/-! ### what the greatest and the least clearing are told as -/
def wo (p a : Rat) : Rat := if a < p then 0 else a - p
theorem wor_lack {p a : Rat} : wor (decide (a < p)) p a = wo p a := by
  unfold wor wo
  by_cases z : a < p
  · simp [z]
  · simp [z]
    intro h
    grind
def phR (m : Mo) (a : Nat → Rat) : List Rat := (List.range m.n).map fun j => phi (m.k j) (m.p j) (a j)
def woR (m : Mo) (a : Nat → Rat) : List Rat := (List.range m.n).map fun j => wo (m.p j) (a j)
structure Told (m : Mo) (g l : Nat → Rat) : Prop where
  gc : Clr m.bk g
  g0 : ∀ i, i < m.n → 0 ≤ g i
  gg : ∀ y, Clr m.bk y → ∀ i, i < m.n → y i ≤ g i
  lc : Clr m.bk l
  l0 : ∀ i, i < m.n → 0 ≤ l i
  ll : ∀ y, Clr m.bk y → (∀ i, i < m.n → 0 ≤ y i) → ∀ i, i < m.n → l i ≤ y i
  pays : ∃ X, ∀ S, F_pays [modelD m] S = .ok (.im (.tup [paysD (phR m g) (woR m g), X])) S
  least : ∃ X, ∀ S, F_least [modelD m] S = .ok (.im (.tup [leastD (phR m l) (woR m l), X])) S
  safe : ∀ S, F_safe [modelD m] S = .ok (.im (natsD (bl m.n fun i => decide (m.p i ≤ l i)))) S
  torn : ∀ S, F_torn [modelD m] S = .ok (.im (natsD (bl m.n fun i => decide (l i < m.p i) && decide (m.p i ≤ g i)))) S
theorem pay_of {m : Mo} {b : Nat → Bool} {a : Nat → Rat} (h : ∀ j, j < m.n → (b j = true ↔ a j < m.p j)) : payR m b a = phR m a ∧ worR m b a = woR m a := by
  have e : ∀ j, j < m.n → b j = decide (a j < m.p j) := fun j hj => by
    rw [Bool.eq_iff_iff, decide_eq_true_eq]
    exact h j hj
  constructor
  · refine List.map_congr_left fun j hj => ?_
    rw [e j (List.mem_range.mp hj), pay_lack]
  · refine List.map_congr_left fun j hj => ?_
    rw [e j (List.mem_range.mp hj), wor_lack]
theorem told_of {m : Mo} {E e β : Nat} (ok : m.Ok E e β) (nn : m.Nn) (fn : m.Fin e β) : ∃ g l, Told m g l := by
  have n7 := ok.n7
  have bo := bk_ok ok nn
  obtain ⟨rs, hrs, hl⟩ := gr_exists bo m.n (fun _ => false) (cnt_n (n := m.n))
  obtain ⟨q, g, cg, ig, tg⟩ := gr_clr bo hrs
  obtain ⟨pre, e1⟩ := cg.last
  obtain ⟨ls, hls, hll⟩ := lr_exists bo m.n (p0 m) (cnt_n (n := m.n))
  obtain ⟨q', g', ⟨pre', e1'⟩, cl', g0', qs', ig', tl'⟩ := lr_clr bo hls
  have c1 := fun S => ok_pays ok nn fn S hrs (by omega) e1
  have c2 := fun S => ok_least ok nn fn S hls (by omega) e1'
  have c3 := fun S => ok_torn ok nn fn S hls (by omega) e1' ig' hrs (by omega) e1
  have c4 := fun S => ok_worst_failing ok nn fn S hls (by omega) e1' ig'
  obtain ⟨x1, x2⟩ := pay_of (b := bG m q) (a := g) fun j hj => by rw [bG_at hj]; exact cg.qs j hj
  obtain ⟨y1, y2⟩ := pay_of (b := bL m q') (a := g') fun j hj => by
    rw [bL_at hj, Bool.not_eq_true', ← Bool.not_eq_true, qs' j hj]
    exact Rat.not_le
  rw [x1, x2] at c1
  rw [y1, y2] at c2
  refine ⟨g, g', cg.clr, cg.g0, tg, cl', g0', tl', ⟨_, c1⟩, ⟨_, c2⟩, fun S => ?_, fun S => ?_⟩
  · have hr : (m.n : Int) ≤ 100000 ∧ -100000 ≤ (m.n : Int) := by omega
    have d1 := c4 S
    have d2 := ok_need_model ok S
    have bn : m.bn.length = m.n := ok.bl
    refine fn_wp rfl ?_
    simp [b_safe, d1, d2, bn, hr, rng_map, len_tup]
    refine wp_map (fun i => !decide (i ∈ bl m.n fun i => decide (g' i < m.p i))) (fun i => .int (i : Nat)) (fun ρ => ρ = [some (.im (modelD m)), some (.im (natsD (bl m.n fun i => decide (g' i < m.p i)))), none]) rfl (fun i hi ρ hρ => ?_) fun ρ' hρ => ?_
    · subst hρ
      refine ⟨_, rfl, ?_⟩
      by_cases z : i ∈ bl m.n fun i => decide (g' i < m.p i)
      · simp [wipeE, notin_nats, truD, z]
      · simp [wipeE, notin_nats, truD, z]
    · subst hρ
      have ef : (List.range m.n).filter (fun i => !decide (i ∈ bl m.n fun i => decide (g' i < m.p i))) = bl m.n fun i => decide (m.p i ≤ g' i) := by
        unfold bl
        refine List.filter_congr fun i hi => ?_
        simp [List.mem_filter, hi]
        rw [Bool.eq_iff_iff]
        simp [List.mem_range.mp hi]
        exact Rat.not_le.symm
      rw [ef]
      simp [tuple_lst, natsD]
  · rw [c3 S]
    congr 3
    unfold bl
    refine List.filter_congr fun i hi => ?_
    have qi := cg.qs i (List.mem_range.mp hi)
    rw [Bool.eq_iff_iff]
    simp
    intro _
    cases h : q i with
    | false =>
      simp
      refine Rat.not_lt.mp fun z => ?_
      have := qi.mpr z
      rw [h] at this
      cases this
    | true => 
      simp
      exact Rat.not_le.mpr (qi.mp h)
end PdL
set_option Elab.async false
set_option linter.all false
set_option maxRecDepth 100000
set_option maxHeartbeats 4000000
namespace PdL
open PySem L2 Pd Th
/-! ### rings of banks: the three books of the law, by hand -/
section
variable {r : Rg} (ok : r.Ok)
include ok
theorem rg_told : ∃ g l, Told (rgM r) g l := told_of (rgM_ok ok) (rgM_nn ok) (rgM_fin ok)
omit ok in
theorem rep_range {n : Nat} {f : Nat → Rat} {x : Rat} (h : ∀ i, i < n → f i = x) : (List.range n).map f = List.replicate n x := by
  refine List.ext_getElem (by simp) fun i h1 h2 => ?_
  simp at h1
  simp [h i h1]
theorem ph_const {a : Nat → Rat} {x : Rat} (h : ∀ i, i < r.n → phi r.keep r.p (a i) = x) : phR (rgM r) a = List.replicate r.n x := by
  refine rep_range fun i hi => ?_
  rw [rg_k ok hi, rg_p ok hi]
  exact h i hi
omit ok in
theorem phi_full {k p a : Rat} (h : p ≤ a) : phi k p a = p := by
  unfold phi
  rw [if_neg (Rat.not_lt.mpr h)]
omit ok in
theorem phi_fail {k p a : Rat} (h : a < p) : phi k p a = k * a := by
  unfold phi
  rw [if_pos h]
/-- without cash and world: all is paid at the most, nothing at the least -/
theorem rg_empty (hc : ∀ i, i < r.n → ent r.cash i = 0) (hw : r.world = 0) (hk : r.keep = 1) {g l : Nat → Rat} (t : Told (rgM r) g l) : phR (rgM r) g = List.replicate r.n r.like ∧ phR (rgM r) l = List.replicate r.n 0 ∧ ∀ i, i < r.n → l i < r.p ∧ r.p ≤ g i := by
  have p0 := rg_p0 ok
  obtain ⟨s0, s1, sp⟩ := rg_s ok
  have ep : r.p = r.like := by
    unfold Rg.p
    rw [hw]
    grind
  have es : r.s = 1 := by
    unfold Rg.s
    rw [← ep]
    grind
  have G : ∀ i, i < r.n → r.p ≤ g i := t.gg (fun _ => r.p) ((rg_clr ok).mpr fun i hi => by
    rw [hc i hi, phi_full Rat.le_refl, es]
    grind)
  have Lz : ∀ i, i < r.n → l i = 0 := fun i hi => by
    have h1 := t.ll (fun _ => 0) ((rg_clr ok).mpr fun i hi => by
      rw [hc i hi, phi_fail p0]
      grind) (fun _ _ => Rat.le_refl) i hi
    have h2 := t.l0 i hi
    grind
  refine ⟨ph_const ok fun i hi => by rw [phi_full (G i hi), ep], ph_const ok fun i hi => by rw [Lz i hi, phi_fail p0]; grind, fun i hi => ⟨by rw [Lz i hi]; exact p0, G i hi⟩⟩
/-- some cash, nothing to the world: it goes around till all is paid -/
theorem rg_fed {k : Nat} (hkn : k < r.n) (hck : 0 < ent r.cash k) (hw : r.world = 0) (hk : r.keep = 1) {g l : Nat → Rat} (t : Told (rgM r) g l) : phR (rgM r) l = List.replicate r.n r.like ∧ (∀ i, i < r.n → r.p ≤ l i) ∧ woR (rgM r) l = r.cash := by
  have n2 := ok.n2
  have n4 := ok.n4
  have p0 := rg_p0 ok
  have ep : r.p = r.like := by
    unfold Rg.p
    rw [hw]
    grind
  have es : r.s = 1 := by
    unfold Rg.s
    rw [← ep]
    grind
  have e := (rg_clr ok).mp t.lc
  have c0 : ∀ i, i < r.n → 0 ≤ ent r.cash i := fun i hi => (rg_c ok hi).2.1
  -- what each lacks
  obtain ⟨d, hd⟩ : ∃ d : Nat → Rat, d = fun i => if l i < r.p then r.p - l i else 0 := ⟨_, rfl⟩
  have dd : ∀ i, d i = if l i < r.p then r.p - l i else 0 := fun i => by rw [hd]
  have ph : ∀ i, phi r.keep r.p (l i) = r.p - d i := fun i => by
    rw [dd]
    by_cases z : l i < r.p
    · rw [phi_fail z, if_pos z, hk]
      grind
    · rw [phi_full (Rat.not_lt.mp z), if_neg z]
      grind
  have el : ∀ i, i < r.n → l i = ent r.cash i + (r.p - d (prv r.n i)) := fun i hi => by
    rw [← e i hi, ph, es]
    grind
  have d0 : ∀ i, 0 ≤ d i := fun i => by
    rw [dd]
    split
    · grind
    · exact Rat.le_refl
  have dle : ∀ i, i < r.n → d i ≤ d (prv r.n i) := fun i hi => by
    have h1 := el i hi
    have h2 := c0 i hi
    have h3 := d0 (prv r.n i)
    rw [dd i]
    split
    · grind
    · exact h3
  have deq : ∀ i, i < r.n → d (prv r.n i) = d i := sum_same dle (by rw [sum_prv n2 n4 d]; exact Rat.le_refl)
  have dk : d k = 0 := by
    have h1 := el k hkn
    rw [deq k hkn] at h1
    have h2 := dd k
    by_cases z : l k < r.p
    · rw [if_pos z] at h2
      grind
    · rw [if_neg z] at h2
      exact h2
  have dz : ∀ i, i < r.n → d i = 0 := by
    have : r.n = 2 ∨ r.n = 3 ∨ r.n = 4 := by omega
    have up : ∀ j, j + 1 < r.n → d j = d (j + 1) := fun j hj => by
      have := deq (j + 1) hj
      unfold prv at this
      rw [if_neg (by omega)] at this
      exact this
    have all : ∀ j, j < r.n → d j = d 0 := fun j => by
      induction j with
      | zero => intro _; rfl
      | succ j ih => intro hj; rw [← up j hj]; exact ih (by omega)
    intro i hi
    rw [all i hi, ← all k hkn, dk]
  have full : ∀ i, i < r.n → r.p ≤ l i := fun i hi => by
    have h1 := dz i hi
    rw [dd] at h1
    refine Rat.not_lt.mp fun z => ?_
    rw [if_pos z] at h1
    grind
  refine ⟨ph_const ok fun i hi => by rw [phi_full (full i hi), ep], full, ?_⟩
  have ec : woR (rgM r) l = (List.range r.n).map (ent r.cash) := by
    refine List.map_congr_left fun i hi => ?_
    have hi := List.mem_range.mp hi
    rw [rg_p ok hi]
    unfold wo
    rw [if_neg (Rat.not_lt.mpr (full i hi)), el i hi, dz _ (prv_lt hi)]
    grind
  rw [ec]
  exact (list_ext ok.cl fun i _ => rfl).symm
def Rg.q (r : Rg) : Rat := r.s * r.keep
theorem rg_q : 0 ≤ r.q ∧ (r.keep < 1 → r.q < 1) := by
  obtain ⟨s0, s1, sp⟩ := rg_s ok
  have k0 := ok.kg.2.1
  refine ⟨Rat.mul_nonneg (by grind) k0, fun k1 => ?_⟩
  have : r.s * r.keep ≤ 1 * r.keep := Rat.mul_le_mul_of_nonneg_right s1 k0
  unfold Rg.q
  grind
/-- cash alike at all, keeps below 1: from below, from above -/
theorem rg_book {c : Rat} (hc : ∀ i, i < r.n → ent r.cash i = c) (k1 : r.keep < 1) {lv A : Rat} (hlv : lv = r.keep * A) (hA : A = c + r.s * lv) {g l : Nat → Rat} (t : Told (rgM r) g l) :
    phR (rgM r) l = List.replicate r.n (if A < r.p then lv else r.p) ∧ phR (rgM r) g = List.replicate r.n (if c + r.like < r.p then lv else r.p) := by
  have n2 := ok.n2
  have n4 := ok.n4
  have p0 := rg_p0 ok
  obtain ⟨s0, s1, sp⟩ := rg_s ok
  obtain ⟨q0, q1⟩ := rg_q ok
  have q1 := q1 k1
  have k0 := ok.kg.2.1
  have c0 : 0 ≤ c := by
    rw [← hc 0 (by omega)]
    exact (rg_c ok (by omega)).2.1
  have eA : A = c + r.q * A := by
    unfold Rg.q
    grind
  have A0 : 0 ≤ A := by
    refine Rat.not_lt.mp fun z => ?_
    have h : 1 * A < r.q * A := by
      have := Rat.mul_lt_mul_of_pos_right q1 (show 0 < -A by grind)
      grind
    grind
  have el := (rg_clr ok).mp t.lc
  have eg := (rg_clr ok).mp t.gc
  -- where all fail, there is one clearing
  have one : ∀ a : Nat → Rat, (∀ i, i < r.n → ent r.cash i + r.s * phi r.keep r.p (a (prv r.n i)) = a i) → (∀ i, i < r.n → a i < r.p) → (∀ i, i < r.n → a i ≤ A) ∨ (∀ i, i < r.n → A ≤ a i) → ∀ i, i < r.n → a i = A := fun a ea lt h => by
    have st : ∀ i, i < r.n → a i = c + r.q * a (prv r.n i) := fun i hi => by
      rw [← ea i hi, hc i hi, phi_fail (lt _ (prv_lt hi))]
      unfold Rg.q
      grind
    rcases h with h | h
    · have := cyc0 n2 n4 q1 (d := fun i => A - a i) (fun i hi => by have := h i hi; grind) fun i hi => by
        have h1 := st i hi
        have : r.q * (A - a (prv r.n i)) = r.q * A - r.q * a (prv r.n i) := by grind
        grind
      intro i hi
      have := this i hi
      grind
    · have := cyc0 n2 n4 q1 (d := fun i => a i - A) (fun i hi => by have := h i hi; grind) fun i hi => by
        have h1 := st i hi
        have : r.q * (a (prv r.n i) - A) = r.q * a (prv r.n i) - r.q * A := by grind
        grind
      intro i hi
      have := this i hi
      grind
  have clA : A < r.p → Clr (rgM r).bk (fun _ => A) := fun z => (rg_clr ok).mpr fun i hi => by
    rw [hc i hi, phi_fail z]
    grind
  constructor
  · by_cases z : A < r.p
    · rw [if_pos z]
      have le := t.ll _ (clA z) (fun _ _ => A0)
      have eq := one l el (fun i hi => by have := le i hi; grind) (.inl le)
      exact ph_const ok fun i hi => by rw [eq i hi, phi_fail z, hlv]
    · rw [if_neg z]
      have z := Rat.not_lt.mp z
      obtain ⟨d, hd⟩ : ∃ d : Nat → Rat, d = fun i => if l i < r.p then r.p - l i else 0 := ⟨_, rfl⟩
      have dd : ∀ i, d i = if l i < r.p then r.p - l i else 0 := fun i => by rw [hd]
      have d0 : ∀ i, 0 ≤ d i := fun i => by
        rw [dd]
        split
        · grind
        · exact Rat.le_refl
      have cA : r.p - r.q * r.p ≤ c := by
        have : (1 - r.q) * r.p ≤ (1 - r.q) * A := Rat.mul_le_mul_of_nonneg_left z (by grind)
        grind
      have ph : ∀ i, r.keep * (r.p - d i) ≤ phi r.keep r.p (l i) := fun i => by
        rw [dd]
        by_cases y : l i < r.p
        · rw [phi_fail y, if_pos y]
          have e : r.p - (r.p - l i) = l i := by grind
          rw [e]
          exact Rat.le_refl
        · rw [phi_full (Rat.not_lt.mp y), if_neg y]
          have : r.keep * r.p ≤ 1 * r.p := Rat.mul_le_mul_of_nonneg_right (by grind) (by grind)
          grind
      have dle : ∀ i, i < r.n → d i ≤ r.q * d (prv r.n i) := fun i hi => by
        have h1 := el i hi
        rw [hc i hi] at h1
        have h2 : r.s * (r.keep * (r.p - d (prv r.n i))) ≤ r.s * phi r.keep r.p (l (prv r.n i)) := Rat.mul_le_mul_of_nonneg_left (ph _) (by grind)
        have h3 : r.s * (r.keep * (r.p - d (prv r.n i))) = r.q * r.p - r.q * d (prv r.n i) := by
          unfold Rg.q
          grind
        have h4 : 0 ≤ r.q * d (prv r.n i) := Rat.mul_nonneg q0 (d0 _)
        rw [dd i]
        split
        · grind
        · exact h4
      have dz := cyc0 n2 n4 q1 (fun i _ => d0 i) dle
      exact ph_const ok fun i hi => phi_full (by
        have h := dz i hi
        rw [dd] at h
        refine Rat.not_lt.mp fun y => ?_
        rw [if_pos y] at h
        grind)
  · by_cases z : c + r.like < r.p
    · rw [if_pos z]
      have lt : ∀ i, i < r.n → g i < r.p := fun i hi => by
        have h1 := eg i hi
        rw [hc i hi] at h1
        have h2 : phi r.keep r.p (g (prv r.n i)) ≤ r.p := by
          unfold phi
          split
          · rename_i y
            have g0 := t.g0 _ (show prv r.n i < (rgM r).n from prv_lt hi)
            have : r.keep * g (prv r.n i) ≤ 1 * g (prv r.n i) := Rat.mul_le_mul_of_nonneg_right (by grind) g0
            grind
          · exact Rat.le_refl
        have h3 : r.s * phi r.keep r.p (g (prv r.n i)) ≤ r.s * r.p := Rat.mul_le_mul_of_nonneg_left h2 (by grind)
        grind
      have Ap : A < r.p := by
        -- the least assets are no more than c and all that is owed
        refine Rat.not_le.mp fun y => ?_
        have h1 : r.q * r.p ≤ r.s * r.p := by
          refine Rat.mul_le_mul_of_nonneg_right ?_ (by grind)
          unfold Rg.q
          have : r.s * r.keep ≤ r.s * 1 := Rat.mul_le_mul_of_nonneg_left (by grind) (by grind)
          grind
        have h2 : (1 - r.q) * r.p ≤ (1 - r.q) * A := Rat.mul_le_mul_of_nonneg_left y (by grind)
        grind
      have ge := t.gg _ (clA Ap)
      have eq := one g eg lt (.inr ge)
      exact ph_const ok fun i hi => by rw [eq i hi, phi_fail Ap, hlv]
    · rw [if_neg z]
      have z := Rat.not_lt.mp z
      have G := t.gg (fun _ => c + r.like) ((rg_clr ok).mpr fun i hi => by
        rw [hc i hi, phi_full z, sp])
      exact ph_const ok fun i hi => phi_full (by have := G i hi; grind)
end
end PdL
set_option Elab.async false
set_option linter.all false
set_option maxRecDepth 100000
set_option maxHeartbeats 4000000
namespace PdL
open PySem L2 Pd Th
/-! ### is_clearing of a pair that is told -/
theorem whole_int (i : Int) (S : PenSt) : F_is_whole [.int i] S = .ok (.im (.bl true)) S := by
  refine fn_wp rfl ?_
  simp [b_is_whole, isTys, isTy, truD, wp_boolM]
theorem pair_q (q : Rat) (S : PenSt) : F_is_pair [qD q] S = .ok (.im (.bl true)) S := by
  have hd : (0 : Int) < (q.den : Int) := by have := q.den_nz; omega
  have c1 := whole_int q.num S
  have c2 := whole_int q.den S
  have e1 : cmpD .gt (.int (q.den : Int)) (.int 0) = some true := by
    show some (decide ((0 : Int) < (q.den : Int))) = _
    rw [decide_eq_true hd]
  have l2 : pF fLen [qD q] S = .ok (.im (.int 2)) S := rfl
  have ty : isTys (qD q) [.tuple, .list] = some true := rfl
  refine fn_wp rfl ?_
  simp [b_is_pair, ty, truD, wp_boolM, l2, c1, c2, e1]
theorem is_told_q (q : Rat) (S : PenSt) : F_is_told [qD q] S = .ok (.im (.bl true)) S := by
  have c2 := pair_q q S
  have ty : isTys (qD q) [.tuple] = some true := rfl
  have cg : pF fGcd [.int q.num, .int (q.den : Int)] S = .ok (.im (.int 1)) S := by
    have e : Int.gcd q.num (q.den : Int) = 1 := by
      have := q.reduced
      unfold Nat.Coprime at this
      unfold Int.gcd
      rw [Int.natAbs_natCast]
      exact this
    show FR.ok (.im (.int ((Int.gcd q.num (q.den : Int) : Nat) : Int))) S = _
    rw [e]
    rfl
  refine fn_wp rfl ?_
  simp [b_is_told, c2, ty, wp_boolM, cg]
theorem tuple_of_row {xs : List Rat} {n : Nat} (S : PenSt) (hl : xs.length = n) : F_is_tuple_of [rowD xs, .int n] S = .ok (.im (.bl true)) S := by
  have ty : isTys (rowD xs) [.tuple] = some true := rfl
  have ll : pF fLen [rowD xs] S = .ok (.im (.int n)) S := by
    show FR.ok (.im (.int ((xs.map qD).length : Nat))) S = _
    rw [List.length_map, hl]
  refine fn_wp rfl ?_
  simp [b_is_tuple_of, ty, ll, wp_boolM]
theorem all_true {α : Type} {xs : List α} (S : PenSt) : pF fAll [.lst (xs.map fun _ => .bl true)] S = .ok (.im (.bl true)) S := by
  have := all_lst (L := xs) (f := fun _ => true) (S := S)
  rw [this]
  congr 3
  rw [List.all_eq_true]
  exact fun _ _ => rfl
theorem row_told {xs : List Rat} {n : Nat} (S : PenSt) (hl : xs.length = n) : F_is_row_told [rowD xs, .int n] S = .ok (.im (.bl true)) S := by
  have c1 := tuple_of_row S hl
  have it : (rowD xs).items = some (xs.map qD) := rfl
  refine fn_wp rfl ?_
  simp [b_is_row_told, c1, it, wp_boolM]
  refine wp_map (fun _ => true) (fun q => .bl true) (fun ρ => ρ = [some (.im (rowD xs)), some (.im (.int n)), none]) rfl (fun q hq ρ hρ => ?_) fun ρ' hρ => ?_
  · subst hρ
    have c := is_told_q q S
    exact ⟨_, rfl, by simp [wipeE, c]⟩
  subst hρ
  rw [filter_t]
  have ca := all_true (xs := xs) S
  simp [ca]
section
variable {m : Mo} {E e β : Nat} (ok : m.Ok E e β)
include ok
theorem pair_told {x w : List Rat} (S : PenSt) (hx : x.length = m.n) (hw : w.length = m.n) : F_is_pair_told [modelD m, .tup [rowD x, rowD w]] S = .ok (.im (.bl true)) S := by
  have c1 : F_is_tuple_of [.tup [rowD x, rowD w], .int 2] S = .ok (.im (.bl true)) S := by
    have ty : isTys (.tup [rowD x, rowD w]) [.tuple] = some true := rfl
    have ll : pF fLen [.tup [rowD x, rowD w]] S = .ok (.im (.int 2)) S := rfl
    refine fn_wp rfl ?_
    simp [b_is_tuple_of, ty, ll, wp_boolM]
  have hl : ∀ q ∈ [x, w], q.length = m.n := fun q hq => by
    rcases List.mem_cons.mp hq with rfl | h
    · exact hx
    · rw [List.mem_singleton.mp h]; exact hw
  obtain ⟨L, hL⟩ : ∃ L, L = [x, w] := ⟨_, rfl⟩
  rw [← hL] at hl
  obtain ⟨W, hW⟩ : ∃ W, W = D.tup [rowD x, rowD w] := ⟨_, rfl⟩
  have it : W.items = some (L.map rowD) := by rw [hW, hL]; rfl
  rw [← hW] at c1 ⊢
  have bn : m.bn.length = m.n := ok.bl
  refine fn_wp rfl ?_
  simp [b_is_pair_told, c1, it, wp_boolM]
  refine wp_map (fun _ => true) (fun q => .bl true) (fun ρ => ρ = [some (.im (modelD m)), some (.im W), none]) rfl (fun q hq ρ hρ => ?_) fun ρ' hρ => ?_
  · subst hρ
    have c := row_told S (hl q hq)
    exact ⟨_, rfl, by simp [wipeE, c, len_tup, bn]⟩
  subst hρ
  rw [filter_t]
  have ca := all_true (xs := L) S
  simp [ca]
/-- what clears: the payments and worths of a pair's assets -/
theorem ok_cleared_by {x w : List Rat} {a c : Nat} (S : PenSt) (hx : x.length = m.n) (hw : w.length = m.n) (sx : ∀ q ∈ x, Sz a q) (sw : ∀ q ∈ w, Sz a q) (hz : 2 * m.n * (a + e + β + 4) + e + β + 4 < 9000) (sa : ∀ q ∈ asR m x w, Sz c q) (hc : c + e + β + 3 < 9000) :
    F_cleared_by [modelD m, rowD x, rowD w] S = .ok (.im (.tup [rowD (phR m (ent (asR m x w))), rowD (woR m (ent (asR m x w)))])) S := by
  have n7 := ok.n7
  have c1 := ok_assets_by ok (d := rowD x) (f := rowD w) S rfl rfl hx hw sx sw hz
  have c2 := ok_all_owed ok S
  have la : (asR m x w).length = m.n := by unfold asR; simp
  obtain ⟨A, hA⟩ : ∃ A, A = asR m x w := ⟨_, rfl⟩
  rw [← hA] at c1 la sa ⊢
  refine fn_wp rfl ?_
  simp [b_cleared_by, c1, c2, asgs]
  refine wp_for (fun k ρ S' => S' = S ∧ ∃ x6 x7 x8, ρ = [some (.im (modelD m)), some (.im (rowD x)), some (.im (rowD w)), some (.im (rowD A)), some (.ow ((List.range k).map fun j => qD (phi (m.k j) (m.p j) (ent A j)))), some (.ow ((List.range k).map fun j => qD (wo (m.p j) (ent A j)))), x6, x7, x8])
    ⟨rfl, none, none, none, rfl⟩ (fun i y ρ S' hk ⟨hS, x6, x7, x8, hρ⟩ => ?_) fun ρ' S' ⟨hS, x6, x7, x8, hρ⟩ => ?_
  · subst hS hρ
    obtain ⟨j, hj, rfl⟩ := enm_at hk
    have hin : i < m.n := by
      have := (List.getElem?_eq_some_iff.mp hj).1
      simpa using this
    rw [List.getElem?_range hin] at hj
    cases hj
    have i1 := ix_row (r := A) (k := i) (by omega)
    have i2 := ix_row (r := m.keeps) (k := i) (by rw [ok.kl]; exact hin)
    have s1 := sa _ (ent_mem (rs := A) (k := i) (by omega))
    have s2 := ok.szP hin
    have s3 := ok.szK (ent_mem (rs := m.keeps) (k := i) (by rw [ok.kl]; exact hin))
    have k1 := ok_below S' s1 s2 (by omega)
    have k2 := ok_scaled S' s3 s1 (by omega)
    have k3 := ok_lessened S' s1 s2 (by omega)
    have r1 : (List.range (i + 1)).map (fun j => qD (phi (m.k j) (m.p j) (ent A j))) = (List.range i).map (fun j => qD (phi (m.k j) (m.p j) (ent A j))) ++ [qD (phi (m.k i) (m.p i) (ent A i))] := range_succ_map
    have r2 : (List.range (i + 1)).map (fun j => qD (wo (m.p j) (ent A j))) = (List.range i).map (fun j => qD (wo (m.p j) (ent A j))) ++ [qD (wo (m.p i) (ent A i))] := range_succ_map
    have l1 : i < 100000 := by omega
    refine ⟨_, rfl, ?_⟩
    rw [r1, r2]
    by_cases z : ent A i < m.p i
    · have e1 : phi (m.k i) (m.p i) (ent A i) = ent m.keeps i * ent A i := by unfold phi; rw [if_pos z]; rfl
      have e2 : wo (m.p i) (ent A i) = 0 := by unfold wo; rw [if_pos z]
      rw [e1, e2]
      simp [i1, i2, k1, k2, z, truD, l1, qD_0]
    · have e1 : phi (m.k i) (m.p i) (ent A i) = m.p i := by unfold phi; rw [if_neg z]
      have e2 : wo (m.p i) (ent A i) = ent A i - m.p i := by unfold wo; rw [if_neg z]
      rw [e1, e2]
      simp [i1, i2, k1, k3, z, truD, l1]
  · subst hS hρ
    rw [enm_map, List.length_map, List.length_zipIdx, List.length_range]
    simp [tuple_lst, phR, woR, rowD]
theorem ok_is_clearing {x w : List Rat} {a c : Nat} (S : PenSt) (hx : x.length = m.n) (hw : w.length = m.n) (sx : ∀ q ∈ x, Sz a q) (sw : ∀ q ∈ w, Sz a q) (hz : 2 * m.n * (a + e + β + 4) + e + β + 4 < 9000) (sa : ∀ q ∈ asR m x w, Sz c q) (hc : c + e + β + 3 < 9000)
    (e1 : phR m (ent (asR m x w)) = x) (e2 : woR m (ent (asR m x w)) = w) : F_is_clearing [modelD m, .tup [rowD x, rowD w]] S = .ok (.im (.bl true)) S := by
  have n7 := ok.n7
  have c0 := ok_need_model ok S
  have c1 := pair_told ok S hx hw
  have c2 := ok_cleared_by ok S hx hw sx sw hz sa hc
  rw [e1, e2] at c2
  have i0 : ixD (.tup [rowD x, rowD w]) (.int 0) = some (rowD x) := rfl
  have i1 : ixD (.tup [rowD x, rowD w]) (.int 1) = some (rowD w) := rfl
  have eq : cmpD .eq (.tup [rowD x, rowD w]) (.tup [rowD x, rowD w]) = some true := eq_same (nb_le (nb_tup (k := 2) fun d hd => by
    rcases List.mem_cons.mp hd with rfl | h
    · exact nb_row x
    · rw [List.mem_singleton.mp h]; exact nb_row w) (by decide))
  refine fn_wp rfl ?_
  simp [b_is_clearing, c0, c1, i0, i1, c2, wp_boolM, eq]
end
end PdL
set_option Elab.async false
set_option linter.all false
set_option maxRecDepth 100000
set_option maxHeartbeats 4000000
namespace PdL
open PySem L2 Pd
def ls_0 : IS := .par [12, 13] [(.bin .add (.cst (.int 2)) (.call F__law_draw [(.var 1), (.cst (.int 3))])), (.tup [(.bin .add (.cst (.int 1)) (.call F__law_draw [(.var 1), (.cst (.int 5))])), (.cst (.int 1))])]
def ls_1 : IS := .par [14, 15] [(.bin .mul (.tup [(.tup [(.cst (.int 0)), (.cst (.int 1))])]) (.var 12)), (.rngL true (.var 12))]
def ls_2 : IS := .asg (.nm 2) (.call F__law_built [(.call F__law_ring_book [(.var 12), (.var 13), (.var 14), (.tup [(.cst (.int 0)), (.cst (.int 1))]), (.tup [(.cst (.int 1)), (.cst (.int 1))])])])
def ls_3 : IS := .ite (.or (.tst (.cmp .ne (.atr (.ix (.call F_pays [(.var 2)]) (.cst (.int 0))) [(2, 0), (3, 0)]) (.bin .mul (.tup [(.var 13)]) (.var 12)))) (.or (.tst (.cmp .ne (.atr (.ix (.call F_least [(.var 2)]) (.cst (.int 0))) [(2, 0), (3, 0)]) (.var 14))) (.tst (.cmp .ne (.call F_torn [(.var 2)]) (.var 15))))) [.ret (.cst (.bl false))] []
def ls_4 : IS := .asg (.nm 3) (.call F__law_times [(.var 13), (.call F__law_pick [(.var 1), (.lst [(.tup [(.cst (.int 1)), (.cst (.int 2))]), (.tup [(.cst (.int 1)), (.cst (.int 3))]), (.tup [(.cst (.int 3)), (.cst (.int 4))])])])])
def ls_5 : IS := .ite (.tst (.cmp .notN (.call F_is_clearing [(.var 2), (.tup [(.bin .mul (.tup [(.var 3)]) (.var 12)), (.var 14)])]) (.cst (.bl true)))) [.ret (.cst (.bl false))] []
def ls_6 : IS := .par [16, 17] [(.call F__law_draw [(.var 1), (.var 12)]), (.call F__law_pick [(.var 1), (.lst [(.tup [(.cst (.int 1)), (.cst (.int 1))]), (.tup [(.cst (.int 1)), (.cst (.int 2))]), (.tup [(.cst (.int 3)), (.cst (.int 1))])])])]
def ls_7 : IS := .asg (.nm 4) (.call F__law_built [(.call F__law_ring_book [(.var 12), (.var 13), (.call (pF fTuple) [(.cmpr [22] (.nm 22) (.rng1 (.var 12)) [] (.ife (.tst (.cmp .eq (.var 22) (.var 16))) (.var 17) (.tup [(.cst (.int 0)), (.cst (.int 1))])))]), (.tup [(.cst (.int 0)), (.cst (.int 1))]), (.tup [(.cst (.int 1)), (.cst (.int 1))])])])
def ls_8 : IS := .asg (.nm 5) (.ix (.call F_least [(.var 4)]) (.cst (.int 0)))
def ls_9 : IS := .ite (.or (.tst (.cmp .ne (.atr (.var 5) [(2, 0), (3, 0)]) (.bin .mul (.tup [(.var 13)]) (.var 12)))) (.or (.tst (.call (richD O_2 true) [(.var 5), (.ix (.call F_least [(.var 4)]) (.cst (.int 0)))])) (.or (.tst (.cmp .ne (.call F_safe [(.var 4)]) (.var 15))) (.tst (.cmp .ne (.atr (.var 5) [(2, 1), (3, 1)]) (.call (pF fTuple) [(.cmpr [22] (.nm 22) (.rng1 (.var 12)) [] (.ife (.tst (.cmp .eq (.var 22) (.var 16))) (.var 17) (.tup [(.cst (.int 0)), (.cst (.int 1))])))])))))) [.ret (.cst (.bl false))] []
def ls_10 : IS := .par [18, 19, 20] [(.call F__law_pick [(.var 1), (.lst [(.tup [(.cst (.int 1)), (.cst (.int 2))]), (.tup [(.cst (.int 3)), (.cst (.int 4))]), (.tup [(.cst (.int 1)), (.cst (.int 3))])])]), (.tup [(.bin .add (.cst (.int 1)) (.call F__law_draw [(.var 1), (.cst (.int 4))])), (.cst (.int 1))]), (.call F__law_pick [(.var 1), (.lst [(.tup [(.cst (.int 1)), (.cst (.int 1))]), (.tup [(.cst (.int 1)), (.cst (.int 2))]), (.tup [(.cst (.int 2)), (.cst (.int 1))]), (.tup [(.cst (.int 0)), (.cst (.int 1))])])])]
def ls_11 : IS := .asg (.nm 6) (.call F__law_plus [(.var 13), (.var 19)])
def ls_12 : IS := .asg (.nm 7) (.call F__law_share [(.var 13), (.var 6)])
def ls_13 : IS := .asg (.nm 8) (.call F__law_share [(.call F__law_times [(.var 18), (.var 20)]), (.call F__law_minus [(.tup [(.cst (.int 1)), (.cst (.int 1))]), (.call F__law_times [(.var 18), (.var 7)])])])
def ls_14 : IS := .asg (.nm 9) (.call F__law_plus [(.var 20), (.call F__law_times [(.var 7), (.var 8)])])
def ls_15 : IS := .asg (.nm 10) (.call F__law_ring_book [(.var 12), (.var 13), (.bin .mul (.tup [(.var 20)]) (.var 12)), (.var 19), (.var 18)])
def ls_16 : IS := .ite (.tst (.call F__law_less [(.var 9), (.var 6)])) [.asg (.nm 21) (.bin .mul (.tup [(.var 8)]) (.var 12))] [.asg (.nm 21) (.bin .mul (.tup [(.var 6)]) (.var 12))]
def ls_17 : IS := .ite (.tst (.cmp .ne (.atr (.ix (.call F_least [(.call F__law_built [(.var 10)])]) (.cst (.int 0))) [(2, 0), (3, 0)]) (.var 21))) [.ret (.cst (.bl false))] []
def ls_18 : IS := .asg (.nm 11) (.not (.tst (.call F__law_less [(.call F__law_plus [(.var 20), (.var 13)]), (.var 6)])))
def ls_19 : IS := .ret (.cmp .eq (.atr (.ix (.call F_pays [(.call F__law_built [(.var 10)])]) (.cst (.int 0))) [(2, 0), (3, 0)]) (.ife (.tst (.var 11)) (.bin .mul (.tup [(.var 6)]) (.var 12)) (.bin .mul (.tup [(.var 8)]) (.var 12))))
def lt_20 : List IS := []
def lt_19 : List IS := ls_19 :: lt_20
def lt_18 : List IS := ls_18 :: lt_19
def lt_17 : List IS := ls_17 :: lt_18
def lt_16 : List IS := ls_16 :: lt_17
def lt_15 : List IS := ls_15 :: lt_16
def lt_14 : List IS := ls_14 :: lt_15
def lt_13 : List IS := ls_13 :: lt_14
def lt_12 : List IS := ls_12 :: lt_13
def lt_11 : List IS := ls_11 :: lt_12
def lt_10 : List IS := ls_10 :: lt_11
def lt_9 : List IS := ls_9 :: lt_10
def lt_8 : List IS := ls_8 :: lt_9
def lt_7 : List IS := ls_7 :: lt_8
def lt_6 : List IS := ls_6 :: lt_7
def lt_5 : List IS := ls_5 :: lt_6
def lt_4 : List IS := ls_4 :: lt_5
def lt_3 : List IS := ls_3 :: lt_4
def lt_2 : List IS := ls_2 :: lt_3
def lt_1 : List IS := ls_1 :: lt_2
def lt_0 : List IS := ls_0 :: lt_1
theorem law_split : b_law = lt_0 := rfl
end PdL
set_option Elab.async false
set_option linter.all false
set_option maxRecDepth 100000
set_option maxHeartbeats 4000000
namespace PdL
open PySem L2 Pd Th
theorem ok__law_share {p q : Rat} (S : PenSt) {a b : Nat} (hp : Sz a p) (hq : Sz b q) (h0 : q ≠ 0) (hb : a + b < 9000) : F__law_share [qD p, qD q] S = .ok (.im (qD (p / q))) S := by
  have m1 := mulOk_of hp.1 hq.denI (by omega)
  have m2 := mulOk_of hp.denI hq.1 (by omega)
  have l := ok__law_q (t := p.num * q.den) S (Int.mul_ne_zero (den_ne p) (num_ne h0)) (natAbs_mul_lt hp.denI hq.1) hb
  rw [div_divInt]
  simp [F__law_share, evD, evF, b__law_share, ve_bnd, getV, callM, SV.d, binD, m1, m2, l, qD, ixD, atI, ixN]
theorem ix_0 {x y : D} : ixD (.tup [x, y]) (.int 0) = some x := rfl
theorem atr_pays {x w : List Rat} : atrD (paysD x w) [(2, 0), (3, 0)] = some (rowD x) := rfl
theorem atr_least {x w : List Rat} : atrD (leastD x w) [(2, 0), (3, 0)] = some (rowD x) := rfl
theorem atr_least1 {x w : List Rat} : atrD (leastD x w) [(2, 1), (3, 1)] = some (rowD w) := rfl
theorem nb_rw (x : List Rat) : nb 60 (rowD x) = true := nb_le (nb_row x) (by decide)
theorem ne_row (x : List Rat) : cmpD .ne (rowD x) (rowD x) = some false := ne_same (nb_rw x)
theorem eq_row (x : List Rat) : cmpD .eq (rowD x) (rowD x) = some true := eq_same (nb_rw x)
theorem ok_rows_key {x w : List Rat} (S : PenSt) : F_rows_key [leastD x w] S = .ok (.im (.tup [rowD x, rowD w])) S := by
  refine fn_wp rfl ?_
  simp [b_rows_key, atr_least, atr_least1]
theorem rich_at {ops : List ((Bool × Nat) × DFun)} {n : Bool} {c : Nat} {fs gs : List D} {F : DFun} {b : Bool} {S S' : PenSt} (h : ops.lookup (n, c) = some F) (e : F [.ins c fs, .ins c gs] S = .ok (.im (.bl b)) S') : richD ops n [.ins c fs, .ins c gs] S = .ok (.im (.bl b)) S' := by
  unfold richD
  simp [h, e]
theorem least_ne {x w : List Rat} (S : PenSt) : richD O_2 true [leastD x w, leastD x w] S = .ok (.im (.bl false)) S := by
  have c1 := ok_rows_key (x := x) (w := w) S
  have ty : isTys (leastD x w) [.cls 3] = some true := rfl
  have eq : cmpD .eq (.tup [rowD x, rowD w]) (.tup [rowD x, rowD w]) = some true := eq_same (nb_le (nb_tup (k := 2) fun d hd => by
    rcases List.mem_cons.mp hd with rfl | h
    · exact nb_row x
    · rw [List.mem_singleton.mp h]; exact nb_row w) (by decide))
  have e1 : F_Least___eq__ [leastD x w, leastD x w] S = .ok (.im (.bl true)) S := by
    refine fn_wp rfl ?_
    simp [b_Least___eq__, c1, ty, eq, wp_boolM]
  have e2 : richD O_1 false [leastD x w, leastD x w] S = .ok (.im (.bl true)) S := rich_at (F := F_Least___eq__) rfl e1
  have e3 : F_Least___ne__ [leastD x w, leastD x w] S = .ok (.im (.bl false)) S := by
    refine fn_wp rfl ?_
    simp [b_Least___ne__, e2, truD]
  exact rich_at (F := F_Least___ne__) rfl e3
/-! ### the law, stage by stage -/
def Bx (n : Nat) (lk : Rat) (x2 x3 x4 x5 x6 x7 x8 x9 x10 x11 x16 x17 x18 x19 x20 x21 x22 : Option SV) : Rho := [none, some (.im .pen), x2, x3, x4, x5, x6, x7, x8, x9, x10, x11, some (.im (.int n)), some (.im (qD lk)), some (.im (rowD (List.replicate n 0))), some (.im (natsD (List.range n))), x16, x17, x18, x19, x20, x21, x22]
def r0 (n : Nat) (lk : Rat) : Rg := ⟨n, lk, List.replicate n 0, 0, 1⟩
theorem gd_1 : Gd 1 := gd_nat (i := 1) (by decide)
theorem r0_ok {n : Nat} {lk : Rat} (h2 : 2 ≤ n) (h4 : n ≤ 4) (hl : Gd lk) (l0 : 0 < lk) : (r0 n lk).Ok := ⟨h2, h4, by simp [r0], hl, l0, fun x hx => by rw [(List.mem_replicate.mp hx).2]; exact gd_0, gd_0, gd_1, Rat.le_refl⟩
theorem p20 {c : Nat} (h : c ≤ 1000) : c < 2 ^ 20 := Nat.lt_of_le_of_lt h (by decide)
theorem nat_pos {j : Nat} : (0 : Rat) < ((1 + j : Nat) : Rat) := by
  have z : ((0 : Int) : Rat) < (((1 + j : Nat) : Int) : Rat) := Rat.intCast_lt_intCast.mpr (by omega)
  exact z
theorem nat_q {j : Nat} : D.tup [.int (1 + (j : Int)), .int 1] = qD ((1 + j : Nat) : Rat) := by
  have : (1 : Int) + (j : Int) = ((1 + j : Nat) : Int) := by omega
  rw [this]
  rfl
theorem row_rep {n : Nat} (x : Rat) (h1 : 1 ≤ n) (h4 : n ≤ 4) : binD .mul (.tup [qD x]) (.int (n : Int)) = some (.im (rowD (List.replicate n x))) := by
  rw [mul_tup1 (by omega) h1]
  unfold rowD
  rw [List.map_replicate]
theorem stage_a {Q : Flow' → Rho → PenSt → Prop} {S : PenSt} (h : PenOk 0 S) (next : ∀ (n : Nat) (lk : Rat) (S' : PenSt), 2 ≤ n → n ≤ 4 → Gd lk → 0 < lk → PenOk 10 S' →
    wp (evSs lt_3) Q (Bx n lk (some (.im (modelD (rgM (r0 n lk))))) none none none none none none none none none none none none none none none none) S') : wp (evSs lt_0) Q (lawRho 23 1) S := by
  have a1 : ∀ i j : Int, binD .add (.int i) (.int j) = some (.im (.int (i + j))) := fun _ _ => rfl
  obtain ⟨k0, S1, d0, hk0, h1⟩ := ok_draw h (n := 3) (by decide) (by decide) (by decide)
  have d0 : F__law_draw [.pen, .int 3] S = .ok (.im (.int k0)) S1 := d0
  obtain ⟨j, S2, d1, hj, h2⟩ := ok_draw h1 (n := 5) (by decide) (by decide) (by decide)
  have d1 : F__law_draw [.pen, .int 5] S1 = .ok (.im (.int j)) S2 := d1
  show wp (evSs (ls_0 :: lt_1)) Q ([none, some (.im .pen), none, none, none, none, none, none, none, none, none, none, none, none, none, none, none, none, none, none, none, none, none]) S
  obtain ⟨n, hn⟩ : ∃ n, n = 2 + k0 := ⟨_, rfl⟩
  have en : (2 : Int) + (k0 : Int) = (n : Int) := by omega
  have n2 : 2 ≤ n := by omega
  have n4 : n ≤ 4 := by omega
  have hr : (n : Int) ≤ 100000 ∧ -100000 ≤ (n : Int) := by omega
  obtain ⟨lk, hlk⟩ : ∃ lk : Rat, lk = ((1 + j : Nat) : Rat) := ⟨_, rfl⟩
  have elk : D.tup [.int (1 + (j : Int)), .int 1] = qD lk := by rw [hlk]; exact nat_q
  have lg : Gd lk := by rw [hlk]; exact gd_nat (by omega)
  have l0 : 0 < lk := by rw [hlk]; exact nat_pos
  simp [ls_0, d0, d1, a1, en, elk, asgs]
  show wp (evSs (ls_1 :: lt_2)) Q _ S2
  have mu1 : binD .mul (.tup [D.tup [.int 0, .int 1]]) (.int (n : Int)) = some (.im (rowD (List.replicate n 0))) := by
    rw [qD_0]
    exact row_rep 0 (by omega) n4
  have rg : rngL 0 n = (List.range n).map fun k => D.int (k : Nat) := rng_map
  simp [ls_1, mu1, hr, rg, asgs]
  show wp (evSs (ls_2 :: lt_3)) Q _ S2
  have c1 := ok_ring_book (r0 n lk) S2 (by show 1 ≤ n; omega) n4
  have c1 : F__law_ring_book [.int n, qD lk, rowD (List.replicate n 0), qD 0, qD 1] S2 = .ok (.od (rgK (r0 n lk))) S2 := c1
  have c2 := ok_built (r0 n lk) S2
  have c2 : F__law_built [.dct (rgK (r0 n lk))] S2 = .ok (.im (modelD (rgM (r0 n lk)))) S2 := c2
  simp [ls_2, qD_0, qD_1, c1, c2]
  exact next n lk S2 n2 n4 lg l0 (h2.mono (by omega))
end PdL
set_option Elab.async false
set_option linter.all false
set_option maxRecDepth 100000
set_option maxHeartbeats 4000000
namespace PdL
open PySem L2 Pd Th
theorem q_of {a : Int} {b : Nat} {q : Rat} (h : q = Rat.divInt a b) (h1 : (Rat.divInt a b).num = a) (h2 : (Rat.divInt a b).den = b) : D.tup [.int a, .int b] = qD q := by
  subst h
  unfold qD
  rw [h1, h2]
theorem half_q : D.tup [.int 1, .int 2] = qD (1 / 2) := q_of (b := 2) ((Rat.divInt_eq_div _ _).symm) (by decide +kernel) (by decide +kernel)
theorem q34 : D.tup [.int 3, .int 4] = qD (3 / 4) := q_of (b := 4) ((Rat.divInt_eq_div _ _).symm) (by decide +kernel) (by decide +kernel)
theorem q13 : D.tup [.int 1, .int 3] = qD (1 / 3) := q_of (b := 3) ((Rat.divInt_eq_div _ _).symm) (by decide +kernel) (by decide +kernel)
theorem bl_all {n : Nat} {f : Nat → Bool} (h : ∀ i, i < n → f i = true) : bl n f = List.range n := by
  unfold bl
  exact List.filter_eq_self.mpr fun i hi => h i (List.mem_range.mp hi)
theorem rg_as {r : Rg} (ok : r.Ok) {x w : List Rat} {i : Nat} (hi : i < r.n) (hw : ∀ j, j < r.n → ent w j = 0) : ent (asR (rgM r) x w) i = ent r.cash i + ent x (prv r.n i) * r.s := by
  have e : ent (asR (rgM r) x w) i = asT (rgM r) x w i := ent_range hi
  rw [e]
  have e1 : sumR r.n (fun j => ent x j * (rgM r).P j i) = ent x (prv r.n i) * r.s := by
    rw [sumR_single (p := prv r.n i) (prv_lt hi) fun j hj ne => by rw [rg_P ok hj hi, if_neg (fun z => ne ((prv_iff hi hj).mp z)), Rat.mul_zero], rg_P ok (prv_lt hi) hi, if_pos ((prv_iff hi (prv_lt hi)).mpr rfl)]
  have e2 : sumR r.n (fun j => ent w j * (rgM r).H j i) = 0 := sumR_zero fun j hj => by rw [rg_H ok hj hi, Rat.mul_zero]
  show ent r.cash i + sumR r.n (fun j => ent x j * (rgM r).P j i) + sumR r.n (fun j => ent w j * (rgM r).H j i) = _
  rw [e1, e2]
  grind
theorem stage_b {n : Nat} {lk : Rat} (n2 : 2 ≤ n) (n4 : n ≤ 4) (lg : Gd lk) (l0 : 0 < lk) {Q : Flow' → Rho → PenSt → Prop} {S : PenSt} (h : PenOk 10 S)
    (next : ∀ (x2 x3 : Option SV) (S' : PenSt), PenOk 20 S' → wp (evSs lt_6) Q (Bx n lk x2 x3 none none none none none none none none none none none none none none none) S') :
    wp (evSs lt_3) Q (Bx n lk (some (.im (modelD (rgM (r0 n lk))))) none none none none none none none none none none none none none none none none) S := by
  have ok := r0_ok n2 n4 lg l0
  obtain ⟨g, l, t⟩ := rg_told ok
  obtain ⟨e1, e2, e3⟩ := rg_empty ok (fun i hi => ent_rep hi) rfl rfl t
  have e1 : phR (rgM (r0 n lk)) g = List.replicate n lk := e1
  have e2 : phR (rgM (r0 n lk)) l = List.replicate n 0 := e2
  obtain ⟨X, c1⟩ := t.pays
  obtain ⟨Y, c2⟩ := t.least
  have c3 := t.torn S
  have c1 := c1 S
  have c2 := c2 S
  rw [e1] at c1
  rw [e2] at c2
  have eb : bl (rgM (r0 n lk)).n (fun i => decide (l i < (rgM (r0 n lk)).p i) && decide ((rgM (r0 n lk)).p i ≤ g i)) = List.range n := bl_all (n := n) fun i hi => by
    have := e3 i hi
    rw [rg_p ok hi]
    simp [this.1, this.2]
  rw [eb] at c3
  have mu := row_rep lk (show 1 ≤ n by omega) n4
  have nt : cmpD .ne (natsD (List.range n)) (natsD (List.range n)) = some false := ne_same nb_nats
  show wp (evSs (ls_3 :: lt_4)) Q _ S
  unfold Bx
  simp [ls_3, c1, c2, c3, ix_0, atr_pays, atr_least, mu, ne_row, nt, truD]
  -- a part of it all around
  show wp (evSs (ls_4 :: lt_5)) Q _ S
  obtain ⟨d, S1, d1, hd, h1⟩ := ok_pick h (xs := [.tup [.int 1, .int 2], .tup [.int 1, .int 3], .tup [.int 3, .int 4]]) (by simp) (by simp) (by decide)
  have hx : ∃ x : Rat, d = qD x ∧ Gd x ∧ x < 1 := by
    simp at hd
    rcases hd with rfl | rfl | rfl
    · exact ⟨1 / 2, half_q, gd_half, by grind⟩
    · exact ⟨1 / 3, q13, gd_13, by grind⟩
    · exact ⟨3 / 4, q34, gd_34, by grind⟩
  obtain ⟨x, rfl, xg, x1⟩ := hx
  have c4 := ok__law_times S1 lg.2.2 xg.2.2 (by decide)
  simp [ls_4, d1, c4]
  show wp (evSs (ls_5 :: lt_6)) Q _ S1
  obtain ⟨pt, hpt⟩ : ∃ pt, pt = lk * x := ⟨_, rfl⟩
  rw [← hpt] at c4 ⊢
  have p0 : 0 ≤ pt := by rw [hpt]; exact Rat.mul_nonneg lg.2.1 xg.2.1
  have pl : pt < lk := by
    rw [hpt]
    have := Rat.mul_lt_mul_of_pos_left x1 l0
    grind
  have sp : Sz 7 pt := by rw [hpt]; exact (sz_mul lg.2.2 xg.2.2).mono (by decide)
  have mu2 := row_rep pt (show 1 ≤ n by omega) n4
  have es : (r0 n lk).s = 1 := by
    unfold Rg.s Rg.p
    show lk / (lk + 0) = 1
    rw [Rat.add_zero]
    grind
  have ep : (r0 n lk).p = lk := by
    unfold Rg.p
    show lk + 0 = lk
    grind
  have ea : ∀ i, i < n → ent (asR (rgM (r0 n lk)) (List.replicate n pt) (List.replicate n 0)) i = pt := fun i hi => by
    rw [rg_as (r := r0 n lk) (x := List.replicate n pt) (w := List.replicate n 0) ok hi (fun j hj => ent_rep (n := n) hj), es]
    have z1 : ent (r0 n lk).cash i = 0 := ent_rep hi
    have z2 : ent (List.replicate n pt) (prv (r0 n lk).n i) = pt := ent_rep (prv_lt hi)
    rw [z1, z2]
    grind
  have mo := rgM_ok ok
  have sx : ∀ q ∈ List.replicate n pt, Sz 7 q := fun q hq => by rw [(List.mem_replicate.mp hq).2]; exact sp
  have sw : ∀ q ∈ List.replicate n (0 : Rat), Sz 7 q := fun q hq => by rw [(List.mem_replicate.mp hq).2]; exact sz_zero.mono (by decide)
  have hz : 2 * n * (7 + 4 + 6 + 4) + 4 + 6 + 4 < 9000 := by omega
  have sa := sz_asR mo (x := List.replicate n pt) (w := List.replicate n 0) (by show (List.replicate n pt).length = n; simp) (by show (List.replicate n (0 : Rat)).length = n; simp) sx sw
  have c5 := ok_is_clearing mo (x := List.replicate n pt) (w := List.replicate n 0) S1 (by show (List.replicate n pt).length = n; simp) (by show (List.replicate n (0 : Rat)).length = n; simp) sx sw hz sa (by show 2 * n * (7 + 4 + 6 + 4) + 4 + 6 + 4 + 4 + 6 + 3 < 9000; omega)
    (ph_const ok fun i hi => by
      rw [ea i hi, phi_fail (by rw [ep]; exact pl)]
      show 1 * pt = pt
      grind)
    (rep_range fun i hi => by
      rw [ea i hi, rg_p ok hi, ep]
      unfold wo
      rw [if_pos pl])
  have nn : cmpD .notN (.bl true) (.bl true) = some false := rfl
  simp [ls_5, mu2, c5, nn, truD]
  have := next (some (.im (modelD (rgM (r0 n lk))))) (some (.im (qD pt))) S1 (h1.mono (by omega))
  unfold Bx at this
  exact this
end PdL
set_option Elab.async false
set_option linter.all false
set_option maxRecDepth 100000
set_option maxHeartbeats 4000000
namespace PdL
open PySem L2 Pd Th
def fedC (n k : Nat) (sm : Rat) : List Rat := (List.range n).map fun i => if i = k then sm else 0
def r1 (n k : Nat) (lk sm : Rat) : Rg := ⟨n, lk, fedC n k sm, 0, 1⟩
theorem gd_3 : Gd 3 := gd_nat (i := 3) (by decide)
theorem gd_2 : Gd 2 := gd_nat (i := 2) (by decide)
theorem q3 : D.tup [.int 3, .int 1] = qD 3 := rfl
theorem q2 : D.tup [.int 2, .int 1] = qD 2 := rfl
theorem r1_ok {n k : Nat} {lk sm : Rat} (h2 : 2 ≤ n) (h4 : n ≤ 4) (hl : Gd lk) (l0 : 0 < lk) (hs : Gd sm) : (r1 n k lk sm).Ok := ⟨h2, h4, by simp [r1, fedC], hl, l0, fun x hx => by
  obtain ⟨i, _, rfl⟩ := List.mem_map.mp hx
  split
  · exact hs
  · exact gd_0, gd_0, gd_1, Rat.le_refl⟩
theorem stage_c {n : Nat} {lk : Rat} (n2 : 2 ≤ n) (n4 : n ≤ 4) (lg : Gd lk) (l0 : 0 < lk) {Q : Flow' → Rho → PenSt → Prop} {S : PenSt} (h : PenOk 20 S) {x2 x3 : Option SV}
    (next : ∀ (x4 x5 x16 x17 x22 : Option SV) (S' : PenSt), PenOk 30 S' → wp (evSs lt_10) Q (Bx n lk x2 x3 x4 x5 none none none none none none x16 x17 none none none none x22) S') :
    wp (evSs lt_6) Q (Bx n lk x2 x3 none none none none none none none none none none none none none none none) S := by
  obtain ⟨k, S1, d0, hk, h1⟩ := ok_draw h (n := n) (by omega) (Nat.lt_of_le_of_lt n4 (by decide)) (by decide)
  obtain ⟨d, S2, d1, hd, h2⟩ := ok_pick h1 (xs := [.tup [.int 1, .int 1], .tup [.int 1, .int 2], .tup [.int 3, .int 1]]) (by simp) (by simp) (by decide)
  have hx : ∃ x : Rat, d = qD x ∧ Gd x ∧ 0 < x := by
    simp at hd
    rcases hd with rfl | rfl | rfl
    · exact ⟨1, rfl, gd_1, by grind⟩
    · exact ⟨1 / 2, half_q, gd_half, by grind⟩
    · exact ⟨3, q3, gd_3, by grind⟩
  obtain ⟨sm, rfl, sg, s0⟩ := hx
  have ok := r1_ok (k := k) n2 n4 lg l0 sg
  have hr : (n : Int) ≤ 100000 ∧ -100000 ≤ (n : Int) := by omega
  show wp (evSs (ls_6 :: lt_7)) Q _ S
  unfold Bx
  simp [ls_6, d0, d1, asgs]
  show wp (evSs (ls_7 :: lt_8)) Q _ S2
  have comp : ∀ (x4 x5 : Option SV) (Q' : List D → Rho → PenSt → Prop), Q' ((List.range n).map fun i => qD (if i = k then sm else 0)) [none, some (.im .pen), x2, x3, x4, x5, none, none, none, none, none, none, some (.im (.int n)), some (.im (qD lk)), some (.im (rowD (List.replicate n 0))), some (.im (natsD (List.range n))), some (.im (.int k)), some (.im (qD sm)), none, none, none, none, none] S2 →
      wp (compLoop [22] (.nm 22) (evTs []) (evE (.ife (.tst (.cmp .eq (.var 22) (.var 16))) (.var 17) (.tup [.cst (.int 0), .cst (.int 1)]))) ((List.range n).map fun k => D.int (k : Nat)) []) Q' [none, some (.im .pen), x2, x3, x4, x5, none, none, none, none, none, none, some (.im (.int n)), some (.im (qD lk)), some (.im (rowD (List.replicate n 0))), some (.im (natsD (List.range n))), some (.im (.int k)), some (.im (qD sm)), none, none, none, none, none] S2 := fun x4 x5 Q' q => by
    refine wp_map (fun _ => true) (fun i => qD (if i = k then sm else 0)) (fun ρ => ρ = [none, some (.im .pen), x2, x3, x4, x5, none, none, none, none, none, none, some (.im (.int n)), some (.im (qD lk)), some (.im (rowD (List.replicate n 0))), some (.im (natsD (List.range n))), some (.im (.int k)), some (.im (qD sm)), none, none, none, none, none]) rfl (fun i hi ρ hρ => ?_) fun ρ' hρ => ?_
    · subst hρ
      refine ⟨_, rfl, ?_⟩
      by_cases z : i = k
      · simp [wipeE, truD, z]
      · have z' : ¬ ((i : Nat) : Int) = (k : Int) := by omega
        simp [wipeE, truD, z, z', qD_0]
    · subst hρ
      rw [filter_t]
      exact q
  have el : D.tup ((List.range n).map fun i => qD (if i = k then sm else 0)) = rowD (fedC n k sm) := by
    unfold rowD fedC
    rw [List.map_map]
    rfl
  have c1 := ok_ring_book (r1 n k lk sm) S2 (by show 1 ≤ n; omega) n4
  have c1 : F__law_ring_book [.int n, qD lk, rowD (fedC n k sm), qD 0, qD 1] S2 = .ok (.od (rgK (r1 n k lk sm))) S2 := c1
  have c2 := ok_built (r1 n k lk sm) S2
  have c2 : F__law_built [.dct (rgK (r1 n k lk sm))] S2 = .ok (.im (modelD (rgM (r1 n k lk sm)))) S2 := c2
  simp [ls_7, hr, rng_map]
  refine comp none none _ ?_
  simp [tuple_lst, el, qD_0, qD_1, c1, c2]
  -- the least clearing
  obtain ⟨g, l, t⟩ := rg_told ok
  obtain ⟨e1, e2, e3⟩ := rg_fed ok (k := k) hk (by
    have : ent (fedC n k sm) k = if k = k then sm else 0 := ent_range hk
    show 0 < ent (fedC n k sm) k
    rw [this, if_pos rfl]
    exact s0) rfl rfl t
  have e1 : phR (rgM (r1 n k lk sm)) l = List.replicate n lk := e1
  have e3 : woR (rgM (r1 n k lk sm)) l = fedC n k sm := e3
  obtain ⟨Y, c3⟩ := t.least
  have c3 := c3 S2
  have c4 := t.safe S2
  rw [e1, e3] at c3
  have eb : bl (rgM (r1 n k lk sm)).n (fun i => decide ((rgM (r1 n k lk sm)).p i ≤ l i)) = List.range n := bl_all (n := n) fun i hi => by
    rw [rg_p ok hi, decide_eq_true_eq]
    exact e2 i hi
  rw [eb] at c4
  have mu := row_rep lk (show 1 ≤ n by omega) n4
  have nt : cmpD .ne (natsD (List.range n)) (natsD (List.range n)) = some false := ne_same nb_nats
  have c5 := least_ne (x := List.replicate n lk) (w := fedC n k sm) S2
  show wp (evSs (ls_8 :: lt_9)) Q _ S2
  simp [ls_8, c3, ix_0]
  show wp (evSs (ls_9 :: lt_10)) Q _ S2
  simp [ls_9, atr_least, mu, ne_row, c3, ix_0, c5, c4, nt, truD, hr, rng_map, atr_least1]
  refine comp _ _ _ ?_
  simp [tuple_lst, el, ne_row]
  have := next (some (.im (modelD (rgM (r1 n k lk sm))))) (some (.im (leastD (List.replicate n lk) (fedC n k sm)))) (some (.im (.int k))) (some (.im (qD sm))) none S2 (h2.mono (by omega))
  unfold Bx at this
  exact this
end PdL
set_option Elab.async false
set_option linter.all false
set_option maxRecDepth 100000
set_option maxHeartbeats 4000000
namespace PdL
open PySem L2 Pd Th
def r2 (n : Nat) (lk c w kp : Rat) : Rg := ⟨n, lk, List.replicate n c, w, kp⟩
theorem r2_ok {n : Nat} {lk c w kp : Rat} (h2 : 2 ≤ n) (h4 : n ≤ 4) (hl : Gd lk) (l0 : 0 < lk) (hc : Gd c) (hw : Gd w) (hk : Gd kp) (k1 : kp ≤ 1) : (r2 n lk c w kp).Ok := ⟨h2, h4, by simp [r2], hl, l0, fun x hx => by rw [(List.mem_replicate.mp hx).2]; exact hc, hw, hk, k1⟩
theorem stage_d {n : Nat} {lk : Rat} (n2 : 2 ≤ n) (n4 : n ≤ 4) (lg : Gd lk) (l0 : 0 < lk) {S : PenSt} (h : PenOk 30 S) {x2 x3 x4 x5 x16 x17 x22 : Option SV} :
    wp (evSs lt_10) (fun f _ _ => f = .ret (.im (.bl true))) (Bx n lk x2 x3 x4 x5 none none none none none none x16 x17 none none none none x22) S := by
  have a1 : ∀ i j : Int, binD .add (.int i) (.int j) = some (.im (.int (i + j))) := fun _ _ => rfl
  obtain ⟨d, S1, d1, hd, h1⟩ := ok_pick h (xs := [.tup [.int 1, .int 2], .tup [.int 3, .int 4], .tup [.int 1, .int 3]]) (by simp) (by simp) (by decide)
  have hx : ∃ x : Rat, d = qD x ∧ Gd x ∧ x < 1 := by
    simp at hd
    rcases hd with rfl | rfl | rfl
    · exact ⟨1 / 2, half_q, gd_half, by grind⟩
    · exact ⟨3 / 4, q34, gd_34, by grind⟩
    · exact ⟨1 / 3, q13, gd_13, by grind⟩
  obtain ⟨kp, rfl, kg, k1⟩ := hx
  obtain ⟨j, S2, d2, hj, h2⟩ := ok_draw h1 (n := 4) (by decide) (by decide) (by decide)
  have d2 : F__law_draw [.pen, .int 4] S1 = .ok (.im (.int j)) S2 := d2
  obtain ⟨w, hw⟩ : ∃ w : Rat, w = ((1 + j : Nat) : Rat) := ⟨_, rfl⟩
  have ew : D.tup [.int (1 + (j : Int)), .int 1] = qD w := by rw [hw]; exact nat_q
  have wg : Gd w := by rw [hw]; exact gd_nat (by omega)
  have w0 : 0 < w := by rw [hw]; exact nat_pos
  obtain ⟨d, S3, d3, hd, h3⟩ := ok_pick h2 (xs := [.tup [.int 1, .int 1], .tup [.int 1, .int 2], .tup [.int 2, .int 1], .tup [.int 0, .int 1]]) (by simp) (by simp) (by decide)
  have hx : ∃ x : Rat, d = qD x ∧ Gd x := by
    simp at hd
    rcases hd with rfl | rfl | rfl | rfl
    · exact ⟨1, rfl, gd_1⟩
    · exact ⟨1 / 2, half_q, gd_half⟩
    · exact ⟨2, q2, gd_2⟩
    · exact ⟨0, rfl, gd_0⟩
  obtain ⟨c, rfl, cg⟩ := hx
  show wp (evSs (ls_10 :: lt_11)) _ _ S
  unfold Bx
  simp [ls_10, d1, d2, d3, a1, ew, asgs]
  have ok := r2_ok n2 n4 lg l0 cg wg kg (by grind : kp ≤ 1)
  -- by hand
  obtain ⟨p, hp⟩ : ∃ p, p = lk + w := ⟨_, rfl⟩
  have ep : (r2 n lk c w kp).p = p := hp.symm
  have p0 : 0 < p := by grind
  obtain ⟨s, hs⟩ : ∃ s, s = lk / p := ⟨_, rfl⟩
  have es : (r2 n lk c w kp).s = s := by
    unfold Rg.s
    rw [ep, hs]
    rfl
  obtain ⟨s0, s1, sp⟩ := rg_s ok
  rw [es] at s0 s1
  have k0 := kg.2.1
  have q1 : kp * s < 1 := by
    have : kp * s ≤ kp * 1 := Rat.mul_le_mul_of_nonneg_left s1 k0
    grind
  obtain ⟨lv, hlv⟩ : ∃ lv, lv = (kp * c) / (1 - kp * s) := ⟨_, rfl⟩
  obtain ⟨A, hA⟩ : ∃ A, A = c + s * lv := ⟨_, rfl⟩
  have hlv2 : lv = kp * A := by
    have z : lv * (1 - kp * s) = kp * c := by
      rw [hlv]
      have : 1 - kp * s ≠ 0 := by grind
      grind
    rw [hA]
    grind
  have z1 := lg.2.2
  have z2 := wg.2.2
  have z3 := cg.2.2
  have z4 := kg.2.2
  have zp : Sz 7 p := by rw [hp]; exact (sz_add z1 z2).mono (by decide)
  have zs : Sz 10 s := by rw [hs]; exact (sz_div z1 zp (by grind)).mono (by decide)
  have zks := sz_mul z4 zs
  have z1k := sz_sub sz_one zks
  have zkc := sz_mul z4 z3
  have zlv : Sz 40 lv := by rw [hlv]; exact (sz_div zkc z1k (by grind)).mono (by decide)
  have zsl := sz_mul zs zlv
  have zA : Sz 80 A := by rw [hA]; exact (sz_add z3 zsl).mono (by decide)
  have k1' := ok__law_plus S3 z1 z2 (by decide)
  rw [← hp] at k1'
  have k2 := ok__law_share S3 z1 zp (by grind) (by decide)
  rw [← hs] at k2
  have k3 := ok__law_times S3 z4 z3 (by decide)
  have k4 := ok__law_times S3 z4 zs (by decide)
  have k5 := ok__law_minus S3 sz_one zks (by decide)
  have k6 := ok__law_share S3 zkc z1k (by grind) (by decide)
  rw [← hlv] at k6
  have k7 := ok__law_times S3 zs zlv (by decide)
  have k8 := ok__law_plus S3 z3 zsl (by decide)
  rw [← hA] at k8
  have k9 := ok__law_less S3 zA zp (by decide)
  have k10 := ok__law_plus S3 z3 z1 (by decide)
  have k11 := ok__law_less S3 (sz_add z3 z1) zp (by decide)
  have c1 := ok_ring_book (r2 n lk c w kp) S3 (by show 1 ≤ n; omega) n4
  have c1 : F__law_ring_book [.int n, qD lk, rowD (List.replicate n c), qD w, qD kp] S3 = .ok (.od (rgK (r2 n lk c w kp))) S3 := c1
  have c2 := ok_built (r2 n lk c w kp) S3
  have c2 : F__law_built [.dct (rgK (r2 n lk c w kp))] S3 = .ok (.im (modelD (rgM (r2 n lk c w kp)))) S3 := c2
  have muc := row_rep c (show 1 ≤ n by omega) n4
  have mul_ := row_rep lv (show 1 ≤ n by omega) n4
  have mup := row_rep p (show 1 ≤ n by omega) n4
  show wp (evSs (ls_11 :: lt_12)) _ _ S3
  simp [ls_11, k1']
  show wp (evSs (ls_12 :: lt_13)) _ _ S3
  simp [ls_12, k2]
  show wp (evSs (ls_13 :: lt_14)) _ _ S3
  simp [ls_13, k3, k4, qD_1, k5, k6]
  show wp (evSs (ls_14 :: lt_15)) _ _ S3
  simp [ls_14, k7, k8]
  show wp (evSs (ls_15 :: lt_16)) _ _ S3
  simp [ls_15, muc, c1]
  obtain ⟨g, l, t⟩ := rg_told ok
  obtain ⟨b1, b2⟩ := rg_book ok (c := c) (fun i hi => ent_rep hi) k1 (lv := lv) (A := A) hlv2 (by rw [es]; exact hA) t
  rw [ep] at b1 b2
  have b1 : phR (rgM (r2 n lk c w kp)) l = List.replicate n (if A < p then lv else p) := b1
  have b2 : phR (rgM (r2 n lk c w kp)) g = List.replicate n (if c + lk < p then lv else p) := b2
  obtain ⟨X, c3⟩ := t.pays
  obtain ⟨Y, c4⟩ := t.least
  have c3 := c3 S3
  have c4 := c4 S3
  rw [b2] at c3
  rw [b1] at c4
  show wp (evSs (ls_16 :: lt_17)) _ _ S3
  by_cases z : A < p
  · rw [if_pos z] at c4
    simp [ls_16, k9, z, truD, mul_]
    show wp (evSs (ls_17 :: lt_18)) _ _ S3
    simp [ls_17, c2, c4, ix_0, atr_least, ne_row, truD]
    show wp (evSs (ls_18 :: lt_19)) _ _ S3
    by_cases y : c + lk < p
    · rw [if_pos y] at c3
      simp [ls_18, k10, k11, y, truD]
      show wp (evSs (ls_19 :: lt_20)) _ _ S3
      simp [ls_19, c2, c3, ix_0, atr_pays, truD, mul_, eq_row]
    · rw [if_neg y] at c3
      simp [ls_18, k10, k11, y, truD]
      show wp (evSs (ls_19 :: lt_20)) _ _ S3
      simp [ls_19, c2, c3, ix_0, atr_pays, truD, mup, eq_row]
  · rw [if_neg z] at c4
    simp [ls_16, k9, z, truD, mup]
    show wp (evSs (ls_17 :: lt_18)) _ _ S3
    simp [ls_17, c2, c4, ix_0, atr_least, ne_row, truD]
    show wp (evSs (ls_18 :: lt_19)) _ _ S3
    by_cases y : c + lk < p
    · rw [if_pos y] at c3
      simp [ls_18, k10, k11, y, truD]
      show wp (evSs (ls_19 :: lt_20)) _ _ S3
      simp [ls_19, c2, c3, ix_0, atr_pays, truD, mul_, eq_row]
    · rw [if_neg y] at c3
      simp [ls_18, k10, k11, y, truD]
      show wp (evSs (ls_19 :: lt_20)) _ _ S3
      simp [ls_19, c2, c3, ix_0, atr_pays, truD, mup, eq_row]
theorem pl : PL := by
  intro ns hns
  have main : wp (evSs b_law) (fun f _ _ => f = .ret (.im (.bl true))) (lawRho 23 1) (pen0 ns) := by
    rw [law_split]
    refine stage_a (pen0_ok ns) fun n lk S1 n2 n4 lg l0 h1 => ?_
    refine stage_b n2 n4 lg l0 h1 fun x2 x3 S2 h2 => ?_
    refine stage_c n2 n4 lg l0 h2 fun x4 x5 x16 x17 x22 S3 h3 => ?_
    exact stage_d n2 n4 lg l0 h3
  unfold wp at main
  split at main
  · rename_i f ρ' S' e
    exact ⟨ρ', S', by rw [e, main]⟩
  · exact main.elim
end PdL
open PySem PySem.W PySem.Calls PyProof.Rows
theorem law_of (pl : PdL.PL) : PySem.Challenge.rw_loanpapers_k27_rings_by_hand.Holds := by
  w_on; o_law
  refine HandSHeadRun.head_imp (r := OpenLaw.row PySem.Challenge.rw_loanpapers_k27_rings_by_hand) (q := view (OpenLaw.row PySem.Challenge.rw_loanpapers_k27_rings_by_hand).prog [85]) (H := PdL.hk) (ob := PdL.ob) (M := 8000) (loose := PdL.loose) (d := HandSHeadRun.topDef (OpenLaw.row PySem.Challenge.rw_loanpapers_k27_rings_by_hand).prog 85) (kwd := []) PdL.ob_eq
    PdL.run (by kernel_rfl) (by kernel_rfl) (by kernel_rfl) (by rfl) (by first | assumption | decide +kernel) (by decide +kernel) ⟨rfl, rfl, rfl, rfl, rfl, by decide +kernel⟩ ?hw ?hc
  case hw => w_witness2
  case hc =>
    refine Pd.walk_ofEw (l := PySem.Challenge.rw_loanpapers_k27_rings_by_hand) (n := 63) (k := 76) (x := "script") (CX := fun w => L2.CX PdL.Pr w) rfl (by decide) (by kernel_rfl) ⟨rfl, by decide, by decide⟩ ?F (fun _ _ _ _ _ h => Pd.cx_no h)
    intro w mg fa h Y G hmg0
    obtain ⟨K, KX, c⟩ := Y
    have hmg : mg ("law" : PySem.Str) = some (.ref fa) := by
      have e : (HandSHeadRun.topDef (OpenLaw.row PySem.Challenge.rw_loanpapers_k27_rings_by_hand).prog 85).name = ("law" : PySem.Str) := by kernel_rfl
      rw [← e]
      exact hmg0
    have e := hmg.symm.trans (He.glo_ok KX G (c.d.fact 71 (f := .glo "law") rfl))
    cases e
    obtain ⟨fd, hb, hF⟩ := PdL.facts (w := w) (mg := mg) pl c.d c.more
    exact ⟨K, fd, Pd.spLaw K 63, KX, hb, fun H a ns hl _ hS => Pd.spLaw_of hl hS, hF⟩
set_option maxRecDepth 100000 in
set_option maxHeartbeats 8000000 in
theorem PySem.Challenge.cw_loanpapers_k27_rings_by_hand_holds : PySem.Challenge.rw_loanpapers_k27_rings_by_hand.Holds := by
  exact law_of PdL.pl
