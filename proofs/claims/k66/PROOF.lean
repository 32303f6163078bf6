import PyProof.Rows.All
import Wide.All
import OpenK.AllK
import Wide.FinOn
import HandS.ForMost
import HandS.Evl
import KE.KeyNested
import KE.KDictKeyed
import HandS.TupAny
import HandS.TupMul
import HandS.Wide
import HandS.Conv
import HandS.RevRange
import HandS.Deep
import HandS.IsInst
import HandS.RaiseMore
import HandS.StrMore
import HandS.Defaults
import HandS.Text
import KE.KStateDown
import HandS.HeadEnd
import HandS.HeadHook2
import HandS.Head2
import PySem.Challenge.RW_wardenworks_k66_texts_of_ratios
set_option Elab.async false
set_option linter.all false
set_option maxRecDepth 100000
set_option maxHeartbeats 4000000

namespace Lw
open PySem PySem.Spec PyProof.Rows L2 Evl

abbrev D := PyData

/-! ### results -/
structure Exc where
  cls : Value
  fs : Option (List (Str × D))
inductive R (α : Type) where
  | bad
  | ok (a : α)
  | exc (e : Exc)
def R.bind {α β : Type} (x : R α) (f : α → R β) : R β := match x with
  | .bad => .bad
  | .ok a => f a
  | .exc e => .exc e
instance : Monad R where
  pure := R.ok
  bind := R.bind
@[simp] theorem R.ok_bind {α β : Type} (a : α) (f : α → R β) : (R.ok a >>= f) = f a := (rfl)
@[simp] theorem R.bad_bind {α β : Type} (f : α → R β) : ((R.bad : R α) >>= f) = R.bad := rfl
@[simp] theorem R.exc_bind {α β : Type} (e : Exc) (f : α → R β) : ((R.exc e : R α) >>= f) = R.exc e := rfl
@[simp] theorem R.pure_ok {α : Type} (a : α) : (pure a : R α) = R.ok a := rfl
theorem R.bind_ok {α β : Type} {x : R α} {f : α → R β} {b : β} (h : (x >>= f) = .ok b) : ∃ a, x = .ok a ∧ f a = .ok b := by
  cases x with
  | bad => cases h
  | exc e => cases h
  | ok a => exact ⟨a, rfl, h⟩

/-! ### cells and environments -/
inductive Cell where
  | non
  | val (d : D)
  | own (d : D)
  | pin (d : D)
abbrev Env := List Cell
def Cell.get : Cell → R D
  | .val d => .ok d
  | .own d => .ok d
  | .pin d => .ok d
  | .non => .bad
@[simp] theorem Cell.get_val (d : D) : (Cell.val d).get = .ok d := rfl
@[simp] theorem Cell.get_own (d : D) : (Cell.own d).get = .ok d := rfl
@[simp] theorem Cell.get_pin (d : D) : (Cell.pin d).get = .ok d := rfl

/-! ### data in the heap -/
/-- a dict with tuple keys, by its one object -/
def NDict (P : Program) (w : World) (a : Addr) (ents : List (NestedKey × Addr × V)) : Heap → Prop := fun h =>
  ∃ xs : List (NestedKey × Addr × Value), Paired (fun (p : NestedKey × Addr × V) (q : NestedKey × Addr × Value) => p.1 = q.1 ∧ p.2.1 = q.2.1 ∧ RelV p.2.2 q.2.2) ents xs ∧
    ∃ o es ep, h.get? a = some o ∧ o.ExactDict ∧ o.data = .dict es ep ∧ es.toList = xs.map (entryOfKey (nestedKind P w)) ∧ (xs.map (·.1)).Nodup
/-- what the layer leans on, fixed through a law -/
structure G where
  P : Program
  w : World
  K : PySem.W.Frag
  mg : Str → Option Value
  base : Heap
def DicH (g : G) (F : Hp) (a : Addr) (ps : List (V × V)) : Prop :=
  (∃ kvs : List (Key × V), F a = some (.dK kvs) ∧ ps = kvs.map fun kv => (kV kv.1, kv.2)) ∨
  (∃ ents : List (NestedKey × Addr × V), F a = some (.ext (NDict g.P g.w a ents)) ∧ (a == sysModules) = false ∧ ents.length ≤ sizeLine ∧ ps = ents.map fun e => (V.ref e.2.1, e.2.2))
mutual
inductive Rp (g : G) (F : Hp) : V → D → Prop
  | non : Rp g F .non .none
  | bl (b : Bool) : Rp g F (.bl b) (.bool b)
  | int (i : Int) : Rp g F (.int i) (.int i)
  | str (x : Str) : Rp g F (.str x) (.str x)
  | lst {a : Addr} {xs : List V} {ds : List D} : F a = some (.lst xs) → RpL g F xs ds → Rp g F (.ref a) (.list ds)
  | tup {a : Addr} {xs : List V} {ds : List D} : SqT g.K F a xs → RpL g F xs ds → Rp g F (.ref a) (.tuple ds)
  | dic {a : Addr} {ps : List (V × V)} {kvs : List (D × D)} : DicH g F a ps → RpP g F ps kvs → Rp g F (.ref a) (.dict kvs)
  /-- the law's own list, wherever it stands: told apart from all else -/
  | scr {a : Addr} {xs : List V} {ds : List D} : SqL g.K F a xs → RpL g F xs ds → Rp g F (.ref a) (.dict [(.none, .list ds)])
inductive RpL (g : G) (F : Hp) : List V → List D → Prop
  | nil : RpL g F [] []
  | cons {v : V} {vs : List V} {d : D} {ds : List D} : Rp g F v d → RpL g F vs ds → RpL g F (v :: vs) (d :: ds)
inductive RpP (g : G) (F : Hp) : List (V × V) → List (D × D) → Prop
  | nil : RpP g F [] []
  | cons {k v : V} {ps : List (V × V)} {kd vd : D} {kvs : List (D × D)} : Rp g F k kd → Rp g F v vd → RpP g F ps kvs → RpP g F ((k, v) :: ps) ((kd, vd) :: kvs)
end
theorem DicH.mono {g : G} {F F' : Hp} (e : Ex F F') {a : Addr} {ps : List (V × V)} (h : DicH g F a ps) : DicH g F' a ps := by
  rcases h with ⟨kvs, h, q⟩ | ⟨ents, h, q⟩
  · exact .inl ⟨kvs, e _ _ h, q⟩
  · exact .inr ⟨ents, e _ _ h, q⟩
mutual
theorem Rp.mono {g : G} {F F' : Hp} (e : Ex F F') {v : V} {d : D} : Rp g F v d → Rp g F' v d
  | .non => .non
  | .bl b => .bl b
  | .int i => .int i
  | .str x => .str x
  | .lst h r => .lst (e _ _ h) (RpL.mono e r)
  | .tup h r => .tup (ex_t e h) (RpL.mono e r)
  | .dic h r => .dic (h.mono e) (RpP.mono e r)
  | .scr h r => .scr (ex_l e h) (RpL.mono e r)
theorem RpL.mono {g : G} {F F' : Hp} (e : Ex F F') {vs : List V} {ds : List D} : RpL g F vs ds → RpL g F' vs ds
  | .nil => .nil
  | .cons h r => .cons (Rp.mono e h) (RpL.mono e r)
theorem RpP.mono {g : G} {F F' : Hp} (e : Ex F F') {vs : List (V × V)} {ds : List (D × D)} : RpP g F vs ds → RpP g F' vs ds
  | .nil => .nil
  | .cons h h' r => .cons (Rp.mono e h) (Rp.mono e h') (RpP.mono e r)
end

theorem RpL.length {g : G} {F : Hp} : ∀ {vs : List V} {ds : List D}, RpL g F vs ds → vs.length = ds.length
  | _, _, .nil => rfl
  | _, _, .cons _ r => by rw [List.length_cons, List.length_cons, RpL.length r]
theorem RpL.get {g : G} {F : Hp} : ∀ {vs : List V} {ds : List D} {i : Nat} {d : D}, RpL g F vs ds → ds[i]? = some d → ∃ v, vs[i]? = some v ∧ Rp g F v d
  | _, _, _, _, .nil, e => by simp at e
  | _, _, 0, _, .cons h _, e => by simp at e; subst e; exact ⟨_, rfl, h⟩
  | _, _, i + 1, d, .cons _ r, e => by
    obtain ⟨v, h1, h2⟩ := RpL.get (i := i) (d := d) r (by simpa using e)
    exact ⟨v, by simpa using h1, h2⟩
theorem RpL.getV {g : G} {F : Hp} : ∀ {vs : List V} {ds : List D} {i : Nat} {v : V}, RpL g F vs ds → vs[i]? = some v → ∃ d, ds[i]? = some d ∧ Rp g F v d
  | _, _, _, _, .nil, e => by simp at e
  | _, _, 0, _, .cons h _, e => by simp at e; subst e; exact ⟨_, rfl, h⟩
  | _, _, i + 1, d, .cons _ r, e => by
    obtain ⟨v, h1, h2⟩ := RpL.getV (i := i) r (by simpa using e)
    exact ⟨v, by simpa using h1, h2⟩
theorem RpL.append {g : G} {F : Hp} : ∀ {vs : List V} {ds : List D} {ws : List V} {es : List D}, RpL g F vs ds → RpL g F ws es → RpL g F (vs ++ ws) (ds ++ es)
  | _, _, _, _, .nil, r => r
  | _, _, _, _, .cons h q, r => .cons h (RpL.append q r)
theorem RpL.set {g : G} {F : Hp} : ∀ {vs : List V} {ds : List D} (i : Nat) {v : V} {d : D}, RpL g F vs ds → Rp g F v d → RpL g F (vs.set i v) (ds.set i d)
  | _, _, _, _, _, .nil, _ => .nil
  | _, _, 0, _, _, .cons _ q, r => .cons r q
  | _, _, i + 1, _, _, .cons h q, r => .cons h (RpL.set i q r)
theorem RpL.take {g : G} {F : Hp} : ∀ {vs : List V} {ds : List D} (i : Nat), RpL g F vs ds → RpL g F (vs.take i) (ds.take i)
  | _, _, 0, _ => .nil
  | _, _, _ + 1, .nil => .nil
  | _, _, i + 1, .cons h q => .cons h (RpL.take i q)
theorem RpL.drop {g : G} {F : Hp} : ∀ {vs : List V} {ds : List D} (i : Nat), RpL g F vs ds → RpL g F (vs.drop i) (ds.drop i)
  | _, _, 0, q => q
  | _, _, _ + 1, .nil => .nil
  | _, _, i + 1, .cons _ q => RpL.drop i q
theorem RpL.reverse {g : G} {F : Hp} {vs : List V} {ds : List D} (h : RpL g F vs ds) : RpL g F vs.reverse ds.reverse := by
  induction vs generalizing ds with
  | nil => cases h; exact .nil
  | cons v r ih =>
    cases h with
    | cons h q =>
      rw [List.reverse_cons, List.reverse_cons]
      exact (ih q).append (.cons h .nil)

/-! ### states -/
/-- what a mutable object holds -/
def OwnOk (g : G) (F H : Hp) (a : Addr) : D → Prop
  | .list ds => ∃ vs, H a = some (.lst vs) ∧ RpL g F vs ds
  | .dict kvs => ∃ ps, DicH g H a ps ∧ RpP g F ps kvs
  | _ => False
/-- a frozen part F of H and a further one -/
structure Stp (F H F' H' : Hp) : Prop where
  f : Ex F F'
  h : Ex H H'
  i : Ex F' H'
  n : ∀ a, H a ≠ none → F a = none → F' a = none
theorem Stp.refl {F H : Hp} (i : Ex F H) : Stp F H F H := ⟨Ex.refl F, Ex.refl H, i, fun _ _ h => h⟩
theorem ex_ne {H H' : Hp} (e : Ex H H') {a : Addr} (h : H a ≠ none) : H' a ≠ none := by
  cases q : H a with
  | none => exact absurd q h
  | some o => rw [e a o q]; simp
theorem Stp.trans {F H F1 H1 F2 H2 : Hp} (a : Stp F H F1 H1) (b : Stp F1 H1 F2 H2) : Stp F H F2 H2 :=
  ⟨a.f.trans b.f, a.h.trans b.h, b.i, fun x h1 h2 => b.n x (ex_ne a.h h1) (a.n x h1 h2)⟩
/-- a value read: the cell says how -/
def CellV (g : G) (F H : Hp) (v : V) : Cell → Prop
  | .non => False
  | .val d => Rp g F v d
  | .own d => ∃ a, v = .ref a ∧ F a = none ∧ OwnOk g F H a d
  | .pin d => ∃ a, v = .ref a ∧ F a = none ∧ OwnOk g F H a d
/-- a value made: an own one is new to H -/
def ResOk (g : G) (H F' H' : Hp) (v : V) : Cell → Prop
  | .non => False
  | .val d => Rp g F' v d
  | .own d => ∃ a, v = .ref a ∧ F' a = none ∧ H a = none ∧ OwnOk g F' H' a d
  | .pin _ => False
theorem OwnOk.ne {g : G} {F H : Hp} {a : Addr} {d : D} (h : OwnOk g F H a d) : H a ≠ none := by
  cases d with
  | list ds => obtain ⟨vs, e, _⟩ := h; rw [e]; simp
  | dict kvs =>
    obtain ⟨ps, e, _⟩ := h
    rcases e with ⟨_, e, _⟩ | ⟨_, e, _⟩ <;> (rw [e]; simp)
  | _ => cases h
theorem OwnOk.mono {g : G} {F H F' H' : Hp} (e : Ex F F') (e' : Ex H H') {a : Addr} {d : D} (h : OwnOk g F H a d) : OwnOk g F' H' a d := by
  cases d with
  | list ds => obtain ⟨vs, q, r⟩ := h; exact ⟨vs, e' _ _ q, r.mono e⟩
  | dict kvs => obtain ⟨ps, q, r⟩ := h; exact ⟨ps, q.mono e', r.mono e⟩
  | _ => cases h
theorem CellV.step {g : G} {F H F' H' : Hp} (s : Stp F H F' H') {v : V} {c : Cell} (h : CellV g F H v c) : CellV g F' H' v c := by
  cases c with
  | non => exact h
  | val d => exact Rp.mono s.f h
  | own d => obtain ⟨a, e, n, o⟩ := h; exact ⟨a, e, s.n a o.ne n, o.mono s.f s.h⟩
  | pin d => obtain ⟨a, e, n, o⟩ := h; exact ⟨a, e, s.n a o.ne n, o.mono s.f s.h⟩
theorem ResOk.cell {g : G} {H F' H' : Hp} {v : V} {c : Cell} (h : ResOk g H F' H' v c) : CellV g F' H' v c := by
  cases c with
  | non => exact h
  | val d => exact h
  | own d => obtain ⟨a, e, n, _, o⟩ := h; exact ⟨a, e, n, o⟩
  | pin d => cases h
/-- an object frozen -/
theorem OwnOk.frz {g : G} {F H : Hp} (i : Ex F H) {a : Addr} {d : D} (n : F a = none) (h : OwnOk g F H a d) : ∃ o, H a = some o ∧ Ex F (upd F a o) ∧ Ex (upd F a o) H ∧ Rp g (upd F a o) (.ref a) d := by
  have key : ∀ o, H a = some o → Ex F (upd F a o) ∧ Ex (upd F a o) H := fun o e => ⟨Ex.new n, fun b u q => by
    by_cases hb : b = a
    · subst hb; rw [upd_same] at q; rw [e]; exact q
    · rw [upd_ne hb] at q; exact i b u q⟩
  cases d with
  | list ds =>
    obtain ⟨vs, e, r⟩ := h
    exact ⟨_, e, (key _ e).1, (key _ e).2, .lst upd_same (r.mono (Ex.new n))⟩
  | dict kvs =>
    obtain ⟨ps, e, r⟩ := h
    rcases e with ⟨kv, e, q⟩ | ⟨ents, e, q⟩
    · exact ⟨_, e, (key _ e).1, (key _ e).2, .dic (.inl ⟨kv, upd_same, q⟩) (r.mono (Ex.new n))⟩
    · exact ⟨_, e, (key _ e).1, (key _ e).2, .dic (.inr ⟨ents, upd_same, q⟩) (r.mono (Ex.new n))⟩
  | _ => cases h
/-- a made value frozen -/
theorem ResOk.frz {g : G} {F H F' H' : Hp} (s : Stp F H F' H') {v : V} {c : Cell} {d : D} (h : ResOk g H F' H' v c) (e : c.get = .ok d) : ∃ F'', Stp F H F'' H' ∧ Rp g F'' v d := by
  cases c with
  | non => cases h
  | val d' => cases e; exact ⟨F', s, h⟩
  | pin d' => cases h
  | own d' =>
    cases e
    obtain ⟨a, rfl, n, n0, o⟩ := h
    obtain ⟨ob, e, e1, e2, r⟩ := o.frz s.i n
    refine ⟨upd F' a ob, ⟨s.f.trans e1, s.h, e2, fun b hb hf => ?_⟩, r⟩
    have hne : b ≠ a := fun z => by subst z; exact hb n0
    rw [upd_ne hne]
    exact s.n b hb hf
/-- the slots and their cells. Q: the pinned slots, with their addresses -/
def SlotOk (g : G) (H0 F H : Hp) (x : Option (Option V)) : Cell → Prop
  | .non => True
  | .val d => ∃ v, x = some (some v) ∧ Rp g F v d
  | .own d => ∃ a, x = some (some (.ref a)) ∧ F a = none ∧ H0 a = none ∧ OwnOk g F H a d
  | .pin d => ∃ a, x = some (some (.ref a)) ∧ F a = none ∧ H0 a = none ∧ OwnOk g F H a d
def Cell.mut : Cell → Bool
  | .own _ => true
  | .pin _ => true
  | _ => false
structure Rel (g : G) (P : List (Nat × Addr)) (F0 H0 F H : Hp) (σ : L2.St) (env : Env) : Prop where
  stp : Stp F0 H0 F H
  len : σ.length = env.length
  cell : ∀ (i : Nat) (c : Cell), env[i]? = some c → SlotOk g H0 F H (σ[i]?) c
  apart : ∀ (i j : Nat) (c c' : Cell) (x : Option V), i ≠ j → env[i]? = some c → env[j]? = some c' → c.mut = true → c'.mut = true → σ[i]? = some x → σ[j]? = some x → False
  pins : ∀ p ∈ P, (∃ d, env[p.1]? = some (.pin d)) ∧ σ[p.1]? = some (some (.ref p.2))
theorem SlotOk.step {g : G} {H0 F H F' H' : Hp} (s : Stp F H F' H') {x : Option (Option V)} {c : Cell} (h : SlotOk g H0 F H x c) : SlotOk g H0 F' H' x c := by
  cases c with
  | non => exact h
  | val d => obtain ⟨v, e, r⟩ := h; exact ⟨v, e, r.mono s.f⟩
  | own d => obtain ⟨a, e, n, n0, o⟩ := h; exact ⟨a, e, s.n a o.ne n, n0, o.mono s.f s.h⟩
  | pin d => obtain ⟨a, e, n, n0, o⟩ := h; exact ⟨a, e, s.n a o.ne n, n0, o.mono s.f s.h⟩
theorem Rel.step {g : G} {P : List (Nat × Addr)} {F0 H0 F H F' H' : Hp} {σ : L2.St} {env : Env} (r : Rel g P F0 H0 F H σ env) (s : Stp F H F' H') : Rel g P F0 H0 F' H' σ env :=
  ⟨r.stp.trans s, r.len, fun i c e => (r.cell i c e).step s, r.apart, r.pins⟩
end Lw


namespace Lw
open PySem PySem.Spec PyProof.Rows L2 Evl

/-! ### judgements -/
def _root_.L2.Cx.g (X : Cx) : G := ⟨X.prog, X.w, X.K, X.mg, X.base⟩
/-- what an exception bears -/
def PayOk (g : G) (F H : Hp) (d : Option Addr) : Option (List (Str × D)) → Prop
  | none => d = none
  | some fs => ∃ dx vs, d = some dx ∧ H dx = some (.xd vs) ∧ vs.map (·.1) = fs.map (·.1) ∧ RpL g F (vs.map (·.2)) (fs.map (·.2))
def ExcOk (g : G) (E : XK) (F H : Hp) (e : Exc) : Prop := ∀ F' H' d, Stp F H F' H' → PayOk g F' H' d e.fs → E e.cls d H'
theorem ExcOk.step {g : G} {E : XK} {F H F' H' : Hp} {e : Exc} (h : ExcOk g E F H e) (s : Stp F H F' H') : ExcOk g E F' H' e := fun F'' H'' d s' p => h F'' H'' d (s.trans s') p
def VIn (g : G) (F H : Hp) (v : V) (d : D) : Prop := Rp g F v d ∨ ∃ a, v = .ref a ∧ F a = none ∧ OwnOk g F H a d
theorem VIn.step {g : G} {F H F' H' : Hp} (s : Stp F H F' H') {v : V} {d : D} (h : VIn g F H v d) : VIn g F' H' v d := by
  rcases h with h | ⟨a, e, n, o⟩
  · exact .inl (h.mono s.f)
  · exact .inr ⟨a, e, s.n a o.ne n, o.mono s.f s.h⟩
theorem ResOk.vin {g : G} {H F' H' : Hp} {v : V} {c : Cell} {d : D} (h : ResOk g H F' H' v c) (e : c.get = .ok d) : VIn g F' H' v d := by
  cases c with
  | non => cases h
  | val d' => cases e; exact .inl h
  | pin d' => cases h
  | own d' =>
    cases e
    obtain ⟨a, e, n, _, o⟩ := h
    exact .inr ⟨a, e, n, o⟩
theorem ResOk.back {g : G} {H H1 F' H' : Hp} {v : V} {c : Cell} (i : Ex H H1) (ro : ResOk g H1 F' H' v c) : ResOk g H F' H' v c := by
  cases c with
  | non => exact ro
  | val d => exact ro
  | pin d => exact ro
  | own d =>
    obtain ⟨ad, e, n, n0, o⟩ := ro
    exact ⟨ad, e, n, fresh_back i n0, o⟩
/-- the two ways out of what a meaning says -/
def Ways {α : Type} (g : G) (E : XK) (F H : Hp) (r : R α) (Q : α → Prop) : Prop := (∃ c, r = .ok c ∧ Q c) ∨ ∃ e, r = .exc e ∧ ExcOk g E F H e
theorem Ways.bind {α β : Type} {g : G} {E : XK} {F H : Hp} {x : R α} {f : α → R β} {Q : β → Prop} (h : Ways g E F H (x >>= f) Q) : Ways g E F H x fun a => Ways g E F H (f a) Q := by
  cases x with
  | bad => rcases h with ⟨_, z, _⟩ | ⟨_, z, _⟩ <;> cases z
  | exc ex =>
    rcases h with ⟨_, z, _⟩ | ⟨_, z, q⟩
    · cases z
    · cases z; exact .inr ⟨_, rfl, q⟩
  | ok a => exact .inl ⟨a, rfl, h⟩
theorem Ways.mono {α : Type} {g : G} {E : XK} {F H : Hp} {r : R α} {Q Q' : α → Prop} (h : Ways g E F H r Q) (i : ∀ a, r = .ok a → Q a → Q' a) : Ways g E F H r Q' := by
  rcases h with ⟨c, e, q⟩ | h
  · exact .inl ⟨c, e, i c e q⟩
  · exact .inr h
theorem Ways.step {α : Type} {g : G} {E : XK} {F H F' H' : Hp} {r : R α} {Q : α → Prop} (h : Ways g E F H r Q) (s : Stp F H F' H') : Ways g E F' H' r Q := by
  rcases h with h | ⟨e, z, q⟩
  · exact .inl h
  · exact .inr ⟨e, z, q.step s⟩
theorem Ways.get {α : Type} {g : G} {E : XK} {F H : Hp} {r : R α} {Q : α → Prop} (h : Ways g E F H r Q) (nx : ∀ e, r ≠ .exc e) : ∃ c, r = .ok c ∧ Q c := by
  rcases h with h | ⟨e, z, _⟩
  · exact h
  · exact absurd z (nx e)
/-- an expression's, a reading one's, a test's, an argument list's reading, by what it means -/
def tE (g : G) (E : XK) (m : Env → R Cell) : TE := fun σ H Q => ∃ P F0 H0 F env, Rel g P F0 H0 F H σ env ∧ Ways g E F H (m env) fun c => ∀ v F' H', Stp F H F' H' → ResOk g H F' H' v c → Q v H'
def tRd (g : G) (E : XK) (m : Env → R D) : TE := fun σ H Q => ∃ P F0 H0 F env, Rel g P F0 H0 F H σ env ∧ Ways g E F H (m env) fun d => ∀ v F' H', Stp F H F' H' → VIn g F' H' v d → Q v H'
def tBo (g : G) (E : XK) (m : Env → R Bool) : TT := fun σ H Q => ∃ P F0 H0 F env, Rel g P F0 H0 F H σ env ∧ Ways g E F H (m env) fun b => ∀ F' H', Stp F H F' H' → Q b H'
def tAr (g : G) (E : XK) (m : Env → R (List D)) : TA := fun σ H Q => ∃ P F0 H0 F env, Rel g P F0 H0 F H σ env ∧ Ways g E F H (m env) fun ds => ∀ vs F' H', Stp F H F' H' → RpL g F' vs ds → Q vs H'
def XE (X : Cx) (E : XK) (e : Expr) (m : Env → R Cell) : Prop := PE X e (tE X.g E m)
def XR (X : Cx) (E : XK) (e : Expr) (m : Env → R D) : Prop := PE X e (tRd X.g E m)
def XT (X : Cx) (E : XK) (e : Expr) (m : Env → R Bool) : Prop := PT X e (tBo X.g E m)
def XA (X : Cx) (E : XK) (es : List Expr) (m : Env → R (List D)) : Prop := PA X es (tAr X.g E m)
theorem pe_of {X : Cx} {e : Expr} {t t' : TE} (h : PE X e t) (i : ∀ σ H Q, t' σ H Q → t σ H Q) : PE X e t' := ⟨fun pins s σ H Q I q => h.run pins s σ H Q I (i σ H Q q)⟩
theorem pt_of {X : Cx} {e : Expr} {t t' : TT} (h : PT X e t) (i : ∀ σ H Q, t' σ H Q → t σ H Q) : PT X e t' := ⟨fun pins s σ H Q I q => h.run pins s σ H Q I (i σ H Q q)⟩
theorem pw_of {X : Cx} {e : Expr} {t t' : TT} (h : PW X e t) (i : ∀ σ H Q, t' σ H Q → t σ H Q) : PW X e t' := ⟨fun wh pins s σ H Q I q => h.run wh pins s σ H Q I (i σ H Q q)⟩
theorem pa_of {X : Cx} {es : List Expr} {t t' : TA} (h : PA X es t) (i : ∀ σ H Q, t' σ H Q → t σ H Q) : PA X es t' := ⟨fun p pins s σ H Q I q => h.run p pins s σ H Q I (i σ H Q q)⟩
theorem ps_of {X : Cx} {st : Stmt} {t t' : TS} (h : PS X st t) (i : ∀ D σ H, t' D σ H → t D σ H) : PS X st t' := ⟨fun pins s σ H D I q => h.run pins s σ H D I (i D σ H q)⟩
theorem pss_of {X : Cx} {st : List Stmt} {t t' : TS} (h : PSs X st t) (i : ∀ D σ H, t' D σ H → t D σ H) : PSs X st t' := ⟨fun pins s σ H D I q => h.run pins s σ H D I (i D σ H q)⟩

section
variable {X : Cx} {E : XK} {e a b : Expr} {es : List Expr} {pos : Pos}

/-! ### names, constants -/
def eVar (i : Nat) : Env → R Cell := fun env => match env[i]? with
  | some (.val d) => .ok (.val d)
  | _ => .bad
def rVar (i : Nat) : Env → R D := fun env => match env[i]? with
  | some c => c.get
  | _ => .bad
theorem Rel.val {g : G} {P F0 H0 F H σ env} (r : Rel g P F0 H0 F H σ env) {i : Nat} {d : D} (h : env[i]? = some (.val d)) : ∃ v, σ[i]? = some (some v) ∧ Rp g F v d := r.cell i _ h
theorem xe_var (i : Nat) {x : Str} (hN : X.N[i]? = some x) (hv : Vis X.env.scope x) (hd : (x == ("__debug__" : Str)) = false := by decide) (hcd : (x == ("__classdict__" : Str)) = false := by decide) : XE X E (.Name x pos) (eVar i) :=
  pe_of (pe_var hN hv hd hcd) fun σ H Q ⟨P, F0, H0, F, env, r, q⟩ => by
    unfold eVar at q
    split at q
    · rename_i d hd
      obtain ⟨c, e, q⟩ := q.get (fun e z => by cases z)
      cases e
      obtain ⟨v, hv, rv⟩ := r.val hd
      exact ⟨v, hv, q v F H (Stp.refl r.stp.i) rv⟩
    · obtain ⟨c, e, q⟩ := q.get (fun e z => by cases z)
      cases e
theorem xr_var (i : Nat) {x : Str} (hN : X.N[i]? = some x) (hv : Vis X.env.scope x) (hd : (x == ("__debug__" : Str)) = false := by decide) (hcd : (x == ("__classdict__" : Str)) = false := by decide) : XR X E (.Name x pos) (rVar i) :=
  pe_of (pe_var hN hv hd hcd) fun σ H Q ⟨P, F0, H0, F, env, r, q⟩ => by
    unfold rVar at q
    cases hc : env[i]? with
    | none =>
      rw [hc] at q
      obtain ⟨_, e, _⟩ := q.get (fun e z => by cases z)
      cases e
    | some c =>
      rw [hc] at q
      have s := r.cell i c hc
      obtain ⟨d, e, q2⟩ := q.get (fun e z => by cases c <;> cases z)
      clear q
      cases c with
      | non => cases e
      | val d =>
        cases e
        obtain ⟨v, hv, rv⟩ := s
        exact ⟨v, hv, q2 v F H (Stp.refl r.stp.i) (.inl rv)⟩
      | own d =>
        cases e
        obtain ⟨ad, hv, n, _, o⟩ := s
        exact ⟨_, hv, q2 _ F H (Stp.refl r.stp.i) (.inr ⟨ad, rfl, n, o⟩)⟩
      | pin d =>
        cases e
        obtain ⟨ad, hv, n, _, o⟩ := s
        exact ⟨_, hv, q2 _ F H (Stp.refl r.stp.i) (.inr ⟨ad, rfl, n, o⟩)⟩
def eC (d : D) : Env → R Cell := fun _ => .ok (.val d)
theorem xe_const {v : V} {d : D} (h : PE X e (tC v)) (r : ∀ F, Rp X.g F v d) : XE X E e (eC d) :=
  pe_of h fun σ H Q ⟨P, F0, H0, F, env, rl, q⟩ => by
    obtain ⟨c, e, q⟩ := q.get (fun e z => by cases z)
    cases e
    exact q v F H (Stp.refl rl.stp.i) (r F)
theorem xe_int {i j} : XE X E (.Constant (.int i) j pos) (eC (.int i)) := xe_const pe_int fun _ => .int i
theorem xe_bl {b j} : XE X E (.Constant (.bool b) j pos) (eC (.bool b)) := xe_const pe_bl fun _ => .bl b
theorem xe_non {j} : XE X E (.Constant .none j pos) (eC .none) := xe_const pe_non fun _ => .non
theorem xe_str {x j} : XE X E (.Constant (.str x) j pos) (eC (.str x)) := xe_const pe_str fun _ => .str x
/-- a module's int -/
theorem xe_globI {x : Str} {i : Int} {t : Tok} (hg : Gl X x) (hm : X.mg x = some (.int i t)) (hd : (x == ("__debug__" : Str)) = false := by decide) : XE X E (.Name x pos) (eC (.int i)) := xe_const (pe_glob (v := .int i) hg hm ⟨t, rfl⟩ hd) fun _ => .int i

/-! ### reading what is made -/
def rOf (m : Env → R Cell) : Env → R D := fun env => m env >>= Cell.get
theorem get_nox (c : Cell) (e : Exc) : c.get ≠ .exc e := by cases c <;> intro z <;> cases z
theorem xr_of {m : Env → R Cell} (h : XE X E e m) : XR X E e (rOf m) :=
  pe_of h fun σ H Q ⟨P, F0, H0, F, env, r, q⟩ => ⟨P, F0, H0, F, env, r, q.bind.mono fun c _ w v F' H' s ro => by
    obtain ⟨d, z, q⟩ := w.get (get_nox c)
    exact q v F' H' s (ro.vin z)⟩

/-! ### operators, by values -/
/-- what an operator gives on data -/
def rO (g : G) (f : D → D → R Cell) : R2 := fun x y H Q => ∃ F d1 d2 c, Ex F H ∧ VIn g F H x d1 ∧ VIn g F H y d2 ∧ f d1 d2 = .ok c ∧ ∀ v F' H', Stp F H F' H' → ResOk g H F' H' v c → Q v H'
def rO1 (g : G) (f : D → R Cell) : V → Hp → VK → Prop := fun x H Q => ∃ F d c, Ex F H ∧ VIn g F H x d ∧ f d = .ok c ∧ ∀ v F' H', Stp F H F' H' → ResOk g H F' H' v c → Q v H'
def eBin (f : D → D → R Cell) (ma mb : Env → R D) : Env → R Cell := fun env => do
  let x ← ma env
  let y ← mb env
  f x y
def eUn (f : D → R Cell) (ma : Env → R D) : Env → R Cell := fun env => do
  let x ← ma env
  f x
/-- an operator that raises nothing -/
def NoX2 {α : Type} (f : D → D → R α) : Prop := ∀ x y e, f x y ≠ .exc e
def NoX1 {α : Type} (f : D → R α) : Prop := ∀ x e, f x ≠ .exc e
theorem tOp_of {f : D → D → R Cell} {ma mb : Env → R D} {g : G} {σ : L2.St} {H : Hp} {Q : VK} (nx : NoX2 f) (h : tE g E (eBin f ma mb) σ H Q) : tOp (rO g f) (tRd g E ma) (tRd g E mb) σ H Q := by
  obtain ⟨P, F0, H0, F, env, r, q⟩ := h
  refine ⟨P, F0, H0, F, env, r, (Ways.bind q).mono fun d1 _ w v F1 H1 s1 v1 => ?_⟩
  refine ⟨P, F0, H0, F1, env, r.step s1, ((Ways.bind w).step s1).mono fun d2 _ w u F2 H2 s2 v2 => ?_⟩
  obtain ⟨c, z, q⟩ := w.get (nx d1 d2)
  exact ⟨F2, d1, d2, c, s2.i, v1.step s2, v2, z, fun w F3 H3 s3 ro => q w F3 H3 ((s1.trans s2).trans s3) (ro.back (s1.h.trans s2.h))⟩
theorem xe_bin {op : Operator} {f : D → D → R Cell} {ma mb : Env → R D} (ho : OpR X (binaryOp op) (rO X.g f)) (nx : NoX2 f) (ha : XR X E a ma) (hb : XR X E b mb) : XE X E (.BinOp a op b pos) (eBin f ma mb) :=
  pe_of (pe_op ho ha hb) fun σ H Q h => tOp_of nx h
theorem xe_cmp {op : CmpOp} {f : D → D → R Cell} {ma mb : Env → R D} (ho : OpR X (compareOp op) (rO X.g f)) (nx : NoX2 f) (ha : XR X E a ma) (hb : XR X E b mb) (hm : behindInMarks op b = false) : XE X E (.Compare a [op] [b] pos) (eBin f ma mb) :=
  pe_of (pe_cmpR ho ha hb hm) fun σ H Q h => tOp_of nx h
theorem tUn_of {f : D → R Cell} {ma : Env → R D} {g : G} {σ : L2.St} {H : Hp} {Q : VK} (nx : NoX1 f) (h : tE g E (eUn f ma) σ H Q) : tUn (rO1 g f) (tRd g E ma) σ H Q := by
  obtain ⟨P, F0, H0, F, env, r, q⟩ := h
  refine ⟨P, F0, H0, F, env, r, (Ways.bind q).mono fun d1 _ w v F1 H1 s1 v1 => ?_⟩
  obtain ⟨c, z, q⟩ := w.get (nx d1)
  exact ⟨F1, d1, c, s1.i, v1, z, fun w F3 H3 s3 ro => q w F3 H3 (s1.trans s3) (ro.back s1.h)⟩
theorem xe_un {op : UnaryOp} {f : D → R Cell} {ma : Env → R D} (ho : UnR X (unaryOp op) (rO1 X.g f)) (nx : NoX1 f) (ha : XR X E a ma) : XE X E (.UnaryOp op a pos) (eUn f ma) :=
  pe_of (pe_un ho ha) fun σ H Q h => tUn_of nx h

/-! ### truth -/
def bOf (m : Env → R D) : Env → R Bool := fun env => do
  match ← m env with
  | .bool b => .ok b
  | _ => .bad
theorem VIn.bl {g : G} {F H : Hp} {v : V} {b : Bool} (h : VIn g F H v (.bool b)) : v = .bl b := by
  rcases h with h | ⟨a, _, _, o⟩
  · cases h; rfl
  · cases o
theorem VIn.int {g : G} {F H : Hp} {v : V} {b : Int} (h : VIn g F H v (.int b)) : v = .int b := by
  rcases h with h | ⟨a, _, _, o⟩
  · cases h; rfl
  · cases o
theorem VIn.str {g : G} {F H : Hp} {v : V} {b : Str} (h : VIn g F H v (.str b)) : v = .str b := by
  rcases h with h | ⟨a, _, _, o⟩
  · cases h; rfl
  · cases o
theorem VIn.non {g : G} {F H : Hp} {v : V} (h : VIn g F H v .none) : v = .non := by
  rcases h with h | ⟨a, _, _, o⟩
  · cases h; rfl
  · cases o
theorem VIn.lst {g : G} {F H : Hp} {v : V} {ds : List D} (i : Ex F H) (h : VIn g F H v (.list ds)) : ∃ a vs, v = .ref a ∧ H a = some (.lst vs) ∧ RpL g F vs ds := by
  rcases h with h | ⟨a, e, _, o⟩
  · cases h with | lst h r => exact ⟨_, _, rfl, i _ _ h, r⟩
  · obtain ⟨vs, o, r⟩ := o
    exact ⟨a, vs, e, o, r⟩
theorem VIn.tup {g : G} {F H : Hp} {v : V} {ds : List D} (i : Ex F H) (h : VIn g F H v (.tuple ds)) : ∃ a vs, v = .ref a ∧ SqT g.K F a vs ∧ RpL g F vs ds := by
  rcases h with h | ⟨a, e, _, o⟩
  · cases h with | tup h r => exact ⟨_, _, rfl, h, r⟩
  · cases o
def isScr : List (D × D) → Bool
  | [(.none, .list _)] => true
  | _ => false
theorem VIn.dic {g : G} {F H : Hp} {v : V} {kvs : List (D × D)} (i : Ex F H) (hk : isScr kvs = false) (h : VIn g F H v (.dict kvs)) : ∃ a ps, v = .ref a ∧ DicH g H a ps ∧ RpP g F ps kvs := by
  rcases h with h | ⟨a, e, _, o⟩
  · cases h with
    | dic h r => exact ⟨_, _, rfl, h.mono i, r⟩
    | scr h r => cases hk
  · obtain ⟨ps, o, r⟩ := o
    exact ⟨a, ps, e, o, r⟩
theorem rpp_none {g : G} {F : Hp} {ps : List (V × V)} {d : D} (r : RpP g F ps [(.none, d)]) : ∃ v, ps = [(.non, v)] := by
  cases r with | cons h1 h2 h3 =>
  cases h1
  cases h3
  exact ⟨_, rfl⟩
theorem dicH_none {g : G} {F : Hp} {a : Addr} {v : V} (h : DicH g F a [(.non, v)]) : False := by
  rcases h with ⟨kvs, _, e⟩ | ⟨ents, _, _, _, e⟩
  · cases kvs with
    | nil => cases e
    | cons k r =>
      rw [List.map_cons] at e
      injection e with e1 _
      injection e1 with e2 _
      cases h : k.1 <;> (rw [h] at e2; cases e2)
  · cases ents with
    | nil => cases e
    | cons k r =>
      rw [List.map_cons] at e
      injection e with e1 _
      injection e1 with e2 _
      cases e2
/-- the law's list -/
theorem VIn.scr {g : G} {F H : Hp} {v : V} {ds : List D} (i : Ex F H) (h : VIn g F H v (.dict [(.none, .list ds)])) : ∃ a vs, v = .ref a ∧ SqL g.K H a vs ∧ RpL g F vs ds := by
  rcases h with h | ⟨a, e, _, o⟩
  · cases h with
    | dic h r =>
      obtain ⟨v, rfl⟩ := rpp_none r
      exact (dicH_none h).elim
    | scr h r => exact ⟨_, _, rfl, ex_l i h, r⟩
  · obtain ⟨ps, o, r⟩ := o
    obtain ⟨v, rfl⟩ := rpp_none r
    exact (dicH_none o).elim
/-- what gives a bool, as a test -/
theorem tB_of {m : Env → R D} {g : G} {σ : L2.St} {H : Hp} {Q : Bool → Hp → Prop} (h : tBo g E (bOf m) σ H Q) : tB (tRd g E m) σ H Q := by
  obtain ⟨P, F0, H0, F, env, r, q⟩ := h
  refine ⟨P, F0, H0, F, env, r, (Ways.bind q).mono fun d _ w v F1 H1 s1 v1 => ?_⟩
  cases d with
  | bool b =>
    obtain ⟨c, z, q⟩ := w.get (fun e z => by cases z)
    cases z
    exact ⟨b, v1.bl, q F1 H1 s1⟩
  | _ => obtain ⟨c, z, q⟩ := w.get (fun e z => by cases z); cases z
theorem xt_val {m : Env → R D} (h : XR X E e m) (he : ∀ whole, isTrue e X.env whole = (do let v ← whole; standAt e.pos; holding [v] (truthy v))) : XT X E e (bOf m) :=
  pt_of (pt_val h he) fun σ H Q h => tB_of h
theorem xt_cmp {op : CmpOp} {f : D → D → R Cell} {ma mb : Env → R D} (ho : OpR X (compareOp op) (rO X.g f)) (nx : NoX2 f) (ha : XR X E a ma) (hb : XR X E b mb) (hm : behindInMarks op b = false) : XT X E (.Compare a [op] [b] pos) (bOf (rOf (eBin f ma mb))) := by
  refine pt_of (pt_cmpR ho ha hb hm) fun σ H Q h => ?_
  obtain ⟨P, F0, H0, F, env, r, q⟩ := h
  refine tOp_of nx ⟨P, F0, H0, F, env, r, ?_⟩
  refine (Ways.bind (Ways.bind q)).mono fun c _ w v F1 H1 s1 v1 => ?_
  obtain ⟨d, z, w⟩ := w.get (get_nox c)
  cases d with
  | bool b =>
    obtain ⟨c, z', q⟩ := w.get (fun e z => by cases z)
    cases z'
    exact ⟨b, (v1.vin z).bl, q F1 H1 s1⟩
  | _ => obtain ⟨c, z, q⟩ := w.get (fun e z => by cases z); cases z
def bNot (m : Env → R Bool) : Env → R Bool := fun env => do return !(← m env)
theorem xt_not {m : Env → R Bool} (h : XT X E a m) : XT X E (.UnaryOp .Not a pos) (bNot m) := by
  refine pt_of (pt_not h) fun σ H Q h => ?_
  obtain ⟨P, F0, H0, F, env, r, q⟩ := h
  refine ⟨P, F0, H0, F, env, r, (Ways.bind q).mono fun b _ w F1 H1 s1 => ?_⟩
  obtain ⟨c, z, q⟩ := w.get (fun e z => by cases z)
  cases z
  exact q F1 H1 s1
def XW (X : Cx) (E : XK) (e : Expr) (m : Env → R Bool) : Prop := PW X e (tBo X.g E m)
theorem XW.xt {m : Env → R Bool} (h : XW X E e m) : XT X E e m := PW.pt h
def bAnd (m n : Env → R Bool) : Env → R Bool := fun env => do
  if ← m env then n env else return false
def bOr (m n : Env → R Bool) : Env → R Bool := fun env => do
  if ← m env then return true else n env
variable {rest : List Expr}
theorem xw_and1 {m : Env → R Bool} (h : XT X E a m) : XW X E (.BoolOp .And [a] pos) m := pw_and1 h
theorem xw_or1 {m : Env → R Bool} (h : XT X E a m) : XW X E (.BoolOp .Or [a] pos) m := pw_or1 h
theorem xw_and {m n : Env → R Bool} (h : XT X E a m) (h' : XW X E (.BoolOp .And (b :: rest) pos) n) : XW X E (.BoolOp .And (a :: b :: rest) pos) (bAnd m n) := by
  refine pw_of (pw_and h h') fun σ H Q h => ?_
  obtain ⟨P, F0, H0, F, env, r, q⟩ := h
  refine ⟨P, F0, H0, F, env, r, (Ways.bind q).mono fun k _ w F1 H1 s1 => ?_⟩
  cases k with
  | true => exact ⟨P, F0, H0, F1, env, r.step s1, (w.step s1).mono fun c _ q F2 H2 s2 => q F2 H2 (s1.trans s2)⟩
  | false =>
    obtain ⟨c, z, q⟩ := w.get (fun e z => by cases z)
    cases z
    exact q F1 H1 s1
theorem xw_or {m n : Env → R Bool} (h : XT X E a m) (h' : XW X E (.BoolOp .Or (b :: rest) pos) n) : XW X E (.BoolOp .Or (a :: b :: rest) pos) (bOr m n) := by
  refine pw_of (pw_or h h') fun σ H Q h => ?_
  obtain ⟨P, F0, H0, F, env, r, q⟩ := h
  refine ⟨P, F0, H0, F, env, r, (Ways.bind q).mono fun k _ w F1 H1 s1 => ?_⟩
  cases k with
  | false => exact ⟨P, F0, H0, F1, env, r.step s1, (w.step s1).mono fun c _ q F2 H2 s2 => q F2 H2 (s1.trans s2)⟩
  | true =>
    obtain ⟨c, z, q⟩ := w.get (fun e z => by cases z)
    cases z
    exact q F1 H1 s1
/-- .. as values, all but the last bools -/
def dB (b : Bool) : Cell := .val (.bool b)
def eAnd (m : Env → R D) (n : Env → R Cell) : Env → R Cell := fun env => do
  match ← m env with
  | .bool true => n env
  | .bool false => return dB false
  | _ => .bad
def eOr (m : Env → R D) (n : Env → R Cell) : Env → R Cell := fun env => do
  match ← m env with
  | .bool true => return dB true
  | .bool false => n env
  | _ => .bad
def eNot (m : Env → R D) : Env → R Cell := fun env => do
  match ← m env with
  | .bool b => return dB (!b)
  | _ => .bad
theorem xe_one {op} {m : Env → R Cell} (h : XE X E a m) : XE X E (.BoolOp op [a] pos) m := pe_one h
theorem xe_and {m : Env → R D} {n : Env → R Cell} (h : XR X E a m) (h' : XE X E (.BoolOp .And (b :: rest) pos) n) : XE X E (.BoolOp .And (a :: b :: rest) pos) (eAnd m n) := by
  refine pe_of (pe_and h h') fun σ H Q h => ?_
  obtain ⟨P, F0, H0, F, env, r, q⟩ := h
  refine ⟨P, F0, H0, F, env, r, (Ways.bind q).mono fun k _ w v F1 H1 s1 v1 => ?_⟩
  cases k with
  | bool k =>
    refine ⟨k, v1.bl, ?_⟩
    cases k with
    | true => exact ⟨P, F0, H0, F1, env, r.step s1, (w.step s1).mono fun c _ q v F2 H2 s2 ro => q v F2 H2 (s1.trans s2) (ro.back s1.h)⟩
    | false =>
      obtain ⟨c, z, q⟩ := w.get (fun e z => by cases z)
      cases z
      exact q _ F1 H1 s1 (Rp.bl false)
  | _ => obtain ⟨c, z, q⟩ := w.get (fun e z => by cases z); cases z
theorem xe_or {m : Env → R D} {n : Env → R Cell} (h : XR X E a m) (h' : XE X E (.BoolOp .Or (b :: rest) pos) n) : XE X E (.BoolOp .Or (a :: b :: rest) pos) (eOr m n) := by
  refine pe_of (pe_or h h') fun σ H Q h => ?_
  obtain ⟨P, F0, H0, F, env, r, q⟩ := h
  refine ⟨P, F0, H0, F, env, r, (Ways.bind q).mono fun k _ w v F1 H1 s1 v1 => ?_⟩
  cases k with
  | bool k =>
    refine ⟨k, v1.bl, ?_⟩
    cases k with
    | false => exact ⟨P, F0, H0, F1, env, r.step s1, (w.step s1).mono fun c _ q v F2 H2 s2 ro => q v F2 H2 (s1.trans s2) (ro.back s1.h)⟩
    | true =>
      obtain ⟨c, z, q⟩ := w.get (fun e z => by cases z)
      cases z
      exact q _ F1 H1 s1 (Rp.bl true)
  | _ => obtain ⟨c, z, q⟩ := w.get (fun e z => by cases z); cases z
theorem xe_not {m : Env → R D} (h : XR X E a m) : XE X E (.UnaryOp .Not a pos) (eNot m) := by
  refine pe_of (pe_not h) fun σ H Q h => ?_
  obtain ⟨P, F0, H0, F, env, r, q⟩ := h
  refine ⟨P, F0, H0, F, env, r, (Ways.bind q).mono fun k _ w v F1 H1 s1 v1 => ?_⟩
  cases k with
  | bool k =>
    obtain ⟨c, z, q⟩ := w.get (fun e z => by cases z)
    cases z
    exact ⟨k, v1.bl, q _ F1 H1 s1 (Rp.bl _)⟩
  | _ => obtain ⟨c, z, q⟩ := w.get (fun e z => by cases z); cases z
def eIf (t : Env → R Bool) (m n : Env → R Cell) : Env → R Cell := fun env => do
  if ← t env then m env else n env
theorem xe_if {c : Expr} {t : Env → R Bool} {m n : Env → R Cell} (hc : XT X E c t) (ha : XE X E a m) (hb : XE X E b n) : XE X E (.IfExp c a b pos) (eIf t m n) := by
  refine pe_of (pe_ifExp hc ha hb) fun σ H Q h => ?_
  obtain ⟨P, F0, H0, F, env, r, q⟩ := h
  refine ⟨P, F0, H0, F, env, r, (Ways.bind q).mono fun k _ w F1 H1 s1 => ?_⟩
  cases k with
  | false => exact ⟨P, F0, H0, F1, env, r.step s1, (w.step s1).mono fun c _ q v F2 H2 s2 ro => q v F2 H2 (s1.trans s2) (ro.back s1.h)⟩
  | true => exact ⟨P, F0, H0, F1, env, r.step s1, (w.step s1).mono fun c _ q v F2 H2 s2 ro => q v F2 H2 (s1.trans s2) (ro.back s1.h)⟩

/-! ### argument lists, displays -/
def aNil : Env → R (List D) := fun _ => .ok []
def aCons (m : Env → R Cell) (n : Env → R (List D)) : Env → R (List D) := fun env => do
  let c ← m env
  let d ← c.get
  let ds ← n env
  return d :: ds
theorem xa_nil : XA X E [] aNil := pa_of pa_nil fun σ H Q ⟨P, F0, H0, F, env, r, q⟩ => by
  obtain ⟨c, z, q⟩ := q.get (fun e z => by cases z)
  cases z
  exact q [] F H (Stp.refl r.stp.i) .nil
theorem xa_cons {m : Env → R Cell} {n : Env → R (List D)} (h : XE X E e m) (h' : XA X E es n) (hs : starEach (e :: es) X.env = (false, eval e X.env) :: starEach es X.env := by rfl) : XA X E (e :: es) (aCons m n) := by
  refine pa_of (pa_cons h h' hs) fun σ H Q h => ?_
  obtain ⟨P, F0, H0, F, env, r, q⟩ := h
  refine ⟨P, F0, H0, F, env, r, (Ways.bind q).mono fun c _ w v F1 H1 s1 v1 => ?_⟩
  obtain ⟨d, z, w⟩ := (Ways.bind w).get (get_nox c)
  obtain ⟨F2, s2, rv⟩ := v1.frz s1 z
  refine ⟨P, F0, H0, F2, env, r.step s2, ((Ways.bind w).step s2).mono fun ds _ w vs F3 H3 s3 rs => ?_⟩
  obtain ⟨_, z', q⟩ := w.get (fun e z => by cases z)
  cases z'
  exact q (v :: vs) F3 H3 (s2.trans s3) (.cons (rv.mono s3.f) rs)
def small (n : Nat) : Prop := n ≤ sizeLine
instance (n : Nat) : Decidable (small n) := inferInstanceAs (Decidable (n ≤ sizeLine))
def eTup (m : Env → R (List D)) : Env → R Cell := fun env => do
  let ds ← m env
  if small ds.length then return .val (.tuple ds) else .bad
def eLst (m : Env → R (List D)) : Env → R Cell := fun env => do
  let ds ← m env
  if small ds.length then return .own (.list ds) else .bad
/-- a new object -/
theorem Stp.new {F H : Hp} (i : Ex F H) {p : Addr} {o : HO} (n : H p = none) : Stp F H (upd F p o) (upd H p o) :=
  ⟨Ex.new (fresh_back i n), Ex.new n, fun a u q => by
    by_cases h : a = p
    · subst h; rw [upd_same] at q ⊢; exact q
    · rw [upd_ne h] at q ⊢; exact i a u q, fun a h1 h2 => by
    have h : a ≠ p := fun z => by subst z; exact h1 n
    rw [upd_ne h]; exact h2⟩
theorem Stp.own {F H : Hp} (i : Ex F H) {p : Addr} {o : HO} (n : H p = none) : Stp F H F (upd H p o) :=
  ⟨Ex.refl F, Ex.new n, i.trans (Ex.new n), fun _ _ h => h⟩
theorem if_ok {α : Type} {p : Prop} [Decidable p] {a b : α} (h : (if p then R.ok a else R.bad) = .ok b) : p ∧ a = b := by
  split at h
  · cases h; exact ⟨by assumption, rfl⟩
  · cases h
theorem if_nox {α : Type} {p : Prop} [Decidable p] {a : α} (e : Exc) : (if p then R.ok a else R.bad) ≠ .exc e := by split <;> intro z <;> cases z
theorem xe_tup {m : Env → R (List D)} {x1} (h : XA X E es m) : XE X E (.Tuple es x1 pos) (eTup m) := by
  refine pe_of (pe_tup h) fun σ H Q h => ?_
  obtain ⟨P, F0, H0, F, env, r, q⟩ := h
  refine ⟨P, F0, H0, F, env, r, (Ways.bind q).mono fun ds _ w vs F1 H1 s1 rs => ?_⟩
  obtain ⟨c, z, q⟩ := w.get (if_nox (a := Cell.val (.tuple ds)))
  obtain ⟨sm, rfl⟩ := if_ok (a := Cell.val (.tuple ds)) z
  refine ⟨by rw [rs.length]; exact sm, fun p hp => q _ (upd F1 p (.tup vs)) _ (s1.trans (Stp.new s1.i hp)) (Rp.tup (.inl (.inl upd_same)) (rs.mono (Ex.new (fresh_back s1.i hp))))⟩
theorem xe_lst {m : Env → R (List D)} (h : XA X E es m) : XE X E (.List es pos) (eLst m) := by
  refine pe_of (pe_lst h) fun σ H Q h => ?_
  obtain ⟨P, F0, H0, F, env, r, q⟩ := h
  refine ⟨P, F0, H0, F, env, r, (Ways.bind q).mono fun ds _ w vs F1 H1 s1 rs => ?_⟩
  obtain ⟨c, z, q⟩ := w.get (if_nox (a := Cell.own (.list ds)))
  obtain ⟨sm, rfl⟩ := if_ok (a := Cell.own (.list ds)) z
  refine ⟨by rw [rs.length]; exact sm, fun p hp => q _ F1 _ (s1.trans (Stp.own s1.i hp)) ⟨p, rfl, fresh_back s1.i hp, fresh_back s1.h hp, vs, upd_same, rs⟩⟩
end
end Lw


namespace Lw
open PySem PySem.Spec PyProof.Rows L2 Evl

/-! ### + - * // % ** -/
def fAdd : D → D → R Cell
  | .int i, .int j => .ok (.val (.int (i + j)))
  | .str x, .str y => if small (x.length + y.length) then .ok (.val (.str (x ++ y))) else .bad
  | .list xs, .list ys => if small (xs.length + ys.length) then .ok (.own (.list (xs ++ ys))) else .bad
  | .tuple xs, .tuple ys => if small (xs.length + ys.length) then .ok (.val (.tuple (xs ++ ys))) else .bad
  | _, _ => .bad
def fSub : D → D → R Cell
  | .int i, .int j => .ok (.val (.int (i - j)))
  | _, _ => .bad
/-- * : ints of together less than 100000000 bits; a list or a tuple times an int -/
def MulOk (i j : Int) : Prop := i.natAbs.log2 + j.natAbs.log2 < 100000000
instance (i j : Int) : Decidable (MulOk i j) := inferInstanceAs (Decidable (_ < _))
def RepOk (n : Nat) (k : Int) : Prop := -(2 ^ 63) ≤ k ∧ k < 2 ^ 63 ∧ n * k.toNat ≤ sizeLine
instance (n : Nat) (k : Int) : Decidable (RepOk n k) := inferInstanceAs (Decidable (_ ∧ _ ∧ _))
def fMul : D → D → R Cell
  | .int i, .int j => if MulOk i j then .ok (.val (.int (i * j))) else .bad
  | .list xs, .int k => if RepOk xs.length k then .ok (.own (.list (List.replicate k.toNat xs).flatten)) else .bad
  | _, _ => .bad
/-- // : a positive divisor below 2 ^ 9000 -/
def DivOk (j : Int) : Prop := 0 < j ∧ j.natAbs.log2 < 9000
instance (j : Int) : Decidable (DivOk j) := inferInstanceAs (Decidable (_ ∧ _))
def fDiv : D → D → R Cell
  | .int i, .int j => if DivOk j then .ok (.val (.int (i / j))) else .bad
  | _, _ => .bad
def fMod : D → D → R Cell
  | .int i, .int j => if 0 < j then .ok (.val (.int (i % j))) else .bad
  | _, _ => .bad
def PowOk (i j : Int) : Prop := 0 ≤ j ∧ j ≤ 1000000 ∧ i.natAbs < 2 ^ 64
instance (i j : Int) : Decidable (PowOk i j) := inferInstanceAs (Decidable (_ ∧ _ ∧ _))
def fPow : D → D → R Cell
  | .int i, .int j => if PowOk i j then .ok (.val (.int (i ^ j.toNat))) else .bad
  | _, _ => .bad
theorem nox_add : NoX2 fAdd := fun x y e => by
  unfold fAdd
  split <;> first | exact if_nox e | (intro z; cases z)
theorem nox_sub : NoX2 fSub := fun x y e => by
  unfold fSub
  split <;> (intro z; cases z)
theorem nox_mul : NoX2 fMul := fun x y e => by
  unfold fMul
  split <;> first | exact if_nox e | (intro z; cases z)
theorem nox_div : NoX2 fDiv := fun x y e => by
  unfold fDiv
  split <;> first | exact if_nox e | (intro z; cases z)
theorem nox_mod : NoX2 fMod := fun x y e => by
  unfold fMod
  split <;> first | exact if_nox e | (intro z; cases z)
theorem nox_pow : NoX2 fPow := fun x y e => by
  unfold fPow
  split <;> first | exact if_nox e | (intro z; cases z)
section
variable {X : Cx}
theorem RpL.rep {g : G} {F : Hp} {vs : List V} {ds : List D} (h : RpL g F vs ds) : ∀ k : Nat, RpL g F (List.replicate k vs).flatten (List.replicate k ds).flatten
  | 0 => .nil
  | k + 1 => by
    rw [List.replicate_succ, List.replicate_succ, List.flatten_cons, List.flatten_cons]
    exact h.append (RpL.rep h k)
theorem op_mulB : OpR X (binaryOp .Mult) (rI MulOk fun i j => .int (i * j)) := opI fun i j _ _ _ _ _ hc q => mul_int q (by
  have b : ∀ x : Int, Builtin.Int.intBits x ≤ x.natAbs.log2 + 1 := fun x => by
    unfold Builtin.Int.intBits
    split <;> omega
  have h1 := b i
  have h2 := b j
  have h3 : i.natAbs.log2 + j.natAbs.log2 < 100000000 := hc
  have e : bitsLine = 134217728 := by decide
  unfold IntMulOk
  intro z
  rw [Bool.and_eq_true] at z
  have z2 := z.2
  unfold Builtin.Int.intTooBig at z2
  have z3 := of_decide_eq_true z2
  rw [e] at z3
  omega)
theorem op_addM : OpR X (binaryOp .Add) (rO X.g fAdd) := by
  intro pins s σ H x y v u Q I rx ry h
  obtain ⟨F, d1, d2, c, i, v1, v2, e, q⟩ := h
  unfold fAdd at e
  split at e
  · cases e
    rename_i a b
    exact op_add pins s σ H x y v u Q I rx ry ⟨a, b, v1.int, v2.int, q _ F H (Stp.refl i) (Rp.int _)⟩
  · rename_i a b
    obtain ⟨hs, rfl⟩ := if_ok e
    exact op_add_str pins s σ H x y v u Q I rx ry ⟨a, b, v1.str, v2.str, hs, q _ F H (Stp.refl i) (Rp.str _)⟩
  · rename_i a b
    obtain ⟨hs, rfl⟩ := if_ok e
    obtain ⟨l, vs, rfl, h1, r1⟩ := v1.lst i
    obtain ⟨l2, vs2, rfl, h2, r2⟩ := v2.lst i
    refine op_cat pins s σ H _ _ v u Q I rx ry ⟨l, l2, vs, vs2, rfl, rfl, h1, h2, by rw [r1.length, r2.length]; exact hs, fun p hp => q _ F _ (Stp.own i hp) ⟨p, rfl, fresh_back i hp, hp, _, upd_same, r1.append r2⟩⟩
  · rename_i a b
    obtain ⟨hs, rfl⟩ := if_ok e
    obtain ⟨l, vs, rfl, h1, r1⟩ := v1.tup i
    obtain ⟨l2, vs2, rfl, h2, r2⟩ := v2.tup i
    refine op_catA pins s σ H _ _ v u Q I rx ry ⟨l, l2, vs, vs2, rfl, rfl, ex_t i h1, ex_t i h2, by rw [r1.length, r2.length]; exact hs, fun z => ?_, fun z1 z2 => ?_, fun z1 z2 p hp => ?_⟩
    · subst z
      cases r1
      exact q _ F H (Stp.refl i) (Rp.tup h2 r2)
    · subst z2
      cases r2
      exact q _ F H (Stp.refl i) (Rp.tup h1 (by rw [List.append_nil]; exact r1))
    · exact q _ (upd F p _) _ (Stp.new i hp) (Rp.tup (.inl (.inl upd_same)) ((r1.append r2).mono (Ex.new (fresh_back i hp))))
  · cases e
theorem op_subM : OpR X (binaryOp .Sub) (rO X.g fSub) := by
  intro pins s σ H x y v u Q I rx ry h
  obtain ⟨F, d1, d2, c, i, v1, v2, e, q⟩ := h
  unfold fSub at e
  split at e
  · cases e
    rename_i a b
    exact op_sub pins s σ H x y v u Q I rx ry ⟨a, b, v1.int, v2.int, q _ F H (Stp.refl i) (Rp.int _)⟩
  · cases e
theorem op_mulM : OpR X (binaryOp .Mult) (rO X.g fMul) := by
  intro pins s σ H x y v u Q I rx ry h
  obtain ⟨F, d1, d2, c, i, v1, v2, e, q⟩ := h
  unfold fMul at e
  split at e
  · rename_i a b
    obtain ⟨hs, rfl⟩ := if_ok e
    exact op_mulB pins s σ H x y v u Q I rx ry ⟨a, b, v1.int, v2.int, hs, q _ F H (Stp.refl i) (Rp.int _)⟩
  · rename_i a b
    obtain ⟨hs, rfl⟩ := if_ok e
    obtain ⟨l, vs, rfl, h1, r1⟩ := v1.lst i
    have h2 := v2.int
    subst h2
    exact op_rep pins s σ H _ _ v u Q I rx ry ⟨l, b, vs, rfl, rfl, h1, hs.1, hs.2.1, by rw [r1.length]; exact hs.2.2, fun p hp => q _ F _ (Stp.own i hp) ⟨p, rfl, fresh_back i hp, hp, _, upd_same, r1.rep _⟩⟩
  · cases e
theorem op_divM : OpR X (binaryOp .FloorDiv) (rO X.g fDiv) := by
  intro pins s σ H x y v u Q I rx ry h
  obtain ⟨F, d1, d2, c, i, v1, v2, e, q⟩ := h
  unfold fDiv at e
  split at e
  · rename_i a b
    obtain ⟨hs, rfl⟩ := if_ok e
    exact op_fdivW pins s σ H x y v u Q I rx ry ⟨a, b, v1.int, v2.int, hs, q _ F H (Stp.refl i) (Rp.int _)⟩
  · cases e
theorem op_modM : OpR X (binaryOp .Mod) (rO X.g fMod) := by
  intro pins s σ H x y v u Q I rx ry h
  obtain ⟨F, d1, d2, c, i, v1, v2, e, q⟩ := h
  unfold fMod at e
  split at e
  · rename_i a b
    obtain ⟨hs, rfl⟩ := if_ok e
    exact op_mod pins s σ H x y v u Q I rx ry ⟨a, b, v1.int, v2.int, hs, q _ F H (Stp.refl i) (Rp.int _)⟩
  · cases e
theorem op_powM : OpR X (binaryOp .Pow) (rO X.g fPow) := by
  intro pins s σ H x y v u Q I rx ry h
  obtain ⟨F, d1, d2, c, i, v1, v2, e, q⟩ := h
  unfold fPow at e
  split at e
  · rename_i a b
    obtain ⟨hs, rfl⟩ := if_ok e
    exact op_pow pins s σ H x y v u Q I rx ry ⟨a, b, v1.int, v2.int, hs, q _ F H (Stp.refl i) (Rp.int _)⟩
  · cases e
def fNeg : D → R Cell
  | .int i => .ok (.val (.int (-i)))
  | _ => .bad
theorem nox_neg : NoX1 fNeg := fun x e => by
  unfold fNeg
  split <;> (intro z; cases z)
theorem un_negM : UnR X (unaryOp .USub) (rO1 X.g fNeg) := by
  intro pins s σ H x v Q I rx h
  obtain ⟨F, d1, c, i, v1, e, q⟩ := h
  unfold fNeg at e
  split at e
  · cases e
    rename_i a
    exact un_neg pins s σ H x v Q I rx ⟨a, v1.int, q _ F H (Stp.refl i) (Rp.int _)⟩
  · cases e

/-! ### comparisons -/
def fLt : D → D → R Cell
  | .int i, .int j => .ok (dB (decide (i < j)))
  | _, _ => .bad
def fLe : D → D → R Cell
  | .int i, .int j => .ok (dB (decide (i ≤ j)))
  | _, _ => .bad
def fGt : D → D → R Cell
  | .int i, .int j => .ok (dB (decide (j < i)))
  | _, _ => .bad
def fGe : D → D → R Cell
  | .int i, .int j => .ok (dB (decide (j ≤ i)))
  | _, _ => .bad
/-- no dict within, not too deep -/
def fEq (x y : D) : R Cell := if SeqAt.shaped x = true ∧ SeqAt.shaped y = true then .ok (dB (PyData.eqv x y)) else .bad
def fNe (x y : D) : R Cell := if SeqAt.shaped x = true ∧ SeqAt.shaped y = true then .ok (dB (!PyData.eqv x y)) else .bad
def isNon : D → Bool
  | .none => true
  | _ => false
def fIsN (x y : D) : R Cell := match y with
  | .none => .ok (dB (isNon x))
  | _ => .bad
def fNotN (x y : D) : R Cell := match y with
  | .none => .ok (dB (!isNon x))
  | _ => .bad
theorem nox_lt : NoX2 fLt := fun x y e => by
  unfold fLt
  split <;> (intro z; cases z)
theorem nox_le : NoX2 fLe := fun x y e => by
  unfold fLe
  split <;> (intro z; cases z)
theorem nox_gt : NoX2 fGt := fun x y e => by
  unfold fGt
  split <;> (intro z; cases z)
theorem nox_ge : NoX2 fGe := fun x y e => by
  unfold fGe
  split <;> (intro z; cases z)
theorem nox_eq : NoX2 fEq := fun x y e => if_nox e
theorem nox_ne : NoX2 fNe := fun x y e => if_nox e
theorem nox_isN : NoX2 fIsN := fun x y e => by
  unfold fIsN
  split <;> (intro z; cases z)
theorem nox_notN : NoX2 fNotN := fun x y e => by
  unfold fNotN
  split <;> (intro z; cases z)
theorem opCmp {op : CmpOp} {p : Int → Int → Bool} {f : D → D → R Cell} (h : OpR X (compareOp op) (rI0 fun i j => .bl (p i j))) (hf : ∀ x y c, f x y = .ok c → ∃ i j, x = .int i ∧ y = .int j ∧ c = dB (p i j)) : OpR X (compareOp op) (rO X.g f) := by
  intro pins s σ H x y v u Q I rx ry h'
  obtain ⟨F, d1, d2, c, i, v1, v2, e, q⟩ := h'
  obtain ⟨a, b, rfl, rfl, rfl⟩ := hf _ _ _ e
  exact h pins s σ H x y v u Q I rx ry ⟨a, b, v1.int, v2.int, q _ F H (Stp.refl i) (Rp.bl _)⟩
theorem op_ltM : OpR X (compareOp .Lt) (rO X.g fLt) := opCmp op_lt fun x y c e => by
  unfold fLt at e
  split at e <;> cases e
  exact ⟨_, _, rfl, rfl, rfl⟩
theorem op_leM : OpR X (compareOp .LtE) (rO X.g fLe) := opCmp op_le fun x y c e => by
  unfold fLe at e
  split at e <;> cases e
  exact ⟨_, _, rfl, rfl, rfl⟩
theorem op_gtM : OpR X (compareOp .Gt) (rO X.g fGt) := opCmp op_gt fun x y c e => by
  unfold fGt at e
  split at e <;> cases e
  exact ⟨_, _, rfl, rfl, rfl⟩
theorem op_geM : OpR X (compareOp .GtE) (rO X.g fGe) := opCmp op_ge fun x y c e => by
  unfold fGe at e
  split at e <;> cases e
  exact ⟨_, _, rfl, rfl, rfl⟩
/-! data without dicts, as the library's own -/
mutual
theorem Rp.dp {g : G} {F : Hp} {v : V} {d : D} (hd : d.canLay0 = true) : Rp g F v d → Dp g.K F v d
  | .non => .non
  | .bl b => .bl b
  | .int i => .int i
  | .str x => .str x
  | .lst h r => .lst (.inl (.inl h)) (RpL.dp (by simpa [PyData.canLay0] using hd) r)
  | .tup h r => .tup h (RpL.dp (by simpa [PyData.canLay0] using hd) r)
  | .dic h r => by simp [PyData.canLay0] at hd
  | .scr h r => by simp [PyData.canLay0] at hd
theorem RpL.dp {g : G} {F : Hp} {vs : List V} {ds : List D} (hd : PyData.canLayAll0 ds = true) : RpL g F vs ds → DpAll g.K F vs ds
  | .nil => .nil
  | .cons h r => .cons (Rp.dp (by simp [PyData.canLayAll0] at hd; exact hd.1) h) (RpL.dp (by simp [PyData.canLayAll0] at hd; exact hd.2) r)
end
end
end Lw


namespace Lw
open PySem PySem.Spec PyProof.Rows L2 Evl
section
variable {X : Cx} {E : XK} {e a b : Expr} {es : List Expr} {pos : Pos}

/-! ### == and != -/
def eqR (k : Bool → Bool) : D → D → R Cell
  | .int a, .int b => .ok (dB (k (decide (a = b))))
  | .str a, .str b => .ok (dB (k (decide (a = b))))
  | .bool a, .bool b => .ok (dB (k (decide (a = b))))
  | x, y => if SeqAt.shaped x = true ∧ SeqAt.shaped y = true then .ok (dB (k (PyData.eqv x y))) else .bad
def fEqq : D → D → R Cell := eqR id
def fNeq : D → D → R Cell := eqR not
theorem nox_eqq : NoX2 fEqq := fun x y e => by
  unfold fEqq eqR
  split <;> first | exact if_nox e | (intro z; cases z)
theorem nox_neq : NoX2 fNeq := fun x y e => by
  unfold fNeq eqR
  split <;> first | exact if_nox e | (intro z; cases z)
theorem OwnOk.dp {g : G} {F H : Hp} (i : Ex F H) {a : Addr} {d : D} (hd : d.canLay0 = true) (o : OwnOk g F H a d) : Dp g.K H (.ref a) d := by
  cases d with
  | list ds =>
    obtain ⟨vs, o, r⟩ := o
    exact .lst (.inl (.inl o)) (RpL.dp (by simpa [PyData.canLay0] using hd) (r.mono i))
  | dict _ => simp [PyData.canLay0] at hd
  | _ => cases o
theorem VIn.dp {g : G} {F H : Hp} (i : Ex F H) {v : V} {d : D} (hd : SeqAt.shaped d = true) (h : VIn g F H v d) : Dp g.K H v d := by
  have hd := SeqAt.canLay_of_shaped hd
  rcases h with h | ⟨a, rfl, _, o⟩
  · exact (h.mono i).dp hd
  · exact o.dp i hd
theorem op_eqM (hu : X.A.units + 64 < cLine) : OpR X (compareOp .Eq) (rO X.g fEqq) := by
  intro pins s σ H x y v u Q I rx ry h
  obtain ⟨F, d1, d2, c, i, v1, v2, e, q⟩ := h
  unfold fEqq eqR at e
  split at e
  · cases e
    have q := q _ F H (Stp.refl i) (Rp.bl _)
    rw [v1.int] at rx; rw [v2.int] at ry
    exact op_eq pins s σ H _ _ v u Q I rx ry ⟨rfl, by simpa using q⟩
  · cases e
    have q := q _ F H (Stp.refl i) (Rp.bl _)
    rw [v1.str] at rx; rw [v2.str] at ry
    exact op_eq pins s σ H _ _ v u Q I rx ry ⟨rfl, by simpa using q⟩
  · cases e
    have q := q _ F H (Stp.refl i) (Rp.bl _)
    rw [v1.bl] at rx; rw [v2.bl] at ry
    exact op_eq pins s σ H _ _ v u Q I rx ry ⟨rfl, by simpa using q⟩
  · obtain ⟨hs, rfl⟩ := if_ok e
    exact op_eqD hu pins s σ H x y v u Q I rx ry ⟨d1, d2, v1.dp i hs.1, v2.dp i hs.2, hs.1, hs.2, q _ F H (Stp.refl i) (Rp.bl _)⟩
theorem op_neM (hu : X.A.units + 64 < cLine) : OpR X (compareOp .NotEq) (rO X.g fNeq) := by
  intro pins s σ H x y v u Q I rx ry h
  obtain ⟨F, d1, d2, c, i, v1, v2, e, q⟩ := h
  unfold fNeq eqR at e
  split at e
  · cases e
    have q := q _ F H (Stp.refl i) (Rp.bl _)
    rw [v1.int] at rx; rw [v2.int] at ry
    exact op_ne pins s σ H _ _ v u Q I rx ry ⟨rfl, by simpa using q⟩
  · cases e
    have q := q _ F H (Stp.refl i) (Rp.bl _)
    rw [v1.str] at rx; rw [v2.str] at ry
    exact op_ne pins s σ H _ _ v u Q I rx ry ⟨rfl, by simpa using q⟩
  · cases e
    have q := q _ F H (Stp.refl i) (Rp.bl _)
    rw [v1.bl] at rx; rw [v2.bl] at ry
    exact op_ne pins s σ H _ _ v u Q I rx ry ⟨rfl, by simpa using q⟩
  · obtain ⟨hs, rfl⟩ := if_ok e
    exact op_neD hu pins s σ H x y v u Q I rx ry ⟨d1, d2, v1.dp i hs.1, v2.dp i hs.2, hs.1, hs.2, q _ F H (Stp.refl i) (Rp.bl _)⟩
theorem isNon_of {g : G} {F H : Hp} {v : V} {d : D} (h : VIn g F H v d) : decide (v = V.non) = isNon d := by
  rcases h with h | ⟨a, rfl, _, o⟩
  · cases h <;> rfl
  · cases d <;> first | rfl | cases o
theorem op_isNM : OpR X (compareOp .Is) (rO X.g fIsN) := by
  intro pins s σ H x y v u Q I rx ry h
  obtain ⟨F, d1, d2, c, i, v1, v2, e, q⟩ := h
  unfold fIsN at e
  split at e
  · cases e
    exact op_isN pins s σ H x y v u Q I rx ry ⟨v2.non, by rw [isNon_of v1]; exact q _ F H (Stp.refl i) (Rp.bl _)⟩
  · cases e
theorem op_notNM : OpR X (compareOp .IsNot) (rO X.g fNotN) := by
  intro pins s σ H x y v u Q I rx ry h
  obtain ⟨F, d1, d2, c, i, v1, v2, e, q⟩ := h
  unfold fNotN at e
  split at e
  · cases e
    exact op_notN pins s σ H x y v u Q I rx ry ⟨v2.non, by rw [isNon_of v1]; exact q _ F H (Stp.refl i) (Rp.bl _)⟩
  · cases e

/-! ### in, for texts and lists -/
def hasStr (x y : Str) : Bool := !(Builtin.Str.occurrences y x 0 y.length 1).isEmpty
def inR (k : Bool → Bool) : D → D → R Cell
  | .str x, .str y => .ok (dB (k (hasStr x y)))
  | d, .list ds => if SeqAt.shaped d = true ∧ SeqAt.shaped (.list ds) = true then .ok (dB (k (ds.any fun z => PyData.eqv z d))) else .bad
  | _, _ => .bad
def fIn : D → D → R Cell := inR id
def fNin : D → D → R Cell := inR not
theorem nox_in : NoX2 fIn := fun x y e => by
  unfold fIn inR
  split <;> first | exact if_nox e | (intro z; cases z)
theorem nox_nin : NoX2 fNin := fun x y e => by
  unfold fNin inR
  split <;> first | exact if_nox e | (intro z; cases z)
theorem op_inM (hu : X.A.units + 65 < cLine) : OpR X (compareOp .In) (rO X.g fIn) := by
  intro pins s σ H x y v u Q I rx ry h
  obtain ⟨F, d1, d2, c, i, v1, v2, e, q⟩ := h
  unfold fIn inR at e
  split at e
  · cases e
    exact op_in_str pins s σ H x y v u Q I rx ry ⟨_, _, v1.str, v2.str, q _ F H (Stp.refl i) (Rp.bl _)⟩
  · obtain ⟨hs, rfl⟩ := if_ok e
    exact op_inD hu pins s σ H x y v u Q I rx ry ⟨_, _, v1.dp i hs.1, v2.dp i hs.2, hs.1, hs.2, q _ F H (Stp.refl i) (Rp.bl _)⟩
  · cases e
theorem op_ninM (hu : X.A.units + 65 < cLine) : OpR X (compareOp .NotIn) (rO X.g fNin) := by
  intro pins s σ H x y v u Q I rx ry h
  obtain ⟨F, d1, d2, c, i, v1, v2, e, q⟩ := h
  unfold fNin inR at e
  split at e
  · cases e
    exact op_notIn_str pins s σ H x y v u Q I rx ry ⟨_, _, v1.str, v2.str, q _ F H (Stp.refl i) (Rp.bl _)⟩
  · obtain ⟨hs, rfl⟩ := if_ok e
    exact op_notInD hu pins s σ H x y v u Q I rx ry ⟨_, _, v1.dp i hs.1, v2.dp i hs.2, hs.1, hs.2, q _ F H (Stp.refl i) (Rp.bl _)⟩
  · cases e

/-! ### a[i] -/
def fIx : D → D → R Cell
  | .dict [(.none, .list xs)], .int i => match atI xs i with | some d => .ok (.val d) | none => .bad
  | .list xs, .int i => match atI xs i with | some d => .ok (.val d) | none => .bad
  | .tuple xs, .int i => match atI xs i with | some d => .ok (.val d) | none => .bad
  | .str x, .int i => if small x.length then (match atI x.cps.toList i with | some c => .ok (.val (.str ⟨#[c]⟩)) | none => .bad) else .bad
  | _, _ => .bad
theorem nox_ix : NoX2 fIx := fun x y e => by
  unfold fIx
  split
  · split <;> (intro z; cases z)
  · split <;> (intro z; cases z)
  · split <;> (intro z; cases z)
  · split
    · split <;> (intro z; cases z)
    · intro z; cases z
  · intro z; cases z
theorem RpL.atI {g : G} {F : Hp} {vs : List V} {ds : List D} {i : Int} {d : D} (h : RpL g F vs ds) (e : L2.atI ds i = some d) : ∃ v, L2.atI vs i = some v ∧ Rp g F v d := by
  unfold L2.atI at e ⊢
  rw [h.length]
  cases hk : ixN ds.length i with
  | none => rw [hk] at e; cases e
  | some j =>
    rw [hk] at e
    exact h.get (i := j) e
theorem ix_seqM : IxR X (rO X.g fIx) := by
  intro ve sl pins s σ H x y v u Q I rx ry h hsub
  obtain ⟨F, d1, d2, c, i, v1, v2, e, q⟩ := h
  unfold fIx at e
  split at e
  · split at e
    · cases e
      rename_i hd
      obtain ⟨p, vs, rfl, h1, r1⟩ := v1.scr i
      obtain ⟨w, hw, rw'⟩ := r1.atI hd
      exact ix_list ve sl pins s σ H _ y v u Q I rx ry ⟨p, vs, _, w, rfl, v2.int, h1, hw, q _ F H (Stp.refl i) rw'⟩ hsub
    · cases e
  · split at e
    · cases e
      rename_i hd
      obtain ⟨p, vs, rfl, h1, r1⟩ := v1.lst i
      obtain ⟨w, hw, rw'⟩ := r1.atI hd
      exact ix_list ve sl pins s σ H _ y v u Q I rx ry ⟨p, vs, _, w, rfl, v2.int, .inl (.inl h1), hw, q _ F H (Stp.refl i) rw'⟩ hsub
    · cases e
  · split at e
    · cases e
      rename_i hd
      obtain ⟨p, vs, rfl, h1, r1⟩ := v1.tup i
      obtain ⟨w, hw, rw'⟩ := r1.atI hd
      exact ix_tup ve sl pins s σ H _ y v u Q I rx ry ⟨p, vs, _, w, rfl, v2.int, ex_t i h1, hw, q _ F H (Stp.refl i) rw'⟩ hsub
    · cases e
  · split at e
    · rename_i hz
      split at e
      · cases e
        rename_i hd
        exact ix_str ve sl pins s σ H _ y v u Q I rx ry ⟨_, _, _, v1.str, v2.int, hz, hd, q _ F H (Stp.refl i) (Rp.str _)⟩ hsub
      · cases e
    · cases e
  · cases e
theorem xe_ix {ma mb : Env → R D} (ha : XR X E a ma) (hb : XR X E b mb) (hs : PlainIx b) : XE X E (.Subscript a b pos) (eBin fIx ma mb) :=
  pe_of (pe_ix ix_seqM ha hb hs) fun σ H Q h => tOp_of nox_ix h

/-! ### slices -/
def cutD {α : Type} (xs : List α) (lo hi : Option Int) : List α := (xs.drop (HT.sIx xs.length 0 lo)).take (HT.sIx xs.length xs.length hi - HT.sIx xs.length 0 lo)
theorem RpL.cut {g : G} {F : Hp} {vs : List V} {ds : List D} (h : RpL g F vs ds) (lo hi : Option Int) : RpL g F (cutV vs lo hi) (cutD ds lo hi) := by
  unfold cutV cutD
  rw [h.length]
  exact (h.drop _).take _
def oNone : Env → R (Option Int) := fun _ => .ok none
def oSome (m : Env → R D) : Env → R (Option Int) := fun env => do
  match ← m env with
  | .int i => .ok (some i)
  | _ => .bad
def tOo (g : G) (E : XK) (m : Env → R (Option Int)) : TO := fun σ H Q => ∃ P F0 H0 F env, Rel g P F0 H0 F H σ env ∧ Ways g E F H (m env) fun o => ∀ F' H', Stp F H F' H' → Q o H'
def XO (X : Cx) (E : XK) (e : Option Expr) (m : Env → R (Option Int)) : Prop := PO X e (tOo X.g E m)
theorem po_of {e : Option Expr} {t t' : TO} (h : PO X e t) (i : ∀ σ H Q, t' σ H Q → t σ H Q) : PO X e t' := ⟨fun pins s σ H Q I q => h.run pins s σ H Q I (i σ H Q q)⟩
theorem xo_none : XO X E none oNone := po_of po_none fun σ H Q ⟨P, F0, H0, F, env, r, q⟩ => by
  obtain ⟨c, z, q⟩ := q.get (fun e z => by cases z)
  cases z
  exact q F H (Stp.refl r.stp.i)
theorem xo_some {m : Env → R D} (h : XR X E e m) : XO X E (some e) (oSome m) := by
  refine po_of (po_some h) fun σ H Q ⟨P, F0, H0, F, env, r, q⟩ => ?_
  refine ⟨P, F0, H0, F, env, r, (Ways.bind q).mono fun d _ w v F1 H1 s1 v1 => ?_⟩
  cases d with
  | int i =>
    obtain ⟨c, z, q⟩ := w.get (fun e z => by cases z)
    cases z
    exact ⟨i, v1.int, q F1 H1 s1⟩
  | _ => obtain ⟨c, z, q⟩ := w.get (fun e z => by cases z); cases z
def fSl (d : D) (lo hi : Option Int) : R Cell := match d with
  | .list xs => .ok (.own (.list (cutD xs lo hi)))
  | .tuple xs => .ok (.val (.tuple (cutD xs lo hi)))
  | .str x => if small x.length then .ok (.val (.str ⟨(cutD x.cps.toList lo hi).toArray⟩)) else .bad
  | _ => .bad
def eSl (m : Env → R D) (lo hi : Env → R (Option Int)) : Env → R Cell := fun env => do
  let d ← m env
  let l ← lo env
  let h ← hi env
  fSl d l h
theorem fSl_nox (d : D) (l h : Option Int) (e : Exc) : fSl d l h ≠ .exc e := by
  unfold fSl
  split <;> first | exact if_nox e | (intro z; cases z)
def rSlM (g : G) : V → Option Int → Option Int → Hp → VK → Prop := fun x lo hi H Q => ∃ F d c, Ex F H ∧ VIn g F H x d ∧ fSl d lo hi = .ok c ∧ ∀ v F' H', Stp F H F' H' → ResOk g H F' H' v c → Q v H'
theorem sl_M : SlR X (rSlM X.g) := by
  intro pins s σ H x v vl vu lo hi sl Q I rx hs pl pu h
  obtain ⟨F, d, c, i, v1, e, q⟩ := h
  unfold fSl at e
  split at e
  · cases e
    obtain ⟨a, vs, rfl, h1, r1⟩ := v1.lst i
    exact sl_list pins s σ H _ v vl vu lo hi sl Q I rx hs pl pu ⟨a, vs, rfl, .inl (.inl h1), fun p hp => q _ F _ (Stp.own i hp) ⟨p, rfl, fresh_back i hp, hp, _, upd_same, r1.cut lo hi⟩⟩
  · cases e
    obtain ⟨a, vs, rfl, h1, r1⟩ := v1.tup i
    refine sl_tupA pins s σ H _ v vl vu lo hi sl Q I rx hs pl pu ⟨a, vs, rfl, ex_t i h1, fun hw => ?_, fun hw p hp => ?_⟩
    · refine q _ F H (Stp.refl i) (Rp.tup h1 ?_)
      have e : cutV vs lo hi = vs := by
        unfold cutV
        rw [hw.1, hw.2, List.drop_zero, Nat.sub_zero, List.take_length]
      have := r1.cut lo hi
      rwa [e] at this
    · exact q _ (upd F p _) _ (Stp.new i hp) (Rp.tup (.inl (.inl upd_same)) ((r1.cut lo hi).mono (Ex.new (fresh_back i hp))))
  · obtain ⟨hz, rfl⟩ := if_ok e
    refine sl_str pins s σ H _ v vl vu lo hi sl Q I rx hs pl pu ⟨_, v1.str, hz, q _ F H (Stp.refl i) ?_⟩
    have := Rp.str (g := X.g) (F := F) (cutS ‹Str› lo hi)
    unfold cutS at this
    unfold cutD
    exact this
  · cases e
theorem xe_sl {m : Env → R D} {lo hi : Option Expr} {ml mh : Env → R (Option Int)} {p2 : Pos} (h : XR X E e m) (hl : XO X E lo ml) (hh : XO X E hi mh) : XE X E (.Subscript e (.Slice lo hi none p2) pos) (eSl m ml mh) := by
  refine pe_of (pe_slice sl_M h hl hh) fun σ H Q ⟨P, F0, H0, F, env, r, q⟩ => ?_
  refine ⟨P, F0, H0, F, env, r, (Ways.bind q).mono fun d _ w v F1 H1 s1 v1 => ?_⟩
  refine ⟨P, F0, H0, F1, env, r.step s1, ((Ways.bind w).step s1).mono fun l _ w F2 H2 s2 => ?_⟩
  refine ⟨P, F0, H0, F2, env, (r.step s1).step s2, ((Ways.bind w).step (s1.trans s2)).mono fun u _ w F3 H3 s3 => ?_⟩
  obtain ⟨c, z, q⟩ := w.get (fSl_nox d l u)
  exact ⟨F3, d, c, s3.i, (v1.step s2).step s3, z, fun v F4 H4 s4 ro => q v F4 H4 (((s1.trans s2).trans s3).trans s4) (ro.back ((s1.trans s2).trans s3).h)⟩

/-! ### calls of what is built in: the arguments are read -/
inductive VInL (g : G) (F H : Hp) : List V → List D → Prop
  | nil : VInL g F H [] []
  | cons {v : V} {vs : List V} {d : D} {ds : List D} : VIn g F H v d → VInL g F H vs ds → VInL g F H (v :: vs) (d :: ds)
theorem VInL.step {g : G} {F H F' H' : Hp} (s : Stp F H F' H') : ∀ {vs : List V} {ds : List D}, VInL g F H vs ds → VInL g F' H' vs ds
  | _, _, .nil => .nil
  | _, _, .cons h r => .cons (h.step s) (VInL.step s r)
def tArR (g : G) (E : XK) (m : Env → R (List D)) : TA := fun σ H Q => ∃ P F0 H0 F env, Rel g P F0 H0 F H σ env ∧ Ways g E F H (m env) fun ds => ∀ vs F' H', Stp F H F' H' → VInL g F' H' vs ds → Q vs H'
def XAr (X : Cx) (E : XK) (es : List Expr) (m : Env → R (List D)) : Prop := PA X es (tArR X.g E m)
def arCons (m : Env → R D) (n : Env → R (List D)) : Env → R (List D) := fun env => do
  let d ← m env
  let ds ← n env
  return d :: ds
theorem xar_nil : XAr X E [] aNil := pa_of pa_nil fun σ H Q ⟨P, F0, H0, F, env, r, q⟩ => by
  obtain ⟨c, z, q⟩ := q.get (fun e z => by cases z)
  cases z
  exact q [] F H (Stp.refl r.stp.i) .nil
theorem xar_cons {m : Env → R D} {n : Env → R (List D)} (h : XR X E e m) (h' : XAr X E es n) (hs : starEach (e :: es) X.env = (false, eval e X.env) :: starEach es X.env := by rfl) : XAr X E (e :: es) (arCons m n) := by
  refine pa_of (pa_cons h h' hs) fun σ H Q h => ?_
  obtain ⟨P, F0, H0, F, env, r, q⟩ := h
  refine ⟨P, F0, H0, F, env, r, (Ways.bind q).mono fun d _ w v F1 H1 s1 v1 => ?_⟩
  refine ⟨P, F0, H0, F1, env, r.step s1, ((Ways.bind w).step s1).mono fun ds _ w vs F3 H3 s3 rs => ?_⟩
  obtain ⟨_, z', q⟩ := w.get (fun e z => by cases z)
  cases z'
  exact q (v :: vs) F3 H3 (s1.trans s3) (.cons (v1.step s3) rs)
def NoXL (f : List D → R Cell) : Prop := ∀ x e, f x ≠ .exc e
def rC (g : G) (f : List D → R Cell) : List V → Hp → VK → Prop := fun vs H Q => ∃ F ds c, Ex F H ∧ VInL g F H vs ds ∧ f ds = .ok c ∧ ∀ v F' H', Stp F H F' H' → ResOk g H F' H' v c → Q v H'
def eCb (f : List D → R Cell) (m : Env → R (List D)) : Env → R Cell := fun env => do
  let ds ← m env
  f ds
theorem tCB_of {f : List D → R Cell} {m : Env → R (List D)} {g : G} {σ : L2.St} {H : Hp} {Q : VK} (nx : NoXL f) (h : tE g E (eCb f m) σ H Q) : tCB (rC g f) (tArR g E m) σ H Q := by
  obtain ⟨P, F0, H0, F, env, r, q⟩ := h
  refine ⟨P, F0, H0, F, env, r, (Ways.bind q).mono fun ds _ w vs F1 H1 s1 v1 => ?_⟩
  obtain ⟨c, z, q⟩ := w.get (nx ds)
  exact ⟨F1, ds, c, s1.i, v1, z, fun w F3 H3 s3 ro => q w F3 H3 (s1.trans s3) (ro.back s1.h)⟩
theorem xe_cb {id : String} {x : Str} {p : Pos} {f : List D → R Cell} {m : Env → R (List D)} (hc : CallR X (.builtin id) (rC X.g f)) (nx : NoXL f) (hg : Gl X x) (hm : X.mg x = none) (hv : bootBuiltins x = some (.builtin id)) (ha : XAr X E (e :: es) m) (hn : x ≠ "__name__" := by decide) (hdb : (x == ("__debug__" : Str)) = false := by decide)
    (he : starEach (e :: es) X.env = (false, eval e X.env) :: starEach es X.env := by rfl) (hpl : (backTo pos (starEach es X.env)).any (·.1) = false := by rfl) : XE X E (.Call (.Name x p) (e :: es) [] pos) (eCb f m) :=
  pe_of (pe_callB hc hg hm hv ha hn hdb he hpl) fun σ H Q h => tCB_of nx h
theorem xe_ct {T : String} {x : Str} {p : Pos} {f : List D → R Cell} {m : Env → R (List D)} (hc : CallR X (.type T) (rC X.g f)) (nx : NoXL f) (hg : Gl X x) (hm : X.mg x = none) (hv : bootBuiltins x = some (.type T)) (ha : XAr X E (e :: es) m) (hn : x ≠ "__name__" := by decide) (hdb : (x == ("__debug__" : Str)) = false := by decide)
    (he : starEach (e :: es) X.env = (false, eval e X.env) :: starEach es X.env := by rfl) (hpl : (backTo pos (starEach es X.env)).any (·.1) = false := by rfl) : XE X E (.Call (.Name x p) (e :: es) [] pos) (eCb f m) :=
  pe_of (pe_callTy hc hg hm hv ha hn hdb he hpl) fun σ H Q h => tCB_of nx h
/-! len, abs, min, max, int, str, list, tuple -/
def fLen : List D → R Cell
  | [.dict [(.none, .list xs)]] => .ok (.val (.int xs.length))
  | [.list xs] => .ok (.val (.int xs.length))
  | [.tuple xs] => .ok (.val (.int xs.length))
  | [.str x] => if small x.length then .ok (.val (.int x.length)) else .bad
  | _ => .bad
theorem nox_len : NoXL fLen := fun x e => by
  unfold fLen
  split <;> first | exact if_nox e | (intro z; cases z)
theorem call_lenM : CallR X (.builtin "len") (rC X.g fLen) := by
  intro pins s σ H xs us Q I r h
  obtain ⟨F, ds, c, i, vi, e, q⟩ := h
  unfold fLen at e
  split at e
  · cases e
    cases vi with | cons v1 r1 =>
    cases r1
    obtain ⟨a, vs, rfl, h1, r1⟩ := v1.scr i
    exact call_len pins s σ H _ us Q I r ⟨_, _, rfl, .inl ⟨vs, h1, rfl⟩, by rw [r1.length]; exact q _ F H (Stp.refl i) (Rp.int _)⟩
  · cases e
    cases vi with | cons v1 r1 =>
    cases r1
    obtain ⟨a, vs, rfl, h1, r1⟩ := v1.lst i
    exact call_len pins s σ H _ us Q I r ⟨_, _, rfl, .inl ⟨vs, .inl (.inl h1), rfl⟩, by rw [r1.length]; exact q _ F H (Stp.refl i) (Rp.int _)⟩
  · cases e
    cases vi with | cons v1 r1 =>
    cases r1
    obtain ⟨a, vs, rfl, h1, r1⟩ := v1.tup i
    exact call_len pins s σ H _ us Q I r ⟨_, _, rfl, .inr ⟨vs, ex_t i h1, rfl⟩, by rw [r1.length]; exact q _ F H (Stp.refl i) (Rp.int _)⟩
  · obtain ⟨hz, rfl⟩ := if_ok e
    cases vi with | cons v1 r1 =>
    cases r1
    rw [v1.str] at r
    exact call_len pins s σ H _ us Q I r ⟨_, _, rfl, ⟨hz, rfl⟩, q _ F H (Stp.refl i) (Rp.int _)⟩
  · cases e
def fAbs : List D → R Cell
  | [.int i] => .ok (.val (.int (if i < 0 then -i else i)))
  | _ => .bad
theorem nox_abs : NoXL fAbs := fun x e => by
  unfold fAbs
  split <;> (intro z; cases z)
theorem call_absM : CallR X (.builtin "abs") (rC X.g fAbs) := by
  intro pins s σ H xs us Q I r h
  obtain ⟨F, ds, c, i, vi, e, q⟩ := h
  unfold fAbs at e
  split at e
  · cases e
    cases vi with | cons v1 r1 =>
    cases r1
    rw [v1.int] at r
    exact call_abs pins s σ H _ us Q I r ⟨_, rfl, q _ F H (Stp.refl i) (Rp.int _)⟩
  · cases e
def fMax2 : List D → R Cell
  | [.int i, .int j] => .ok (.val (.int (if j > i then j else i)))
  | _ => .bad
def fMin2 : List D → R Cell
  | [.int i, .int j] => .ok (.val (.int (if j < i then j else i)))
  | _ => .bad
theorem nox_max2 : NoXL fMax2 := fun x e => by
  unfold fMax2
  split <;> (intro z; cases z)
theorem nox_min2 : NoXL fMin2 := fun x e => by
  unfold fMin2
  split <;> (intro z; cases z)
theorem call_max2M (hc : X.calm = true) : CallR X (.builtin "max") (rC X.g fMax2) := by
  intro pins s σ H xs us Q I r h
  obtain ⟨F, ds, c, i, vi, e, q⟩ := h
  unfold fMax2 at e
  split at e
  · cases e
    cases vi with | cons v1 r1 =>
    cases r1 with | cons v2 r1 =>
    cases r1
    rw [v1.int, v2.int] at r
    exact call_max2 hc pins s σ H _ us Q I r ⟨_, _, rfl, q _ F H (Stp.refl i) (Rp.int _)⟩
  · cases e
theorem call_min2M (hc : X.calm = true) : CallR X (.builtin "min") (rC X.g fMin2) := by
  intro pins s σ H xs us Q I r h
  obtain ⟨F, ds, c, i, vi, e, q⟩ := h
  unfold fMin2 at e
  split at e
  · cases e
    cases vi with | cons v1 r1 =>
    cases r1 with | cons v2 r1 =>
    cases r1
    rw [v1.int, v2.int] at r
    exact call_min2 hc pins s σ H _ us Q I r ⟨_, _, rfl, q _ F H (Stp.refl i) (Rp.int _)⟩
  · cases e
def fInt : List D → R Cell
  | [.int i] => .ok (.val (.int i))
  | [.bool b] => .ok (.val (.int (if b then 1 else 0)))
  | [.str x] => if x.length ≤ 640 then (match PySem.intText? x with | some n => .ok (.val (.int n)) | none => .bad) else .bad
  | _ => .bad
theorem nox_int : NoXL fInt := fun x e => by
  unfold fInt
  split
  · intro z; cases z
  · intro z; cases z
  · split
    · split <;> (intro z; cases z)
    · intro z; cases z
  · intro z; cases z
theorem call_intM : CallR X (.type "int") (rC X.g fInt) := by
  intro pins s σ H xs us Q I r h
  obtain ⟨F, ds, c, i, vi, e, q⟩ := h
  unfold fInt at e
  split at e
  · cases e
    cases vi with | cons v1 r1 =>
    cases r1
    rw [v1.int] at r
    exact call_int1 pins s σ H _ us Q I r (.inl ⟨_, rfl, q _ F H (Stp.refl i) (Rp.int _)⟩)
  · cases e
    cases vi with | cons v1 r1 =>
    cases r1
    rw [v1.bl] at r
    exact call_int1 pins s σ H _ us Q I r (.inr ⟨_, rfl, q _ F H (Stp.refl i) (Rp.int _)⟩)
  · split at e
    · rename_i hz
      split at e
      · cases e
        rename_i hn
        cases vi with | cons v1 r1 =>
        cases r1
        rw [v1.str] at r
        exact call_int_str pins s σ H _ us Q I r ⟨_, _, rfl, hn, hz, q _ F H (Stp.refl i) (Rp.int _)⟩
      · cases e
    · cases e
  · cases e
def fStr : List D → R Cell
  | [.int i] => if i.natAbs.log2 < 1920 then .ok (.val (.str (Str.ofString (toString i)))) else .bad
  | [.str x] => .ok (.val (.str x))
  | _ => .bad
theorem nox_str : NoXL fStr := fun x e => by
  unfold fStr
  split <;> first | exact if_nox e | (intro z; cases z)
theorem call_strM : CallR X (.type "str") (rC X.g fStr) := by
  intro pins s σ H xs us Q I r h
  obtain ⟨F, ds, c, i, vi, e, q⟩ := h
  unfold fStr at e
  split at e
  · obtain ⟨hz, rfl⟩ := if_ok e
    cases vi with | cons v1 r1 =>
    cases r1
    rw [v1.int] at r
    exact call_str_int pins s σ H _ us Q I r ⟨_, rfl, hz, q _ F H (Stp.refl i) (Rp.str _)⟩
  · cases e
    cases vi with | cons v1 r1 =>
    cases r1
    rw [v1.str] at r
    exact SkE.call_str_str pins s σ H _ us Q I r ⟨_, rfl, q _ F H (Stp.refl i) (Rp.str _)⟩
  · cases e
def fList : List D → R Cell
  | [.list xs] => .ok (.own (.list xs))
  | [.tuple xs] => .ok (.own (.list xs))
  | _ => .bad
theorem nox_list : NoXL fList := fun x e => by
  unfold fList
  split <;> (intro z; cases z)
theorem call_listM : CallR X (.type "list") (rC X.g fList) := by
  intro pins s σ H xs us Q I r h
  obtain ⟨F, ds, c, i, vi, e, q⟩ := h
  unfold fList at e
  split at e
  · cases e
    cases vi with | cons v1 r1 =>
    cases r1
    obtain ⟨a, vs, rfl, h1, r1⟩ := v1.lst i
    exact call_list_of pins s σ H _ us Q I r ⟨_, vs, rfl, .inl (.inl (.inl h1)), fun p hp => q _ F _ (Stp.own i hp) ⟨p, rfl, fresh_back i hp, hp, _, upd_same, r1⟩⟩
  · cases e
    cases vi with | cons v1 r1 =>
    cases r1
    obtain ⟨a, vs, rfl, h1, r1⟩ := v1.tup i
    exact call_list_of pins s σ H _ us Q I r ⟨_, vs, rfl, .inr (ex_t i h1), fun p hp => q _ F _ (Stp.own i hp) ⟨p, rfl, fresh_back i hp, hp, _, upd_same, r1⟩⟩
  · cases e
def fTuple : List D → R Cell
  | [.list xs] => .ok (.val (.tuple xs))
  | [.tuple xs] => .ok (.val (.tuple xs))
  | _ => .bad
theorem nox_tuple : NoXL fTuple := fun x e => by
  unfold fTuple
  split <;> (intro z; cases z)
theorem call_tupleM : CallR X (.type "tuple") (rC X.g fTuple) := by
  intro pins s σ H xs us Q I r h
  obtain ⟨F, ds, c, i, vi, e, q⟩ := h
  unfold fTuple at e
  split at e
  · cases e
    cases vi with | cons v1 r1 =>
    cases r1
    obtain ⟨a, vs, rfl, h1, r1⟩ := v1.lst i
    exact call_tuple_of pins s σ H _ us Q I r ⟨_, vs, rfl, .inl ⟨.inl (.inl h1), fun p hp => q _ (upd F p _) _ (Stp.new i hp) (Rp.tup (.inl (.inl upd_same)) (r1.mono (Ex.new (fresh_back i hp))))⟩⟩
  · cases e
    cases vi with | cons v1 r1 =>
    cases r1
    obtain ⟨a, vs, rfl, h1, r1⟩ := v1.tup i
    exact call_tuple_of pins s σ H _ us Q I r ⟨_, vs, rfl, .inr ⟨ex_t i h1, q _ F H (Stp.refl i) (Rp.tup h1 r1)⟩⟩
  · cases e

/-! ### isinstance against a built-in type -/
def tyName : D → String
  | .none => "NoneType"
  | .bool _ => "bool"
  | .int _ => "int"
  | .str _ => "str"
  | .list _ => "list"
  | .tuple _ => "tuple"
  | .dict _ => "dict"
def tyEq (T t : String) : Bool := t == T || (T == "int" && t == "bool")
def isOfTy (T : String) (d : D) : Bool := tyEq T (tyName d)
def fIsi (T : String) : D → R Cell
  | .dict _ => .bad
  | d => .ok (dB (isOfTy T d))
theorem fIsi_ok {T : String} {d : D} (h : ∀ kvs, d ≠ .dict kvs) : fIsi T d = .ok (dB (isOfTy T d)) := by
  cases d <;> first | rfl | exact absurd rfl (h _)
theorem nox_isi (T : String) : NoX1 (fIsi T) := fun d e => by
  by_cases h : ∀ kvs, d ≠ .dict kvs
  · rw [fIsi_ok h]; intro z; cases z
  · cases d <;> first | (intro z; cases z) | exact absurd (fun kvs z => nomatch z) h
def eIsi (T : String) (m : Env → R D) : Env → R Cell := eUn (fIsi T) m
theorem ty_of {g : G} {F H : Hp} (i : Ex F H) {v : V} {d : D} (h : VIn g F H v d) (hd : ∀ kvs, d ≠ .dict kvs) : TyX g.K H v (.type (tyName d)) := by
  cases d with
  | none => rw [h.non]; exact .base .non
  | bool b => rw [h.bl]; exact .base (.bl b)
  | int b => rw [h.int]; exact .base (.int b)
  | str b => rw [h.str]; exact .base (.str b)
  | list ds =>
    obtain ⟨a, vs, rfl, h1, _⟩ := h.lst i
    exact .base (.lst h1)
  | tuple ds =>
    obtain ⟨a, vs, rfl, h1, _⟩ := h.tup i
    have h1 := ex_t i h1
    rcases h1 with (h1 | ⟨o, h1⟩) | ⟨o, its, n, h1, h2, _⟩
    · exact .base (.tup h1)
    · exact .fTuple h1
    · exact .kTuple h1 h2
  | dict kvs => exact absurd rfl (hd kvs)
theorem kit_tab : ∀ T ∈ ["int", "bool", "str", "list", "tuple", "dict"], ∀ t ∈ ["NoneType", "int", "bool", "str", "list", "tuple", "dict"], kitB t T = some (tyEq T t) := by decide +kernel
theorem kit_ok (T : String) (hT : T ∈ ["int", "bool", "str", "list", "tuple", "dict"]) (d : D) : kitB (tyName d) T = some (isOfTy T d) :=
  kit_tab T hT _ (by cases d <;> simp [tyName])
theorem xe_isi {T : String} {m : Env → R D} {x : Str} {p q0 : Pos} (hT : T ∈ ["int", "bool", "str", "list", "tuple", "dict"]) (h : XR X E e m) (hg : Gl X "isinstance") (hm : X.mg "isinstance" = none) (hg2 : Gl X x) (hm2 : X.mg x = none) (hv2 : bootBuiltins x = some (.type T)) (hn : x ≠ "__name__" := by decide) (hdb : (x == ("__debug__" : Str)) = false := by decide)
    (hs1 : starEach [e, .Name x q0] X.env = (false, eval e X.env) :: starEach [.Name x q0] X.env := by rfl) (hs2 : starEach [.Name x q0] X.env = (false, eval (.Name x q0) X.env) :: starEach [] X.env := by rfl)
    (hpl : (backTo pos (starEach [.Name x q0] X.env)).any (·.1) = false := by rfl) : XE X E (.Call (.Name "isinstance" p) [e, .Name x q0] [] pos) (eIsi T m) := by
  refine pe_of (pe_callB call_isi hg hm (by decide +kernel) (pa_cons h (pa_cons (pe_bltn (v := .ty T) hg2 hm2 hv2 rfl hn hdb) pa_nil hs2) hs1) (he := hs1) (hpl := hpl)) fun σ H Q ⟨P, F0, H0, F, env, r, q⟩ => ?_
  refine ⟨P, F0, H0, F, env, r, (Ways.bind q).mono fun d _ w v F1 H1 s1 v1 => ?_⟩
  obtain ⟨c, z, q⟩ := w.get (nox_isi T d)
  by_cases hd : ∀ kvs, d ≠ .dict kvs
  · rw [fIsi_ok hd] at z
    cases z
    exact ⟨v, _, _, _, _, rfl, .ty T, ty_of s1.i v1 hd, kit_ty (kit_ok T hT d), q _ F1 H1 s1 (Rp.bl _)⟩
  · cases d with
    | dict kvs => cases z
    | _ => exact absurd (fun kvs z => nomatch z) hd
end
end Lw


namespace Lw
open PySem PySem.Spec PyProof.Rows L2 Evl

/-! ### what a statement means -/
inductive Out where
  | nx (env : Env)
  | ret (c : Cell) (env : Env)
  | bk (env : Env)
  | ct (env : Env)
def OutOk (g : G) (P : List (Nat × Addr)) (F0 H0 : Hp) (Dn : Ends) : Out → Prop
  | .nx env => ∀ σ F H, Rel g P F0 H0 F H σ env → Dn.nx σ H
  | .bk env => ∀ σ F H, Rel g P F0 H0 F H σ env → Dn.bk σ H
  | .ct env => ∀ σ F H, Rel g P F0 H0 F H σ env → Dn.ct σ H
  | .ret c env => ∀ v σ F H, Rel g P F0 H0 F H σ env → ResOk g H0 F H v c → Dn.rt v H
def tS (g : G) (E : XK) (m : Env → R Out) : TS := fun Dn σ H => ∃ P F0 H0 F env, Rel g P F0 H0 F H σ env ∧ Ways g E F0 H0 (m env) (OutOk g P F0 H0 Dn)
def XS (X : Cx) (E : XK) (st : Stmt) (m : Env → R Out) : Prop := PS X st (tS X.g E m)
def XSs (X : Cx) (E : XK) (st : List Stmt) (m : Env → R Out) : Prop := PSs X st (tS X.g E m)

/-! ### the relation moves -/
theorem Stp.unbase {F0 H0 F1 H1 F H : Hp} (a : Stp F0 H0 F1 H1) (b : Stp F1 H0 F H) : Stp F0 H0 F H :=
  ⟨a.f.trans b.f, b.h, b.i, fun x h1 h2 => b.n x h1 (a.n x h1 h2)⟩
section
variable {g : G} {P : List (Nat × Addr)} {F0 H0 F H F' H' : Hp} {σ : L2.St} {env : Env}
theorem Rel.rebase (r : Rel g P F0 H0 F H σ env) : Rel g P F H0 F H σ env :=
  ⟨⟨Ex.refl F, r.stp.h, r.stp.i, fun _ _ h => h⟩, r.len, r.cell, r.apart, r.pins⟩
theorem Rel.unbase {F1 H1 : Hp} (s : Stp F0 H0 F1 H1) (r : Rel g P F1 H0 F H σ env) : Rel g P F0 H0 F H σ env :=
  ⟨s.unbase r.stp, r.len, r.cell, r.apart, r.pins⟩
theorem ExcOk.unbase {E : XK} {F1 H1 : Hp} {e : Exc} (s : Stp F0 H0 F1 H1) (h : ExcOk g E F0 H0 e) : ExcOk g E F1 H0 e := fun F' H' d s' p => h F' H' d (s.unbase s') p
theorem Ways.unbase {α : Type} {E : XK} {F1 H1 : Hp} {x : R α} {Q : α → Prop} (s : Stp F0 H0 F1 H1) (h : Ways g E F0 H0 x Q) : Ways g E F1 H0 x Q := by
  rcases h with h | ⟨e, z, q⟩
  · exact .inl h
  · exact .inr ⟨e, z, q.unbase s⟩
theorem OutOk.unbase {F1 H1 : Hp} {Dn : Ends} {o : Out} (s : Stp F0 H0 F1 H1) (h : OutOk g P F0 H0 Dn o) : OutOk g P F1 H0 Dn o := by
  cases o with
  | nx e => exact fun σ F H r => h σ F H (r.unbase s)
  | bk e => exact fun σ F H r => h σ F H (r.unbase s)
  | ct e => exact fun σ F H r => h σ F H (r.unbase s)
  | ret c e => exact fun v σ F H r ro => h v σ F H (r.unbase s) ro

def isPin : Option Cell → Bool
  | some (.pin _) => true
  | _ => false
/-- a slot is stored -/
theorem Rel.put (r : Rel g P F0 H0 F H σ env) (s : Stp F H F' H') {v : V} {c c0 : Cell} {i : Nat} (ro : ResOk g H F' H' v c) (h0 : env[i]? = some c0) (hp : isPin (some c0) = false) :
    Rel g P F0 H0 F' H' (σ.set i (some v)) (env.set i c) := by
  have r' := r.step s
  have hi : i < env.length := (List.getElem?_eq_some_iff.mp h0).1
  have hi' : i < σ.length := by rw [r.len]; exact hi
  have fresh_new : ∀ (n1 : Nat) (cn : Cell) (y : Option V), n1 ≠ i → env[n1]? = some cn → cn.mut = true → σ[n1]? = some y → c.mut = true → y = some v → False := by
    intro n1 cn y hj ej mj sj mc hx
    cases c with
    | own d =>
      obtain ⟨a, rfl, n, n0, o⟩ := ro
      have cj' := r.cell n1 cn ej
      cases cn with
      | own dj =>
        obtain ⟨b, q, _, _, ob⟩ := cj'
        rw [sj, hx] at q
        cases q
        exact ob.ne n0
      | pin dj =>
        obtain ⟨b, q, _, _, ob⟩ := cj'
        rw [sj, hx] at q
        cases q
        exact ob.ne n0
      | _ => cases mj
    | pin d => cases ro
    | _ => cases mc
  refine ⟨r'.stp, by simp [r.len], fun j cj e => ?_, fun j k cj ck x hjk ej ek mj mk sj sk => ?_, fun p hp' => ?_⟩
  · by_cases hj : i = j
    · subst hj
      rw [List.getElem?_set_self hi] at e
      cases e
      rw [List.getElem?_set_self hi']
      cases c with
      | non => cases ro
      | val d => exact ⟨v, rfl, ro⟩
      | pin d => cases ro
      | own d =>
        obtain ⟨a, rfl, n, n0, o⟩ := ro
        exact ⟨a, rfl, n, fresh_back r.stp.h n0, o⟩
    · rw [List.getElem?_set_ne hj] at e ⊢
      exact r'.cell j cj e
  · -- no two alike
    have new : ∀ (n1 : Nat) (cn : Cell) (y : Option V), n1 ≠ i → env[n1]? = some cn → cn.mut = true → σ[n1]? = some y → c.mut = true → y = some v → False := fresh_new
    by_cases hj : i = j
    · subst hj
      rw [List.getElem?_set_self hi] at ej
      cases ej
      rw [List.getElem?_set_self hi'] at sj
      cases sj
      rw [List.getElem?_set_ne hjk] at ek sk
      exact new k ck _ (Ne.symm hjk) ek mk sk mj rfl
    · rw [List.getElem?_set_ne hj] at ej sj
      by_cases hk : i = k
      · subst hk
        rw [List.getElem?_set_self hi] at ek
        cases ek
        rw [List.getElem?_set_self hi'] at sk
        cases sk
        exact new j cj _ hjk ej mj sj mk rfl
      · rw [List.getElem?_set_ne hk] at ek sk
        exact r.apart j k cj ck x hjk ej ek mj mk sj sk
  · obtain ⟨⟨d, e⟩, es⟩ := r.pins p hp'
    have hne : i ≠ p.1 := fun z => by
      rw [← z, h0] at e
      cases e
      cases hp
    rw [List.getElem?_set_ne hne, List.getElem?_set_ne hne]
    exact ⟨⟨d, e⟩, es⟩
/-- a cell forgotten, or said otherwise -/
theorem Rel.recell (r : Rel g P F0 H0 F H σ env) {c c0 : Cell} {i : Nat} (s : Stp F0 H0 F' H) (f : Ex F F') (k : ∀ (j : Nat) (cj : Cell), j ≠ i → env[j]? = some cj → cj.mut = true → ∀ a, σ[j]? = some (some (.ref a)) → F a = none → F' a = none)
    (h0 : env[i]? = some c0) (hp : isPin (some c0) = false) (hc : SlotOk g H0 F' H (σ[i]?) c) (hm : c.mut = true → c0.mut = true) : Rel g P F0 H0 F' H σ (env.set i c) := by
  have hi : i < env.length := (List.getElem?_eq_some_iff.mp h0).1
  refine ⟨s, by simp [r.len], fun j cj e => ?_, fun j k cj ck x hjk ej ek mj mk sj sk => ?_, fun p hp' => ?_⟩
  · by_cases hj : i = j
    · subst hj
      rw [List.getElem?_set_self hi] at e
      cases e
      exact hc
    · rw [List.getElem?_set_ne hj] at e
      have q := r.cell j cj e
      cases cj with
      | non => exact q
      | val d => obtain ⟨v, e1, rv⟩ := q; exact ⟨v, e1, rv.mono f⟩
      | own d => obtain ⟨a, e1, n, n0, o⟩ := q; exact ⟨a, e1, k j _ (Ne.symm hj) e rfl a e1 n, n0, o.mono f (Ex.refl H)⟩
      | pin d => obtain ⟨a, e1, n, n0, o⟩ := q; exact ⟨a, e1, k j _ (Ne.symm hj) e rfl a e1 n, n0, o.mono f (Ex.refl H)⟩
  · have lift : ∀ (j : Nat) (cj : Cell), (env.set i c)[j]? = some cj → cj.mut = true → ∃ c', env[j]? = some c' ∧ c'.mut = true := fun j cj e m => by
      by_cases hj : i = j
      · subst hj
        rw [List.getElem?_set_self hi] at e
        cases e
        exact ⟨c0, h0, hm m⟩
      · rw [List.getElem?_set_ne hj] at e
        exact ⟨cj, e, m⟩
    obtain ⟨c1, e1, m1⟩ := lift j cj ej mj
    obtain ⟨c2, e2, m2⟩ := lift k ck ek mk
    exact r.apart j k c1 c2 x hjk e1 e2 m1 m2 sj sk
  · obtain ⟨⟨d, e⟩, es⟩ := r.pins p hp'
    have hne : i ≠ p.1 := fun z => by
      rw [← z, h0] at e
      cases e
      cases hp
    rw [List.getElem?_set_ne hne]
    exact ⟨⟨d, e⟩, es⟩
/-- forgotten names -/
def kill1 (env : Env) (i : Nat) : Env := if isPin env[i]? then env else env.set i .non
def kill (ks : List Nat) (env : Env) : Env := ks.foldl kill1 env
theorem Rel.kill1 (r : Rel g P F0 H0 F H σ env) (i : Nat) : Rel g P F0 H0 F H σ (kill1 env i) := by
  unfold Lw.kill1
  split
  · exact r
  · rename_i h
    cases e : env[i]? with
    | none =>
      rw [List.set_eq_of_length_le (List.getElem?_eq_none_iff.mp e)]
      exact r
    | some c0 =>
      rw [e] at h
      exact r.recell r.stp (Ex.refl F) (fun _ _ _ _ _ _ _ n => n) e (by simpa using h) trivial (fun z => by cases z)
theorem Rel.kill (r : Rel g P F0 H0 F H σ env) : ∀ ks : List Nat, Rel g P F0 H0 F H σ (kill ks env) := by
  intro ks
  induction ks generalizing env with
  | nil => exact r
  | cons i ks ih => exact ih (r.kill1 i)
/-- an own cell frozen -/
def fz (i : Nat) (env : Env) : Env := match env[i]? with
  | some (.own d) => env.set i (.val d)
  | _ => env
theorem upd_ex {F H : Hp} {a : Addr} {o : HO} (n : F a = none) (i : Ex F H) (e : H a = some o) : Ex (upd F a o) H := fun b u q => by
  by_cases h : b = a
  · subst h; rw [upd_same] at q; rw [e]; exact q
  · rw [upd_ne h] at q; exact i b u q
theorem Rel.fz (r : Rel g P F0 H0 F H σ env) (i : Nat) : ∃ F', Rel g P F0 H0 F' H σ (fz i env) ∧ Ex F F' ∧ ∀ a, F a = none → F' a ≠ none → ∃ d, env[i]? = some (.own d) ∧ σ[i]? = some (some (.ref a)) := by
  unfold Lw.fz
  split
  · rename_i d e
    obtain ⟨a, es, n, n0, o⟩ := r.cell i _ e
    obtain ⟨ob, eh, e1, e2, rp⟩ := o.frz r.stp.i n
    refine ⟨upd F a ob, r.recell ⟨r.stp.f.trans e1, r.stp.h, e2, fun b h1 h2 => ?_⟩ e1 (fun j cj hj ej mj b sb nb => ?_) e rfl ⟨_, es, rp⟩ (fun z => by cases z), e1, fun b h1 h2 => ?_⟩
    · have : b ≠ a := fun z => by subst z; exact h1 n0
      rw [upd_ne this]
      exact r.stp.n b h1 h2
    · have : b ≠ a := fun z => by
        subst z
        exact r.apart j i cj _ _ hj ej e mj rfl sb es
      rw [upd_ne this]
      exact nb
    · by_cases hb : b = a
      · subst hb; exact ⟨d, e, es⟩
      · rw [upd_ne hb] at h2; exact absurd h1 h2
  · exact ⟨F, r, Ex.refl F, fun a h1 h2 => absurd h1 h2⟩
/-- an own object changed -/
def Cell.with (d : D) : Cell → Cell
  | .own _ => .own d
  | .pin _ => .pin d
  | c => c
theorem Rel.mutate (r : Rel g P F0 H0 F H σ env) {i : Nat} {c : Cell} {a : Addr} {o : HO} {d : D} (h : env[i]? = some c) (m : c.mut = true) (hs : σ[i]? = some (some (.ref a))) (new : OwnOk g F (upd H a o) a d) :
    Rel g P F0 H0 F (upd H a o) σ (env.set i (c.with d)) := by
  have hi : i < env.length := (List.getElem?_eq_some_iff.mp h).1
  have ha : F a = none ∧ H0 a = none := by
    have q := r.cell i c h
    cases c with
    | own d' => obtain ⟨b, e, n, n0, _⟩ := q; rw [hs] at e; cases e; exact ⟨n, n0⟩
    | pin d' => obtain ⟨b, e, n, n0, _⟩ := q; rw [hs] at e; cases e; exact ⟨n, n0⟩
    | _ => cases m
  have mw : (c.with d).mut = true := by cases c <;> first | rfl | cases m
  refine ⟨⟨r.stp.f, Ex.mut r.stp.h ha.2, Ex.mut r.stp.i ha.1, r.stp.n⟩, by simp [r.len], fun j cj e => ?_, fun j k cj ck x hjk ej ek mj mk sj sk => ?_, fun p hp' => ?_⟩
  · by_cases hj : i = j
    · subst hj
      rw [List.getElem?_set_self hi] at e
      cases e
      cases c with
      | own d' => exact ⟨a, hs, ha.1, ha.2, new⟩
      | pin d' => exact ⟨a, hs, ha.1, ha.2, new⟩
      | _ => cases m
    · rw [List.getElem?_set_ne hj] at e
      have q := r.cell j cj e
      have other : ∀ b dj, σ[j]? = some (some (.ref b)) → cj.mut = true → OwnOk g F H b dj → OwnOk g F (upd H a o) b dj := fun b dj sb mj ob => by
        have hne : b ≠ a := fun z => by
          subst z
          exact r.apart j i cj c _ (Ne.symm hj) e h mj m sb hs
        cases dj with
        | list ds =>
          obtain ⟨vs, o1, r1⟩ := ob
          exact ⟨vs, by rw [upd_ne hne]; exact o1, r1⟩
        | dict ds =>
          obtain ⟨vs, o1, r1⟩ := ob
          refine ⟨vs, ?_, r1⟩
          rcases o1 with ⟨kv, z, q⟩ | ⟨en, z, q⟩
          · exact .inl ⟨kv, by rw [upd_ne hne]; exact z, q⟩
          · exact .inr ⟨en, by rw [upd_ne hne]; exact z, q⟩
        | _ => cases ob
      cases cj with
      | non => exact q
      | val dj => exact q
      | own dj => obtain ⟨b, sb, n, n0, ob⟩ := q; exact ⟨b, sb, n, n0, other b dj sb rfl ob⟩
      | pin dj => obtain ⟨b, sb, n, n0, ob⟩ := q; exact ⟨b, sb, n, n0, other b dj sb rfl ob⟩
  · have lift : ∀ (j : Nat) (cj : Cell), (env.set i (c.with d))[j]? = some cj → cj.mut = true → ∃ c', env[j]? = some c' ∧ c'.mut = true := fun j cj e m' => by
      by_cases hj : i = j
      · subst hj
        exact ⟨c, h, m⟩
      · rw [List.getElem?_set_ne hj] at e
        exact ⟨cj, e, m'⟩
    obtain ⟨c1, e1, m1⟩ := lift j cj ej mj
    obtain ⟨c2, e2, m2⟩ := lift k ck ek mk
    exact r.apart j k c1 c2 x hjk e1 e2 m1 m2 sj sk
  · obtain ⟨⟨d', e⟩, es⟩ := r.pins p hp'
    refine ⟨?_, es⟩
    by_cases hj : i = p.1
    · rw [← hj] at e ⊢
      rw [h] at e
      cases e
      rw [List.getElem?_set_self hi]
      exact ⟨d, rfl⟩
    · rw [List.getElem?_set_ne hj]
      exact ⟨d', e⟩
end
end Lw


namespace Lw
open PySem PySem.Spec PyProof.Rows L2 Evl
section
variable {X : Cx} {E : XK} {e a b : Expr} {es : List Expr} {pos : Pos} {st : Stmt} {sts : List Stmt}
/-! ### blocks -/
def sNil : Env → R Out := fun env => .ok (.nx env)
def sSeq (m n : Env → R Out) : Env → R Out := fun env => do
  match ← m env with
  | .nx e => n e
  | o => .ok o
theorem xss_nil : XSs X E [] sNil := pss_of pss_nil fun Dn σ H ⟨P, F0, H0, F, env, r, q⟩ => by
  obtain ⟨c, z, q⟩ := q.get (fun e z => by cases z)
  cases z
  exact q σ F H r
theorem xss_cons {m n : Env → R Out} (h : XS X E st m) (h' : XSs X E sts n) : XSs X E (st :: sts) (sSeq m n) := by
  refine pss_of (pss_cons h h') fun Dn σ H ⟨P, F0, H0, F, env, r, q⟩ => ?_
  refine ⟨P, F0, H0, F, env, r, (Ways.bind q).mono fun o _ w => ?_⟩
  cases o with
  | nx e => exact fun σ' F' H' r' => ⟨P, F0, H0, F', e, r', w⟩
  | ret c e => obtain ⟨_, z, q⟩ := w.get (fun e z => by cases z); cases z; exact q
  | bk e => obtain ⟨_, z, q⟩ := w.get (fun e z => by cases z); cases z; exact q
  | ct e => obtain ⟨_, z, q⟩ := w.get (fun e z => by cases z); cases z; exact q
theorem xss_one {m : Env → R Out} (h : XS X E st m) : XSs X E [st] m := pss_one h
/-- names forgotten ahead of a block; a name frozen ahead of a statement -/
def sKill (ks : List Nat) (m : Env → R Out) : Env → R Out := fun env => m (kill ks env)
theorem xss_kill {m : Env → R Out} (ks : List Nat) (h : XSs X E sts m) : XSs X E sts (sKill ks m) :=
  pss_of h fun Dn σ H ⟨P, F0, H0, F, env, r, q⟩ => ⟨P, F0, H0, F, _, r.kill ks, q⟩
theorem xs_kill {m : Env → R Out} (ks : List Nat) (h : XS X E st m) : XS X E st (sKill ks m) :=
  ps_of h fun Dn σ H ⟨P, F0, H0, F, env, r, q⟩ => ⟨P, F0, H0, F, _, r.kill ks, q⟩
def sFz (i : Nat) (m : Env → R Out) : Env → R Out := fun env => m (fz i env)
theorem xs_fz {m : Env → R Out} (i : Nat) (h : XS X E st m) : XS X E st (sFz i m) :=
  ps_of h fun Dn σ H ⟨P, F0, H0, F, env, r, q⟩ => by
    obtain ⟨F', r', _⟩ := r.fz i
    exact ⟨P, F0, H0, F', _, r', q⟩
theorem xss_fz {m : Env → R Out} (i : Nat) (h : XSs X E sts m) : XSs X E sts (sFz i m) :=
  pss_of h fun Dn σ H ⟨P, F0, H0, F, env, r, q⟩ => by
    obtain ⟨F', r', _⟩ := r.fz i
    exact ⟨P, F0, H0, F', _, r', q⟩
def isFlat : D → Bool
  | .none | .bool _ | .int _ | .str _ => true
  | _ => false
theorem flat_rp {g : G} {F F' : Hp} {v : V} {d : D} (h : isFlat d = true) (r : Rp g F v d) : Rp g F' v d := by
  cases r <;> first | exact .non | exact .bl _ | exact .int _ | exact .str _ | cases h
/-- an own name read as it stands, for a flat answer -/
def flatC : Cell → R Cell
  | .val d => if isFlat d = true then .ok (.val d) else .bad
  | _ => .bad
def pur {α : Type} : R α → R α
  | .exc _ => .bad
  | r => r
@[simp] theorem pur_ok {α : Type} (a : α) : pur (R.ok a) = .ok a := rfl
theorem pur_nox {α : Type} (r : R α) (e : Exc) : pur r ≠ .exc e := by cases r <;> intro z <;> cases z
theorem pur_is {α : Type} {r : R α} {a : α} (h : pur r = .ok a) : r = .ok a := by cases r <;> first | exact h | cases h
def eBor (i : Nat) (m : Env → R Cell) : Env → R Cell := fun env => pur (m (fz i env)) >>= flatC
theorem flatC_ok {c c' : Cell} (h : flatC c = .ok c') : ∃ d, c = .val d ∧ c' = .val d ∧ isFlat d = true := by
  cases c with
  | val d =>
    unfold flatC at h
    obtain ⟨f, rfl⟩ := if_ok h
    exact ⟨d, rfl, rfl, f⟩
  | _ => cases h
theorem flatC_nox (c : Cell) (e : Exc) : flatC c ≠ .exc e := by
  cases c with
  | val d => exact if_nox e
  | _ => intro z; cases z
theorem xe_bor {m : Env → R Cell} (i : Nat) (h : XE X E e m) : XE X E e (eBor i m) :=
  pe_of h fun σ H Q ⟨P, F0, H0, F, env, r, q⟩ => by
    obtain ⟨F', r', f, _⟩ := r.fz i
    obtain ⟨c, z, w⟩ := (Ways.bind q).get (pur_nox _)
    refine ⟨P, F0, H0, F', _, r', .inl ⟨c, pur_is z, fun v F1 H1 s1 ro => ?_⟩⟩
    obtain ⟨c', z', q⟩ := w.get (flatC_nox c)
    obtain ⟨d, rfl, rfl, fl⟩ := flatC_ok z'
    exact q v F H1 ⟨Ex.refl F, s1.h, r.stp.i.trans s1.h, fun _ _ n => n⟩ (flat_rp fl ro)

/-! ### small statements -/
def setC (i : Nat) (c : Cell) (env : Env) : R Env := match env[i]? with
  | some c0 => if isPin (some c0) = true then .bad else .ok (env.set i c)
  | none => .bad
theorem setC_ok {i : Nat} {c : Cell} {env env' : Env} (h : setC i c env = .ok env') : ∃ c0, env[i]? = some c0 ∧ isPin (some c0) = false ∧ env' = env.set i c := by
  unfold setC at h
  split at h
  · rename_i c0 h0
    split at h
    · cases h
    · rename_i hp
      cases h
      exact ⟨c0, h0, by simpa using hp, rfl⟩
  · cases h
theorem setC_nox {i : Nat} {c : Cell} {env : Env} (e : Exc) : setC i c env ≠ .exc e := by
  unfold setC
  split
  · split <;> (intro z; cases z)
  · intro z; cases z
def sAsg (i : Nat) (m : Env → R Cell) : Env → R Out := fun env => do
  let c ← m env
  let env' ← setC i c env
  return .nx env'
theorem xs_asg {i : Nat} {x : Str} {m : Env → R Cell} {pos' : Pos} (hN : X.N.Nodup) (hi : X.N[i]? = some x) (hx : Loc X.env.scope x) (he : XE X E e m) (hs : swapsWith e (some (.Name x pos')) pos.line X.env = pure false := by rfl) (hf : X.fn x = true ∨ X.env.scope.names.lookup x = some .local := by first | exact .inl rfl | exact .inr rfl | assumption) :
    XS X E (.Assign [.Name x pos'] e pos) (sAsg i m) := by
  refine ps_of (ps_set hN hi hx he hs hf) fun Dn σ H ⟨P, F0, H0, F, env, r, q⟩ => ?_
  refine ⟨P, F0, H0, F, env, r, ((Ways.bind q).step r.stp).mono fun c _ w v F1 H1 s1 ro => ?_⟩
  obtain ⟨env', z, w⟩ := (Ways.bind w).get (fun e => setC_nox e)
  obtain ⟨c0, h0, hp, rfl⟩ := setC_ok z
  obtain ⟨_, z', q⟩ := w.get (fun e z => by cases z)
  cases z'
  exact q _ F1 H1 (r.put s1 ro h0 hp)
def sRet (m : Env → R Cell) : Env → R Out := fun env => do
  let c ← m env
  return .ret c env
theorem xs_ret {m : Env → R Cell} (he : XE X E e m) : XS X E (.Return (some e) pos) (sRet m) := by
  refine ps_of (ps_ret he) fun Dn σ H ⟨P, F0, H0, F, env, r, q⟩ => ?_
  refine ⟨P, F0, H0, F, env, r, ((Ways.bind q).step r.stp).mono fun c _ w v F1 H1 s1 ro => ?_⟩
  obtain ⟨_, z', q⟩ := w.get (fun e z => by cases z)
  cases z'
  exact q v _ F1 H1 (r.step s1) (ro.back r.stp.h)
/-- return of a name, own or not -/
def sRetV (i : Nat) : Env → R Out := fun env => match env[i]? with
  | some (.own d) => .ok (.ret (.own d) env)
  | some (.val d) => .ok (.ret (.val d) env)
  | _ => .bad
theorem xs_retV (i : Nat) {x : Str} {p : Pos} (hN : X.N[i]? = some x) (hv : Vis X.env.scope x) (hd : (x == ("__debug__" : Str)) = false := by decide) (hcd : (x == ("__classdict__" : Str)) = false := by decide) : XS X E (.Return (some (.Name x p)) pos) (sRetV i) := by
  refine ps_of (ps_ret (pe_var hN hv hd hcd)) fun Dn σ H ⟨P, F0, H0, F, env, r, q⟩ => ?_
  unfold sRetV at q
  split at q
  · rename_i d h
    obtain ⟨_, z', q⟩ := q.get (fun e z => by cases z)
    cases z'
    obtain ⟨a, es, n, n0, o⟩ := r.cell i _ h
    exact ⟨_, es, q _ σ F H r ⟨a, rfl, n, n0, o⟩⟩
  · rename_i d h
    obtain ⟨_, z', q⟩ := q.get (fun e z => by cases z)
    cases z'
    obtain ⟨v, es, rv⟩ := r.cell i _ h
    exact ⟨_, es, q _ σ F H r rv⟩
  · obtain ⟨_, z', q⟩ := q.get (fun e z => by cases z)
    cases z'
def sRetN : Env → R Out := fun env => .ok (.ret (.val .none) env)
theorem xs_retN : XS X E (.Return none pos) sRetN := ps_of ps_retN fun Dn σ H ⟨P, F0, H0, F, env, r, q⟩ => by
  obtain ⟨c, z, q⟩ := q.get (fun e z => by cases z)
  cases z
  exact q .non σ F H r Rp.non
theorem xs_pass : XS X E (.Pass pos) sNil := ps_of ps_pass fun Dn σ H ⟨P, F0, H0, F, env, r, q⟩ => by
  obtain ⟨c, z, q⟩ := q.get (fun e z => by cases z)
  cases z
  exact q σ F H r
def sIf (t : Env → R Bool) (m n : Env → R Out) : Env → R Out := fun env => do
  if ← t env then m env else n env
theorem xs_if {c : Expr} {as bs : List Stmt} {t : Env → R Bool} {m n : Env → R Out} (hc : XT X E c t) (ha : XSs X E as m) (hb : XSs X E bs n) : XS X E (.If c as bs pos) (sIf t m n) := by
  refine ps_of (ps_if hc ha hb) fun Dn σ H ⟨P, F0, H0, F, env, r, q⟩ => ?_
  refine ⟨P, F0, H0, F, env, r, ((Ways.bind q).step r.stp).mono fun k _ w F1 H1 s1 => ?_⟩
  cases k with
  | true => exact ⟨P, F0, H0, F1, env, r.step s1, w⟩
  | false => exact ⟨P, F0, H0, F1, env, r.step s1, w⟩
def sDrop (m : Env → R Cell) : Env → R Out := fun env => do
  let _ ← m env
  return .nx env
theorem xs_drop {m : Env → R Cell} (he : XE X E e m) (hs : swapsWith e none pos.line X.env = pure false := by rfl) : XS X E (.Expr e pos) (sDrop m) := by
  refine ps_of (ps_expr he hs) fun Dn σ H ⟨P, F0, H0, F, env, r, q⟩ => ?_
  refine ⟨P, F0, H0, F, env, r, ((Ways.bind q).step r.stp).mono fun c _ w v F1 H1 s1 ro => ?_⟩
  obtain ⟨_, z', q⟩ := w.get (fun e z => by cases z)
  cases z'
  exact q _ F1 H1 (r.step s1)
/-- x += e, ints -/
def sAug (f : Int → Int → Int) (i : Nat) (m : Env → R D) : Env → R Out := fun env => do
  match env[i]? with
  | some (.val (.int x)) =>
    match ← m env with
    | .int y => return .nx (env.set i (.val (.int (f x y))))
    | _ => .bad
  | _ => .bad
theorem xs_aug {i : Nat} {x : Str} {op : Operator} {f : Int → Int → Int} {m : Env → R D} {pos' : Pos} (hN : X.N.Nodup) (hi : X.N[i]? = some x) (hx : Loc X.env.scope x) (he : XR X E e m) (ho : PIp X op (ipI f)) (hf : X.fn x = true ∨ X.env.scope.names.lookup x = some .local := by first | exact .inl rfl | exact .inr rfl | assumption) :
    XS X E (.AugAssign (.Name x pos') op e pos) (sAug f i m) := by
  refine ps_of (ps_aug hN hi hx he ho hf) fun Dn σ H ⟨P, F0, H0, F, env, r, q⟩ => ?_
  unfold sAug at q
  split at q
  · rename_i y h
    obtain ⟨v, es, rv⟩ := r.val h
    cases rv
    refine ⟨_, es, P, F0, H0, F, env, r, ((Ways.bind q).step r.stp).mono fun d _ w u F1 H1 s1 v1 => ?_⟩
    cases d with
    | int j =>
      obtain ⟨_, z', q⟩ := w.get (fun e z => by cases z)
      cases z'
      exact ⟨y, j, rfl, v1.int, q _ F1 H1 (r.put s1 (v := .int (f y j)) (c := .val (.int (f y j))) (Rp.int _) h rfl)⟩
    | _ => obtain ⟨_, z', q⟩ := w.get (fun e z => by cases z); cases z'
  · obtain ⟨_, z', q⟩ := q.get (fun e z => by cases z)
    cases z'
/-- x, y = e, f -/
def sPar (i j : Nat) (m : Env → R (List D)) : Env → R Out := fun env => do
  match ← m env with
  | [d, e] =>
    let env' ← setC i (.val d) env
    let env' ← setC j (.val e) env'
    return .nx env'
  | _ => .bad
theorem xs_par {i j : Nat} {x y : Str} {m : Env → R (List D)} {px py pt : Pos} {kt k2 pt2} (hc : X.calm = true) (hN : X.N.Nodup) (hi : X.N[i]? = some x) (hj : X.N[j]? = some y) (hij : i ≠ j)
    (hx : X.env.scope.names.lookup x = some .local) (hy : X.env.scope.names.lookup y = some .local) (ha : XA X E [a, b] m)
    (hw : swappedStores [.Tuple [.Name x px, .Name y py] kt pt] (.Tuple [a, b] k2 pt2) X.env = pure (some [x, y]))
    (hs : swapsWithSole [.Tuple [.Name x px, .Name y py] kt pt] (.Tuple [a, b] k2 pt2) pos.line X.env = pure false := by rfl) :
    XS X E (.Assign [.Tuple [.Name x px, .Name y py] kt pt] (.Tuple [a, b] k2 pt2) pos) (sPar i j m) := by
  refine ps_of (ps_par hc hN hi hj hij hx hy ha hw hs) fun Dn σ H ⟨P, F0, H0, F, env, r, q⟩ => ?_
  refine ⟨P, F0, H0, F, env, r, ((Ways.bind q).step r.stp).mono fun ds _ w vs F1 H1 s1 rs => ?_⟩
  match ds, rs, w with
  | [d1, d2], .cons (v := v1) r1 (.cons (v := v2) r2 .nil), w =>
    obtain ⟨env1, z1, w⟩ := (Ways.bind w).get (fun e => setC_nox e)
    obtain ⟨env2, z2, w⟩ := (Ways.bind w).get (fun e => setC_nox e)
    obtain ⟨_, z', q⟩ := w.get (fun e z => by cases z)
    cases z'
    obtain ⟨c0, h0, hp, rfl⟩ := setC_ok z1
    obtain ⟨c1, h1, hp1, rfl⟩ := setC_ok z2
    have ra := r.put s1 (v := v1) (c := .val d1) r1 h0 hp
    have rb := ra.put (Stp.refl ra.stp.i) (v := v2) (c := .val d2) r2 h1 hp1
    exact ⟨_, _, rfl, q _ F1 H1 rb⟩
  | [], _, w => obtain ⟨_, z', q⟩ := w.get (fun e z => by cases z); cases z'
  | [_], _, w => obtain ⟨_, z', q⟩ := w.get (fun e z => by cases z); cases z'
  | _ :: _ :: _ :: _, _, w => obtain ⟨_, z', q⟩ := w.get (fun e z => by cases z); cases z'
end
end Lw


namespace Lw
open PySem PySem.Spec PyProof.Rows L2 Evl
section
variable {X : Cx} {E : XK} {e a b : Expr} {es : List Expr} {pos : Pos} {st : Stmt} {sts : List Stmt}
/-! ### own lists changed -/
/-- what slot i holds, if it may be changed -/
def ownAt (i : Nat) (env : Env) : R D := match env[i]? with
  | some (.own d) => .ok d
  | some (.pin d) => .ok d
  | _ => .bad
theorem ownAt_ok {i : Nat} {env : Env} {d : D} (h : ownAt i env = .ok d) : ∃ c, env[i]? = some c ∧ c.mut = true ∧ (∀ d', c.with d' = (match env[i]? with | some (.own _) => .own d' | _ => .pin d')) ∧ c.get = .ok d := by
  unfold ownAt at h
  split at h
  · rename_i d' h0; cases h; exact ⟨_, h0, rfl, fun d' => by rw [h0]; rfl, rfl⟩
  · rename_i d' h0; cases h; exact ⟨_, h0, rfl, fun d' => by rw [h0]; rfl, rfl⟩
  · cases h
theorem ownAt_nox {i : Nat} {env : Env} (e : Exc) : ownAt i env ≠ .exc e := by
  unfold ownAt
  split <;> (intro z; cases z)
def setO (i : Nat) (d : D) (env : Env) : Env := match env[i]? with
  | some c => env.set i (c.with d)
  | none => env
theorem own_slot {g : G} {P F0 H0 F H σ env} (r : Rel g P F0 H0 F H σ env) {i : Nat} {c : Cell} {d : D} (h : env[i]? = some c) (m : c.mut = true) (e : c.get = .ok d) : ∃ a, σ[i]? = some (some (.ref a)) ∧ F a = none ∧ OwnOk g F H a d := by
  have q := r.cell i c h
  cases c with
  | own d' => cases e; obtain ⟨a, es, n, _, o⟩ := q; exact ⟨a, es, n, o⟩
  | pin d' => cases e; obtain ⟨a, es, n, _, o⟩ := q; exact ⟨a, es, n, o⟩
  | _ => cases m
/-- x.append(e) -/
def sApp (i : Nat) (m : Env → R Cell) : Env → R Out := fun env => do
  match ← ownAt i env with
  | .list ds =>
    let c ← m env
    let d ← c.get
    if ds.length < sizeLine then return .nx (setO i (.list (ds ++ [d])) env) else .bad
  | _ => .bad
theorem xs_app {i : Nat} {x : Str} {m : Env → R Cell} {px apos cpos : Pos} (hN : X.N[i]? = some x) (hv : Vis X.env.scope x) (he : XE X E e m)
    (hbase : attributeBase (.Name x px) "append" X.env (eval (.Name x px) X.env) = eval (.Name x px) X.env := by rfl)
    (hfew : ((backTo cpos (starEach (e :: []) X.env)).all (fun x => !x.1) && (backToKw cpos (keywordEach [] X.env)).all (fun x => x.1.isSome)
      && decide ((e :: []).length + ([] : List Keyword).length + (if ([] : List Keyword).isEmpty then 0 else 1) < 30)) = true := by rfl)
    (hline : (apos.endLine == cpos.line) = true := by rfl) (hst : starEach (e :: []) X.env = (false, eval e X.env) :: starEach [] X.env := by rfl) (hplain : (backTo cpos (starEach [] X.env)).any (·.1) = false := by rfl)
    (hs : swapsWith (.Call (.Attribute (.Name x px) "append" apos) [e] [] cpos) none pos.line X.env = pure false := by rfl) (hd : (x == ("__debug__" : Str)) = false := by decide) (hcd : (x == ("__classdict__" : Str)) = false := by decide) :
    XS X E (.Expr (.Call (.Attribute (.Name x px) "append" apos) [e] [] cpos) pos) (sApp i m) := by
  refine ps_of (ps_expr (pe_bm PySem.F.plainAttrs_list PySem.F.slot_list_append PySem.F.type_list_append mt_append (pe_var hN hv hd hcd) (pa_cons he pa_nil hst) hbase hfew hline hst hplain) hs) fun Dn σ H ⟨P, F0, H0, F, env, r, q⟩ => ?_
  obtain ⟨d0, z, w⟩ := (Ways.bind q).get (fun e => ownAt_nox e)
  obtain ⟨c, h, mu, _, ge⟩ := ownAt_ok z
  cases d0 with
  | list ds =>
    obtain ⟨ad, es, n, o⟩ := own_slot r h mu ge
    have o0 := o
    obtain ⟨vs, eh, rv⟩ := o0
    refine ⟨_, es, .inl ⟨rfl, vs, .inl (.inl eh)⟩, ?_⟩
    refine ⟨P, F0, H0, F, env, r, ((Ways.bind w).step r.stp).mono fun c1 _ w v F1 H1 s1 ro => ?_⟩
    obtain ⟨d1, z1, w⟩ := (Ways.bind w).get (get_nox c1)
    obtain ⟨F2, s2, rd⟩ := ro.frz s1 z1
    obtain ⟨_, z2, q⟩ := w.get (if_nox (a := Out.nx (setO i (.list (ds ++ [d1])) env)))
    obtain ⟨hl, rfl⟩ := if_ok (a := Out.nx (setO i (.list (ds ++ [d1])) env)) z2
    refine ⟨ad, vs, v, rfl, rfl, s2.h _ _ eh, by rw [rv.length]; exact hl, ?_⟩
    have r2 := r.step s2
    have r3 := r2.mutate (o := .lst (vs ++ [v])) (d := .list (ds ++ [d1])) h mu es ⟨_, upd_same, (rv.mono s2.f).append (.cons rd .nil)⟩
    have eq : setO i (.list (ds ++ [d1])) env = env.set i (c.with (.list (ds ++ [d1]))) := by unfold setO; rw [h]
    rw [eq] at q
    exact q _ _ _ r3
  | _ => obtain ⟨_, z', q⟩ := w.get (fun e z => by cases z); cases z'
/-- x[k] = e on an own list -/
def setAt (ds : List D) (k d : D) : R (List D) := match k with
  | .int k => match ixN ds.length k with
    | some j => .ok (ds.set j d)
    | none => .bad
  | _ => .bad
theorem setAt_ok {ds ds' : List D} {k d : D} (h : setAt ds k d = .ok ds') : ∃ n j, k = .int n ∧ ixN ds.length n = some j ∧ ds' = ds.set j d := by
  unfold setAt at h
  split at h
  · rename_i n
    split at h
    · rename_i j hj
      cases h
      exact ⟨n, j, rfl, hj, rfl⟩
    · cases h
  · cases h
theorem setAt_nox {ds : List D} {k d : D} (e : Exc) : setAt ds k d ≠ .exc e := by
  unfold setAt
  split
  · split <;> (intro z; cases z)
  · intro z; cases z
def sSetI (i : Nat) (mk : Env → R D) (m : Env → R Cell) : Env → R Out := fun env => do
  let c ← m env
  let d ← c.get
  match ← ownAt i env with
  | .list ds =>
    let k ← mk env
    let ds' ← setAt ds k d
    return .nx (setO i (.list ds') env)
  | _ => .bad
theorem Ways.bind2 {α β : Type} {g : G} {E : XK} {F H : Hp} {x : R α} {f : α → R β} {Q : β → Prop} (h : Ways g E F H (x >>= f) Q) (nx : ∀ e, x ≠ .exc e) : ∃ a, x = .ok a ∧ Ways g E F H (f a) Q := (Ways.bind h).get nx
theorem xs_setI {i : Nat} {x : Str} {ix : Expr} {mk : Env → R D} {m : Env → R Cell} {px tp : Pos} (hN : X.N[i]? = some x) (hv : Vis X.env.scope x) (hk : XR X E ix mk) (he : XE X E e m)
    (ha : ∀ v, assign (.Subscript (.Name x px) ix tp) X.env v = (do
      let ov ← holding [v] (eval (.Name x px) X.env)
      let iv ← holding [v, ov] (eval ix X.env)
      standAt tp
      holding [v, ov, iv] (setItem ov iv v)
      release [v, ov, iv] []) := by intro _; rfl)
    (hs : swapsWithSole [.Subscript (.Name x px) ix tp] e pos.line X.env = pure false := by rfl) (hw : swappedStores [.Subscript (.Name x px) ix tp] e X.env = pure none := by rfl)
    (h1 : (assignEach [.Subscript (.Name x px) ix tp] X.env).map (·.2) = [assign (.Subscript (.Name x px) ix tp) X.env] := by rfl) (hd : (x == ("__debug__" : Str)) = false := by decide) (hcd : (x == ("__classdict__" : Str)) = false := by decide) :
    XS X E (.Assign [.Subscript (.Name x px) ix tp] e pos) (sSetI i mk m) := by
  refine ps_of (ps_asg he (pg_sub (pe_var hN hv hd hcd) hk set_list ha) hs hw h1) fun Dn σ H ⟨P, F0, H0, F, env, r, q⟩ => ?_
  refine ⟨P, F0, H0, F, env, r, ((Ways.bind q).step r.stp).mono fun c1 _ w v F1 H1 s1 ro => ?_⟩
  obtain ⟨d1, z1, w⟩ := (Ways.bind w).get (get_nox c1)
  obtain ⟨F2, s2, rd⟩ := ro.frz s1 z1
  obtain ⟨d0, z, w⟩ := (Ways.bind w).get (fun e => ownAt_nox e)
  obtain ⟨c, h, mu, _, ge⟩ := ownAt_ok z
  have r2 := r.step s2
  cases d0 with
  | list ds =>
    obtain ⟨ad, es, n, o⟩ := own_slot r2 h mu ge
    refine ⟨_, es, ?_⟩
    refine ⟨P, F0, H0, F2, env, r2, ((Ways.bind w).step r2.stp).mono fun dk _ w kv F3 H3 s3 vk => ?_⟩
    obtain ⟨ds', z3, w⟩ := (Ways.bind w).get (fun e => setAt_nox e)
    obtain ⟨k, j, rfl, hj, rfl⟩ := setAt_ok z3
    obtain ⟨_, z', q⟩ := w.get (fun e z => by cases z)
    cases z'
    have r3 := r2.step s3
    have o3 := o.mono s3.f s3.h
    obtain ⟨vs, eh, rv⟩ := o3
    refine ⟨ad, vs, k, j, rfl, vk.int, eh, by rw [rv.length]; exact hj, ?_⟩
    have r4 := r3.mutate (o := .lst (vs.set j v)) (d := .list (ds.set j d1)) h mu es ⟨_, upd_same, rv.set j (rd.mono s3.f)⟩
    have eq : setO i (.list (ds.set j d1)) env = env.set i (c.with (.list (ds.set j d1))) := by unfold setO; rw [h]
    rw [eq] at q
    exact q _ _ _ r4
  | _ => obtain ⟨_, z', q⟩ := w.get (fun e z => by cases z); cases z'

/-! ### while -/
def whileN (t : Env → R Bool) (b : Env → R Out) (ks : List Nat) : Nat → Env → R Out
  | 0, _ => .bad
  | n + 1, env => do
    if ← t env then
      match ← b env with
      | .nx e => whileN t b ks n (kill ks e)
      | .ct e => whileN t b ks n (kill ks e)
      | .bk e => return .nx (kill ks e)
      | .ret c e => return .ret c e
    else return .nx env
theorem whileN_succ (t : Env → R Bool) (b : Env → R Out) (ks : List Nat) : ∀ (n : Nat) (env : Env), whileN t b ks n env ≠ .bad → whileN t b ks (n + 1) env = whileN t b ks n env
  | 0, _, h => absurd rfl h
  | n + 1, env, h => by
    rw [whileN, whileN]
    rw [whileN] at h
    cases ht : t env with
    | bad => rw [ht] at h; exact absurd rfl h
    | exc e => rfl
    | ok k =>
      rw [ht] at h
      cases k with
      | false => rfl
      | true =>
        simp only [R.ok_bind, if_true] at h ⊢
        cases hb : b env with
        | bad => rw [hb] at h; exact absurd rfl h
        | exc e => rfl
        | ok o =>
          rw [hb] at h
          simp only [R.ok_bind] at h ⊢
          cases o with
          | nx e => exact whileN_succ t b ks n _ h
          | ct e => exact whileN_succ t b ks n _ h
          | bk e => rfl
          | ret c e => rfl
theorem whileN_le {t : Env → R Bool} {b : Env → R Out} {ks : List Nat} {n m : Nat} {env : Env} (hn : n ≤ m) (h : whileN t b ks n env ≠ .bad) : whileN t b ks m env = whileN t b ks n env := by
  induction hn with
  | refl => rfl
  | step _ ih => rw [whileN_succ _ _ _ _ _ (by rw [ih]; exact h), ih]
open Classical in
noncomputable def whileX (t : Env → R Bool) (b : Env → R Out) (ks : List Nat) (env : Env) : R Out :=
  if h : ∃ n, whileN t b ks n env ≠ .bad then whileN t b ks (Classical.choose h) env else .bad
theorem whileX_of {t : Env → R Bool} {b : Env → R Out} {ks : List Nat} {n : Nat} {env : Env} {r : R Out} (h : whileN t b ks n env = r) (hr : r ≠ .bad) : whileX t b ks env = r := by
  have ex : ∃ n, whileN t b ks n env ≠ .bad := ⟨n, by rw [h]; exact hr⟩
  unfold whileX
  rw [dif_pos ex]
  have hc := Classical.choose_spec ex
  rcases Nat.le_total n (Classical.choose ex) with q | q
  · rw [whileN_le q (by rw [h]; exact hr), h]
  · rw [← whileN_le q hc, h]
theorem whileX_run {t : Env → R Bool} {b : Env → R Out} {ks : List Nat} {env : Env} (hr : whileX t b ks env ≠ .bad) : ∃ n, whileN t b ks n env = whileX t b ks env := by
  unfold whileX at hr ⊢
  split
  · exact ⟨_, rfl⟩
  · rename_i h
    rw [dif_neg h] at hr
    exact absurd rfl hr
noncomputable def sWhile (t : Env → R Bool) (b : Env → R Out) (ks : List Nat) : Env → R Out := fun env => whileX t b ks (kill ks env)
theorem Ways.nbad {α : Type} {g : G} {E : XK} {F H : Hp} {r : R α} {Q : α → Prop} (h : Ways g E F H r Q) : r ≠ .bad := by
  rcases h with ⟨_, z, _⟩ | ⟨_, z, _⟩ <;> (rw [z]; intro q; cases q)
theorem xs_while {c : Expr} {body : List Stmt} {t : Env → R Bool} {m : Env → R Out} (ks : List Nat) (hp : PassesOwn (model X.prog X.w) X.A X.env X.xe) (hc : XT X E c t) (hb : XSs X E body m) : XS X E (.While c body [] pos) (sWhile t m ks) := by
  refine ps_of (ps_while hp hc hb) fun Dn σ H ⟨P, F0, H0, F, env, r, q⟩ => ?_
  obtain ⟨n, hn⟩ := whileX_run q.nbad
  refine ⟨fun k σ' H' => ∃ F' env', Rel X.g P F0 H0 F' H' σ' env' ∧ Ways X.g E F0 H0 (whileN t m ks k env') (OutOk X.g P F0 H0 Dn), ⟨n, F, _, r.kill ks, by rw [hn]; exact q⟩, ?_⟩
  rintro k σ1 H1 ⟨F1, env1, r1, q1⟩
  cases k with
  | zero => exact absurd rfl q1.nbad
  | succ k =>
    rw [whileN] at q1
    refine ⟨P, F0, H0, F1, env1, r1, ((Ways.bind q1).step r1.stp).mono fun bo _ w F2 H2 s2 => ?_⟩
    cases bo with
    | false =>
      obtain ⟨_, z', q⟩ := w.get (fun e z => by cases z)
      cases z'
      exact q _ F2 H2 (r1.step s2)
    | true =>
      simp only [if_true] at w ⊢
      refine ⟨fun σ' H' => ∃ F' env', Rel X.g P F0 H0 F' H' σ' env' ∧ Ways X.g E F0 H0 (whileN t m ks k env') (OutOk X.g P F0 H0 Dn), fun σ' H' h => ⟨k, Nat.lt_succ_self k, h⟩, ?_⟩
      refine ⟨P, F0, H0, F2, env1, r1.step s2, (Ways.bind w).mono fun o _ w => ?_⟩
      cases o with
      | nx e => exact fun σ' F' H' r' => ⟨F', _, r'.kill ks, w⟩
      | ct e => exact fun σ' F' H' r' => ⟨F', _, r'.kill ks, w⟩
      | bk e =>
        obtain ⟨_, z', q⟩ := w.get (fun e z => by cases z)
        cases z'
        exact fun σ' F' H' r' => q σ' F' H' (r'.kill ks)
      | ret c e =>
        obtain ⟨_, z', q⟩ := w.get (fun e z => by cases z)
        cases z'
        exact q

/-! ### what a loop walks -/
/-- an iterator over ds: B the heap it leans on -/
def Ydl (g : G) (F B : Hp) (J : It) (ds : List D) : Prop := ∀ i H', Ex B H' → match ds[i]? with
  | some d => J.go i H' ∧ ∀ x H'', J.yld i H' x H'' → H'' = H' ∧ Rp g F x d
  | none => J.stop i H'
def tI (g : G) (E : XK) (m : Env → R (List D)) : TI := fun σ H Rr => ∃ P F0 H0 F env, Rel g P F0 H0 F H σ env ∧ Ways g E F H (m env) fun ds => ∀ J F' H', Stp F H F' H' → Ydl g F' F' J ds → Rr J H'
def tIc (g : G) (E : XK) (m : Env → R (List D)) : TI := fun σ H Rr => ∃ P F0 H0 F env, Rel g P F0 H0 F H σ env ∧ Ways g E F H (m env) fun ds => ∀ J F' H', Stp F H F' H' → Ydl g F' H' J ds → Rr J H'
/-- a statement's, a comprehension's source -/
def XI (X : Cx) (E : XK) (tg e : Expr) (m : Env → R (List D)) : Prop := PI X tg e (tI X.g E m)
def XIc (X : Cx) (E : XK) (tg e : Expr) (m : Env → R (List D)) : Prop := PI X tg e (tIc X.g E m)
theorem pi_of {tg e : Expr} {t t' : TI} (h : PI X tg e t) (i : ∀ σ H Q, t' σ H Q → t σ H Q) : PI X tg e t' := ⟨fun pins s σ H Q I q => h.run pins s σ H Q I (i σ H Q q)⟩
theorem pi_or {tg e : Expr} {t t' : TI} (h : PI X tg e t) (h' : PI X tg e t') : PI X tg e (fun σ H Rr => t σ H Rr ∨ t' σ H Rr) := ⟨fun pins s σ H Q I q => by
  rcases q with q | q
  · exact h.run pins s σ H Q I q
  · exact h'.run pins s σ H Q I q⟩
theorem ydl_l {g : G} {F B : Hp} {a : Addr} {vs : List V} {ds : List D} (h : B a = some (.lst vs)) (r : RpL g F vs ds) : Ydl g F B (Itl g.K a) ds := fun i H' i' => by
  have hs : SqL g.K H' a vs := .inl (.inl (i' _ _ h))
  cases hd : ds[i]? with
  | some d =>
    obtain ⟨v, hv, rv⟩ := r.get hd
    refine ⟨⟨vs, v, hs, hv⟩, fun x H'' ⟨e, q⟩ => ⟨e, ?_⟩⟩
    have := q vs hs
    rw [hv] at this
    cases this
    exact rv
  | none => exact ⟨vs, hs, by rw [r.length]; exact List.getElem?_eq_none_iff.mp hd⟩
theorem ydl_t {g : G} {F B : Hp} {a : Addr} {vs : List V} {ds : List D} (h : SqT g.K B a vs) (r : RpL g F vs ds) : Ydl g F B (Itt g.K a) ds := fun i H' i' => by
  have hs : SqT g.K H' a vs := ex_t i' h
  cases hd : ds[i]? with
  | some d =>
    obtain ⟨v, hv, rv⟩ := r.get hd
    refine ⟨⟨vs, v, hs, hv⟩, fun x H'' ⟨e, q⟩ => ⟨e, ?_⟩⟩
    have := q vs hs
    rw [hv] at this
    cases this
    exact rv
  | none => exact ⟨vs, hs, by rw [r.length]; exact List.getElem?_eq_none_iff.mp hd⟩
def rangeD (lo : Int) (n : Nat) : List D := (List.range n).map fun i => .int (lo + (i : Nat))
theorem ydl_r {g : G} {F B : Hp} (lo : Int) (n : Nat) : Ydl g F B (Itr lo n) (rangeD lo n) := fun i H' _ => by
  unfold rangeD
  rw [List.getElem?_map]
  by_cases h : i < n
  · rw [List.getElem?_range h]
    refine ⟨h, fun x H'' ⟨e, q⟩ => ⟨e, ?_⟩⟩
    rw [q]
    exact .int _
  · rw [List.getElem?_eq_none_iff.mpr (by rw [List.length_range]; omega)]
    show n ≤ i
    omega
def strD (x : Str) : List D := x.cps.toList.map fun c => .str ⟨#[c]⟩
theorem ydl_s {g : G} {F B : Hp} (x : Str) : Ydl g F B (Its x) (strD x) := fun i H' _ => by
  unfold strD
  rw [List.getElem?_map, Array.getElem?_toList]
  cases h : x.cps[i]? with
  | some c =>
    refine ⟨(Array.getElem?_eq_some_iff.mp h).1, fun v H'' ⟨e, c', q, q'⟩ => ⟨e, ?_⟩⟩
    rw [h] at q
    cases q
    rw [q']
    exact .str _
  | none => exact Array.getElem?_eq_none_iff.mp h
/-- what is walked, by its kind -/
def items : D → R (List D)
  | .list xs => .ok xs
  | .tuple xs => .ok xs
  | .str x => .ok (strD x)
  | _ => .bad
theorem items_nox (d : D) (e : Exc) : items d ≠ .exc e := by cases d <;> intro z <;> cases z
def iE (m : Env → R Cell) : Env → R (List D) := fun env => do
  let c ← m env
  let d ← c.get
  items d
def iR (m : Env → R D) : Env → R (List D) := fun env => m env >>= items
/-- over a value (frozen), as a statement walks it -/
theorem xi_e {tg : Expr} {m : Env → R Cell} (h : XE X E e m) : XI X E tg e (iE m) := by
  refine pi_of (pi_or (pi_list h) (pi_or (pi_tup h) (pi_str h))) fun σ H Rr ⟨P, F0, H0, F, env, r, q⟩ => ?_
  -- which one it is
  have q1 := Ways.bind q
  rcases q1 with ⟨c, z, w⟩ | ⟨ex, z, w⟩
  · obtain ⟨d, zd, w⟩ := (Ways.bind w).get (get_nox c)
    obtain ⟨ds, zi, q⟩ := w.get (items_nox d)
    cases d with
    | list xs =>
      cases zi
      refine .inl ⟨P, F0, H0, F, env, r, .inl ⟨c, z, fun v F1 H1 s1 ro => ?_⟩⟩
      obtain ⟨F2, s2, rd⟩ := ro.frz s1 zd
      cases rd with | lst hl rl =>
      exact ⟨_, rfl, ⟨_, .inl (.inl (s2.i _ _ hl))⟩, q _ F2 H1 s2 (ydl_l hl rl)⟩
    | tuple xs =>
      cases zi
      refine .inr (.inl ⟨P, F0, H0, F, env, r, .inl ⟨c, z, fun v F1 H1 s1 ro => ?_⟩⟩)
      obtain ⟨F2, s2, rd⟩ := ro.frz s1 zd
      cases rd with | tup hl rl =>
      exact ⟨_, rfl, ⟨_, ex_t s2.i hl⟩, q _ F2 H1 s2 (ydl_t hl rl)⟩
    | str x =>
      cases zi
      refine .inr (.inr ⟨P, F0, H0, F, env, r, .inl ⟨c, z, fun v F1 H1 s1 ro => ?_⟩⟩)
      obtain ⟨F2, s2, rd⟩ := ro.frz s1 zd
      cases rd
      exact ⟨_, rfl, q _ F2 H1 s2 (ydl_s x)⟩
    | _ => cases zi
  · exact .inl ⟨P, F0, H0, F, env, r, .inr ⟨ex, z, w⟩⟩
/-- over a value read, as a comprehension walks it -/
theorem xic_r {tg : Expr} {m : Env → R D} (h : XR X E e m) : XIc X E tg e (iR m) := by
  refine pi_of (pi_or (pi_list h) (pi_or (pi_tup h) (pi_str h))) fun σ H Rr ⟨P, F0, H0, F, env, r, q⟩ => ?_
  have q1 := Ways.bind q
  rcases q1 with ⟨d, z, w⟩ | ⟨ex, z, w⟩
  · obtain ⟨ds, zi, q⟩ := w.get (items_nox d)
    cases d with
    | list xs =>
      cases zi
      refine .inl ⟨P, F0, H0, F, env, r, .inl ⟨_, z, fun v F1 H1 s1 ro => ?_⟩⟩
      obtain ⟨a, vs, rfl, hl, rl⟩ := ro.lst s1.i
      exact ⟨_, rfl, ⟨_, .inl (.inl hl)⟩, q _ F1 H1 s1 (ydl_l hl rl)⟩
    | tuple xs =>
      cases zi
      refine .inr (.inl ⟨P, F0, H0, F, env, r, .inl ⟨_, z, fun v F1 H1 s1 ro => ?_⟩⟩)
      obtain ⟨a, vs, rfl, hl, rl⟩ := ro.tup s1.i
      exact ⟨_, rfl, ⟨_, ex_t s1.i hl⟩, q _ F1 H1 s1 (ydl_t (ex_t s1.i hl) rl)⟩
    | str x =>
      cases zi
      refine .inr (.inr ⟨P, F0, H0, F, env, r, .inl ⟨_, z, fun v F1 H1 s1 ro => ?_⟩⟩)
      rw [ro.str]
      exact ⟨_, rfl, q _ F1 H1 s1 (ydl_s x)⟩
    | _ => cases zi
  · exact .inl ⟨P, F0, H0, F, env, r, .inr ⟨ex, z, w⟩⟩
theorem XI.c {tg : Expr} {m : Env → R (List D)} (h : XI X E tg e m) : XIc X E tg e m :=
  pi_of h fun σ H Rr ⟨P, F0, H0, F, env, r, q⟩ => ⟨P, F0, H0, F, env, r, q.mono fun ds _ q J F' H' s y => q J F' H' s fun i H'' i' => y i H'' (s.i.trans i')⟩
/-- ranges -/
def Rg (i : Int) : Prop := -(2 ^ 62) ≤ i ∧ i < 2 ^ 62
instance (i : Int) : Decidable (Rg i) := inferInstanceAs (Decidable (_ ∧ _))
def iRange1 : List D → R (List D)
  | [.int n] => if Rg n then .ok (rangeD 0 n.toNat) else .bad
  | _ => .bad
def iRange2 : List D → R (List D)
  | [.int i, .int j] => if Rg i ∧ Rg j then .ok (rangeD i (j - i).toNat) else .bad
  | _ => .bad
theorem iRange1_nox (ds : List D) (e : Exc) : iRange1 ds ≠ .exc e := by
  unfold iRange1
  split <;> first | exact if_nox e | (intro z; cases z)
theorem iRange2_nox (ds : List D) (e : Exc) : iRange2 ds ≠ .exc e := by
  unfold iRange2
  split <;> first | exact if_nox e | (intro z; cases z)
def iRa1 (m : Env → R (List D)) : Env → R (List D) := fun env => m env >>= iRange1
def iRa2 (m : Env → R (List D)) : Env → R (List D) := fun env => m env >>= iRange2
theorem xi_range1 {tg : Expr} {m : Env → R (List D)} {p : Pos} (hg : Gl X "range") (hm : X.mg "range" = none) (ha : XAr X E [a] m) (hs : starEach [a] X.env = [(false, eval a X.env)] := by rfl) : XI X E tg (.Call (.Name "range" p) [a] [] pos) (iRa1 m) := by
  refine pi_of (pi_range1 hg hm ha hs) fun σ H Rr ⟨P, F0, H0, F, env, r, q⟩ => ?_
  refine ⟨P, F0, H0, F, env, r, (Ways.bind q).mono fun ds _ w vs F1 H1 s1 vi => ?_⟩
  obtain ⟨xs, z, q⟩ := w.get (iRange1_nox ds)
  unfold iRange1 at z
  split at z
  · obtain ⟨hr, rfl⟩ := if_ok z
    cases vi with | cons v1 r1 =>
    cases r1
    exact ⟨_, by rw [v1.int], hr.1, hr.2, q _ F1 H1 s1 (ydl_r _ _)⟩
  · cases z
theorem xi_range2 {tg : Expr} {m : Env → R (List D)} {p : Pos} (hg : Gl X "range") (hm : X.mg "range" = none) (ha : XAr X E [a, b] m) (hs : starEach [a, b] X.env = [(false, eval a X.env), (false, eval b X.env)] := by rfl) (hs2 : starEach [b] X.env = [(false, eval b X.env)] := by rfl) : XI X E tg (.Call (.Name "range" p) [a, b] [] pos) (iRa2 m) := by
  refine pi_of (pi_range2 hg hm ha hs hs2) fun σ H Rr ⟨P, F0, H0, F, env, r, q⟩ => ?_
  refine ⟨P, F0, H0, F, env, r, (Ways.bind q).mono fun ds _ w vs F1 H1 s1 vi => ?_⟩
  obtain ⟨xs, z, q⟩ := w.get (iRange2_nox ds)
  unfold iRange2 at z
  split at z
  · obtain ⟨hr, rfl⟩ := if_ok z
    cases vi with | cons v1 r1 =>
    cases r1 with | cons v2 r1 =>
    cases r1
    exact ⟨_, _, by rw [v1.int, v2.int], ⟨hr.1.1, hr.1.2, hr.2.1, hr.2.2⟩, q _ F1 H1 s1 (ydl_r _ _)⟩
  · cases z
/-- reversed ranges -/
theorem ydl_c {g : G} {F B : Hp} (lo c : Int) (n : Nat) (ds : List D) (h : ds = (List.range n).map fun i => .int (lo + (i : Nat) * c)) : Ydl g F B (Itc lo c n) ds := fun i H' _ => by
  rw [h, List.getElem?_map]
  by_cases hi : i < n
  · rw [List.getElem?_range hi]
    refine ⟨hi, fun x H'' ⟨e, q⟩ => ⟨e, ?_⟩⟩
    rw [q]
    exact .int _
  · rw [List.getElem?_eq_none_iff.mpr (by rw [List.length_range]; omega)]
    show n ≤ i
    omega
theorem range_rev (lo : Int) (n : Nat) : (rangeD lo n).reverse = (List.range n).map fun i => .int (lo + ((n : Nat) : Int) - 1 + (i : Nat) * (-1)) := by
  apply List.ext_getElem?
  intro i
  unfold rangeD
  rw [List.getElem?_map]
  by_cases hi : i < n
  · rw [List.getElem?_range hi, List.getElem?_reverse (by simpa using hi), List.getElem?_map, List.length_map, List.length_range, List.getElem?_range (by omega)]
    show some (PyData.int _) = some (PyData.int _)
    congr 2
    omega
  · rw [List.getElem?_eq_none_iff.mpr (show ((List.range n).map fun i : Nat => PyData.int (lo + (i : Nat))).reverse.length ≤ i by simp; omega), List.getElem?_eq_none_iff.mpr (show (List.range n).length ≤ i by simp; omega)]
    rfl
def iRv (m : Env → R (List D)) : Env → R (List D) := fun env => do
  let ds ← m env
  return ds.reverse
theorem xi_revR1 {tg : Expr} {m : Env → R D} {p p2 pos2 : Pos} (hg : Gl X "reversed") (hm : X.mg "reversed" = none) (hg2 : Gl X "range") (hm2 : X.mg "range" = none) (ha : XR X E a m) (na : starEach [a] X.env = (false, eval a X.env) :: starEach [] X.env := by rfl)
    (hs : starEach [.Call (.Name "range" p2) [a] [] pos2] X.env = (false, eval (.Call (.Name "range" p2) [a] [] pos2) X.env) :: starEach [] X.env := by rfl) : XI X E tg (.Call (.Name "reversed" p) [.Call (.Name "range" p2) [a] [] pos2] [] pos) (iRv (iRa1 (arCons m aNil))) := by
  refine pi_of (pi_revR hg hm (prg_1 hg2 hm2 ha na) hs) fun σ H Rr ⟨P, F0, H0, F, env, r, q⟩ => ?_
  have q1 := Ways.bind (Ways.bind (Ways.bind q))
  refine ⟨P, F0, H0, F, env, r, q1.mono fun d _ w v F1 H1 s1 v1 => ?_⟩
  simp only [aNil, R.ok_bind] at w
  obtain ⟨ds, z0, w⟩ := w.get (fun e z => by cases z)
  cases z0
  obtain ⟨ds, z, w⟩ := w.get (iRange1_nox _)
  unfold iRange1 at z
  split at z
  · rename_i n heq
    cases heq
    obtain ⟨hr, rfl⟩ := if_ok z
    obtain ⟨_, z', q⟩ := w.get (fun e z => by cases z)
    cases z'
    refine ⟨n, v1.int, by omega, by omega, hr.1, hr.2, q _ F1 H1 s1 (ydl_c _ _ _ _ ?_)⟩
    rw [range_rev]
    simp
  · cases z
theorem xi_revR2 {tg : Expr} {m n : Env → R D} {p p2 pos2 : Pos} (hg : Gl X "reversed") (hm : X.mg "reversed" = none) (hg2 : Gl X "range") (hm2 : X.mg "range" = none) (ha : XR X E a m) (hb : XR X E b n) (na : starEach [a, b] X.env = (false, eval a X.env) :: starEach [b] X.env := by rfl) (nb : starEach [b] X.env = (false, eval b X.env) :: starEach [] X.env := by rfl) (hp2 : (backTo pos2 (starEach [b] X.env)).any (·.1) = false := by rfl)
    (hs : starEach [.Call (.Name "range" p2) [a, b] [] pos2] X.env = (false, eval (.Call (.Name "range" p2) [a, b] [] pos2) X.env) :: starEach [] X.env := by rfl) : XI X E tg (.Call (.Name "reversed" p) [.Call (.Name "range" p2) [a, b] [] pos2] [] pos) (iRv (iRa2 (arCons m (arCons n aNil)))) := by
  refine pi_of (pi_revR hg hm (prg_2 hg2 hm2 ha hb na nb (hp := hp2)) hs) fun σ H Rr ⟨P, F0, H0, F, env, r, q⟩ => ?_
  have q1 := Ways.bind (Ways.bind (Ways.bind q))
  refine ⟨P, F0, H0, F, env, r, q1.mono fun d _ w v F1 H1 s1 v1 => ?_⟩
  refine ⟨P, F0, H0, F1, env, r.step s1, ((Ways.bind (Ways.bind w)).step s1).mono fun d2 _ w u F2 H2 s2 v2 => ?_⟩
  simp only [aNil, R.ok_bind] at w
  obtain ⟨ds, z0, w⟩ := w.get (fun e z => by cases z)
  cases z0
  obtain ⟨ds, z0, w⟩ := w.get (fun e z => by cases z)
  cases z0
  obtain ⟨ds, z, w⟩ := w.get (iRange2_nox _)
  unfold iRange2 at z
  split at z
  · rename_i i j heq
    cases heq
    obtain ⟨hr, rfl⟩ := if_ok z
    obtain ⟨_, z', q⟩ := w.get (fun e z => by cases z)
    cases z'
    exact ⟨i, j, (v1.step s2).int, v2.int, hr.1.1, hr.1.2, hr.2.1, hr.2.2, q _ F2 H2 (s1.trans s2) (ydl_c _ _ _ _ (range_rev _ _))⟩
  · cases z
end

/-! ### targets, for -/
def tG (g : G) (f : D → Env → R Env) : TG := fun v σ H Q => ∃ P F0 H0 F env d env', Rel g P F0 H0 F H σ env ∧ Rp g F v d ∧ f d env = .ok env' ∧ ∀ σ', Rel g P F0 H0 F H σ' env' → Q σ' H
def XG (X : Cx) (e : Expr) (f : D → Env → R Env) : Prop := PG X e (tG X.g f)
def tGs (g : G) (f : List D → Env → R Env) : TGs := fun vs σ H Q => ∃ P F0 H0 F env ds env', Rel g P F0 H0 F H σ env ∧ RpL g F vs ds ∧ f ds env = .ok env' ∧ ∀ σ', Rel g P F0 H0 F H σ' env' → Q σ' H
def XGs (X : Cx) (es : List Expr) (f : List D → Env → R Env) : Prop := PGs X es (tGs X.g f)
section
variable {X : Cx} {E : XK} {e a b : Expr} {es : List Expr} {pos : Pos} {st : Stmt} {sts : List Stmt}
theorem pg_of {t t' : TG} (h : PG X e t) (i : ∀ v σ H Q, t' v σ H Q → t v σ H Q) : PG X e t' := ⟨fun pins s σ H v u Q I r q => h.run pins s σ H v u Q I r (i v σ H Q q)⟩
theorem pgs_of {t t' : TGs} (h : PGs X es t) (i : ∀ v σ H Q, t' v σ H Q → t v σ H Q) : PGs X es t' := ⟨fun pins s σ H v u Q I r q => h.run pins s σ H v u Q I r (i v σ H Q q)⟩
def gV (i : Nat) : D → Env → R Env := fun d env => setC i (.val d) env
theorem xg_name {i : Nat} {x : Str} (hN : X.N.Nodup) (hi : X.N[i]? = some x) (hx : Loc X.env.scope x) (hf : X.fn x = true ∨ X.env.scope.names.lookup x = some .local := by first | exact .inl rfl | exact .inr rfl | assumption) : XG X (.Name x pos) (gV i) :=
  pg_of (pg_name hN hi hx hf) fun v σ H Q ⟨P, F0, H0, F, env, d, env', r, rv, z, q⟩ => by
    obtain ⟨c0, h0, hp, rfl⟩ := setC_ok z
    exact q _ (r.put (Stp.refl r.stp.i) (c := .val d) rv h0 hp)
def gsNil : List D → Env → R Env := fun ds env => match ds with
  | [] => .ok env
  | _ => .bad
def gsCons (f : D → Env → R Env) (fs : List D → Env → R Env) : List D → Env → R Env := fun ds env => match ds with
  | d :: ds => do
    let e ← f d env
    fs ds e
  | [] => .bad
theorem xgs_nil : XGs X [] gsNil := pgs_of pgs_nil fun v σ H Q ⟨P, F0, H0, F, env, ds, env', r, rv, z, q⟩ => by
  cases ds with
  | nil => cases z; cases rv; exact ⟨rfl, q σ r⟩
  | cons d ds => cases z
theorem xgs_cons {f : D → Env → R Env} {fs : List D → Env → R Env} (h1 : XG X e f) (h2 : XGs X es fs)
    (hs : (assignEach (e :: es) X.env).map (·.2) = assign e X.env :: (assignEach es X.env).map (·.2) := by rfl) : XGs X (e :: es) (gsCons f fs) :=
  pgs_of (pgs_cons h1 h2 hs) fun v σ H Q ⟨P, F0, H0, F, env, ds, env', r, rv, z, q⟩ => by
    cases ds with
    | nil => cases z
    | cons d ds =>
      cases rv with | cons r1 r2 =>
      obtain ⟨e1, z1, z2⟩ := R.bind_ok z
      exact ⟨_, _, rfl, P, F0, H0, F, env, d, e1, r, r1, z1, fun σ' r' => ⟨P, F0, H0, F, e1, ds, env', r', r2, z2, q⟩⟩
def gT (n : Nat) (fs : List D → Env → R Env) : D → Env → R Env := fun d env => match d with
  | .tuple ds => if ds.length = n then fs ds env else .bad
  | _ => .bad
theorem xg_tup {k n : Nat} {fs : List D → Env → R Env} (hc : X.calm = true) (h : XGs X es fs) (hn : (assignEach es X.env).length = n := by rfl) (hst : (assignEach es X.env).findIdx? (·.1) = none := by rfl) : XG X (.Tuple es k pos) (gT n fs) :=
  pg_of (pg_tup hc h hn hst) fun v σ H Q ⟨P, F0, H0, F, env, d, env', r, rv, z, q⟩ => by
    cases d with
    | tuple ds =>
      cases rv with | tup h1 r1 =>
      unfold gT at z
      simp only at z
      split at z
      · rename_i hl
        exact ⟨_, _, rfl, ex_t r.stp.i h1, by rw [r1.length]; exact hl, P, F0, H0, F, env, ds, env', r, r1, z, q⟩
      · cases z
    | _ => cases z
/-- a tuple target of an assignment -/
def sUnp (f : D → Env → R Env) (m : Env → R Cell) : Env → R Out := fun env => do
  let c ← m env
  let d ← c.get
  match f d env with
  | .ok e => return .nx e
  | _ => .bad
theorem xs_unp {tg : Expr} {f : D → Env → R Env} {m : Env → R Cell} (he : XE X E e m) (hg : XG X tg f) (hs : swapsWithSole [tg] e pos.line X.env = pure false := by rfl) (hw : swappedStores [tg] e X.env = pure none := by rfl)
    (h1 : (assignEach [tg] X.env).map (·.2) = [assign tg X.env] := by rfl) : XS X E (.Assign [tg] e pos) (sUnp f m) := by
  refine ps_of (ps_asg he hg hs hw h1) fun Dn σ H ⟨P, F0, H0, F, env, r, q⟩ => ?_
  refine ⟨P, F0, H0, F, env, r, ((Ways.bind q).step r.stp).mono fun c _ w v F1 H1 s1 ro => ?_⟩
  obtain ⟨d, zd, w⟩ := (Ways.bind w).get (get_nox c)
  obtain ⟨F2, s2, rd⟩ := ro.frz s1 zd
  cases hf : f d env with
  | ok e =>
    rw [hf] at w
    obtain ⟨_, z', q⟩ := w.get (fun e z => by cases z)
    cases z'
    exact ⟨P, F0, H0, F2, env, d, e, r.step s2, rd, hf, fun σ' r' => q σ' F2 H1 r'⟩
  | bad => rw [hf] at w; exact absurd rfl w.nbad
  | exc e => rw [hf] at w; exact absurd rfl w.nbad
def forR (f : D → Env → R Env) (b : Env → R Out) (ks : List Nat) : List D → Env → R Out
  | [], env => .ok (.nx env)
  | d :: ds, env =>
    match f d env with
    | .ok e1 => do
      match ← b e1 with
      | .nx e => forR f b ks ds (kill ks e)
      | .ct e => forR f b ks ds (kill ks e)
      | .bk e => return .nx (kill ks e)
      | .ret c e => return .ret c e
    | _ => .bad
def sFor (f : D → Env → R Env) (it : Env → R (List D)) (b : Env → R Out) (ks : List Nat) : Env → R Out := fun env => do
  let ds ← it env
  forR f b ks ds (kill ks env)
theorem xs_for {tg iter : Expr} {body : List Stmt} {f : D → Env → R Env} {it : Env → R (List D)} {m : Env → R Out} (ks : List Nat) (hp : PassesOwn (model X.prog X.w) X.A X.env X.xe) (hc : X.calm = true) (hi : XI X E tg iter it) (hg : XG X tg f) (hb : XSs X E body m)
    (hs : ∀ x, foldedSetIterable iter X.env x = pure x := by intro _; rfl) : XS X E (.For tg iter body [] pos) (sFor f it m ks) := by
  refine ps_of (ps_for hp hc hi hg hb hs) fun Dn σ H ⟨P, F0, H0, F, env, r, q⟩ => ?_
  refine ⟨P, F0, H0, F, env, r, ((Ways.bind q).step r.stp).mono fun ds _ w J F1 H1 s1 y => ?_⟩
  have r1 := r.step s1
  have w1 := (w.unbase r1.stp).mono fun o _ h => OutOk.unbase r1.stp h
  refine ⟨fun i k σ' H' => k = ds.length - i ∧ i ≤ ds.length ∧ ∃ F' env', Rel X.g P F1 H0 F' H' σ' env' ∧ Ways X.g E F1 H0 (forR f m ks (ds.drop i) env') (OutOk X.g P F1 H0 Dn), ⟨ds.length, by simp, Nat.zero_le _, F1, _, (r1.rebase).kill ks, w1⟩, ?_⟩
  rintro i k σ2 H2 ⟨rfl, hi, F2, env2, r2, w2⟩
  have yi := y i H2 (r2.stp.f.trans r2.stp.i)
  by_cases hlt : i < ds.length
  · have hd : ds[i]? = some ds[i] := List.getElem?_eq_getElem hlt
    rw [hd] at yi
    obtain ⟨go, yl⟩ := yi
    rw [List.drop_eq_getElem_cons hlt, forR] at w2
    cases hf : f ds[i] env2 with
    | bad => rw [hf] at w2; exact absurd rfl w2.nbad
    | exc e => rw [hf] at w2; exact absurd rfl w2.nbad
    | ok e1 =>
      rw [hf] at w2
      refine .inr ⟨go, fun σ' H' => ∃ F' env', Rel X.g P F1 H0 F' H' σ' env' ∧ Ways X.g E F1 H0 (forR f m ks (ds.drop (i + 1)) env') (OutOk X.g P F1 H0 Dn), fun σ' H' h => ⟨ds.length - (i + 1), by omega, rfl, hlt, h⟩, fun x H' yx => ?_⟩
      obtain ⟨rfl, rx⟩ := yl x H' yx
      refine ⟨P, F1, H0, F2, env2, ds[i], e1, r2, rx.mono r2.stp.f, hf, fun σ' r' => ?_⟩
      refine ⟨P, F1, H0, F2, e1, r', (Ways.bind w2).mono fun o _ w => ?_⟩
      cases o with
      | nx e => exact fun σ' F' H' r' => ⟨F', _, r'.kill ks, w⟩
      | ct e => exact fun σ' F' H' r' => ⟨F', _, r'.kill ks, w⟩
      | bk e =>
        obtain ⟨_, z', q⟩ := w.get (fun e z => by cases z)
        cases z'
        exact fun σ' F' H' r' => q σ' F' H' (r'.kill ks)
      | ret c e =>
        obtain ⟨_, z', q⟩ := w.get (fun e z => by cases z)
        cases z'
        exact q
  · have e : i = ds.length := by omega
    subst e
    rw [List.getElem?_eq_none_iff.mpr (Nat.le_refl _)] at yi
    rw [List.drop_length, forR] at w2
    obtain ⟨_, z', q⟩ := w2.get (fun e z => by cases z)
    cases z'
    exact .inl ⟨yi, q σ2 F2 H2 r2⟩
end
end Lw


namespace Lw
open PySem PySem.Spec PyProof.Rows L2 Evl
/-! ### defs -/
def spD (g : G) (n : Nat) (f : List D → R Cell) : Sp := fun vs H Q E => ∃ F ds, Ex F H ∧ RpL g F vs ds ∧ vs.length = n ∧ Ways g E F H (f ds) fun c => ∀ v F' H', Stp F H F' H' → ResOk g H F' H' v c → Q v H'
def runF (N n : Nat) (m : Env → R Out) (ds : List D) : R Cell :=
  if ds.length = n then
    match m (ds.map Cell.val ++ List.replicate (N - n) Cell.non) with
    | .ok (.ret c _) => .ok c
    | .ok (.nx _) => .ok (.val .none)
    | .exc e => .exc e
    | _ => .bad
  else .bad
/-- a def that raises nothing -/
def runP (N n : Nat) (m : Env → R Out) (ds : List D) : R Cell := pur (runF N n m ds)
structure PureF (f : List D → R Cell) (n : Nat) : Prop where
  nox : ∀ ds e, f ds ≠ .exc e
  len : ∀ ds c, f ds = .ok c → ds.length = n
theorem runF_len {N n : Nat} {m : Env → R Out} {ds : List D} (h : runF N n m ds ≠ .bad) : ds.length = n := by
  unfold runF at h
  split at h
  · assumption
  · exact absurd rfl h
theorem pure_runP (N n : Nat) (m : Env → R Out) : PureF (runP N n m) n :=
  ⟨fun ds e => pur_nox _ e, fun ds c h => runF_len (m := m) (N := N) (by rw [pur_is h]; intro z; cases z)⟩
theorem pure_bad (n : Nat) : PureF (fun _ => .bad) n := ⟨fun _ _ z => by (cases z), fun _ _ z => by (cases z)⟩
theorem rel_start {g : G} {F H : Hp} {vs : List V} {ds : List D} {N : List Str} {n : Nat} (i : Ex F H) (r : RpL g F vs ds) (hl : vs.length = n) (hn : n ≤ N.length) :
    Rel g [] F H F H (L2.start N vs) (ds.map Cell.val ++ List.replicate (N.length - n) Cell.non) := by
  have hlen := r.length
  refine ⟨Stp.refl i, by simp [L2.start, hlen]; omega, fun j c e => ?_, fun j k c c' x hjk ej ek mj mk sj sk => ?_, fun p hp => by cases hp⟩
  · unfold L2.start
    by_cases hj : j < ds.length
    · rw [List.getElem?_append_left (by simpa using hj), List.getElem?_map, List.getElem?_eq_getElem hj] at e
      cases e
      obtain ⟨v, hv, rv⟩ := r.get (i := j) (List.getElem?_eq_getElem hj)
      refine ⟨v, ?_, rv⟩
      rw [List.getElem?_append_left (by simp; omega), List.getElem?_map, hv]
      rfl
    · rw [List.getElem?_append_right (by simp; omega)] at e
      have := List.getElem?_replicate ▸ e
      split at this
      · cases this; trivial
      · cases this
  · have no : ∀ (j : Nat) (c : Cell), (ds.map Cell.val ++ List.replicate (N.length - n) Cell.non)[j]? = some c → c.mut = false := fun j c e => by
      by_cases hj : j < ds.length
      · rw [List.getElem?_append_left (by simpa using hj), List.getElem?_map, List.getElem?_eq_getElem hj] at e
        cases e; rfl
      · rw [List.getElem?_append_right (by simp; omega)] at e
        have := List.getElem?_replicate ▸ e
        split at this
        · cases this; rfl
        · cases this
    rw [no j c ej] at mj
    cases mj
section
variable {P : Program} {w : World} {K : PySem.W.Frag} {mg : Str → Option Value} {base : Heap} {x qual : Str} {params : Arguments} {body : List Stmt} {scope : Scope} {f : Addr} {fd : FuncData} {N ps : List Str} {k : Nat}
theorem spD_len {g : G} {n : Nat} {fg : List D → R Cell} {vs : List V} {H : Hp} {Q : VK} {E : XK} (h : spD g n fg vs H Q E) : vs.length = n := by
  obtain ⟨_, _, _, _, h, _⟩ := h
  exact h
theorem fn_ok {m : Env → R Out} (F : FunD K x qual params body scope [] [] f fd) (S : FnScope N ps scope) (hn : ps.length ≤ N.length)
    (hbody : ∀ (cdv : Value) (A : Around) (outer : List PySem.Env) (s : Shared) (H : Hp) (E : XK), Room k (A.deeper (envOfC qual scope s.heap.objs.size f cdv)) → XSs (cxOf CX0 P w K mg base N qual scope f cdv A outer s H E).nox E0 body m) :
    FnOk P w K mg base CX0 (k + 1) f fd ps (spD ⟨P, w, K, mg, base⟩ ps.length (runP N.length ps.length m)) := by
  refine F.ok S (fun vs H Q E h => spD_len h) fun cdv A outer s H vs Q E hr h => ⟨_, PSs.nox (hbody cdv A outer s H E hr), ?_⟩
  obtain ⟨F', ds, i, r, hl, w⟩ := h
  obtain ⟨c, z, q⟩ := w.get ((pure_runP _ _ _).nox ds)
  have z := pur_is z
  have hd : ds.length = ps.length := by rw [← r.length]; exact hl
  unfold runF at z
  rw [if_pos hd] at z
  refine ⟨[], F', H, F', _, rel_start i r hl hn, ?_⟩
  split at z
  · rename_i c' e' hm
    cases z
    rw [hm]
    exact .inl ⟨_, rfl, fun v σ F'' H'' r' ro => q v F'' H'' r'.stp ro⟩
  · rename_i e' hm
    cases z
    rw [hm]
    exact .inl ⟨_, rfl, fun σ F'' H'' r' => q .non F'' H'' r'.stp Rp.non⟩
  · cases z
  · cases z
theorem fn_bad {CX : CXT} {g : G} : FnOk P w K mg base CX k f fd ps (spD g ps.length fun _ => .bad) :=
  ⟨fun vs H Q E h => spD_len h, fun A outer s H args us vs Q E hr he hb hv h => by
    obtain ⟨_, _, _, _, _, w⟩ := h
    exact absurd rfl w.nbad⟩
end
section
variable {X : Cx} {E : XK} {e a b : Expr} {es : List Expr} {pos : Pos}
def eCall (f : List D → R Cell) (m : Env → R (List D)) : Env → R Cell := fun env => do
  let ds ← m env
  f ds
theorem xe_call {k n : Nat} {f : Addr} {fd : FuncData} {ps : List Str} {fg : List D → R Cell} {x : Str} {p : Pos} {m : Env → R (List D)} (Fk : FnOk X.prog X.w X.K X.mg X.base CX0 k f fd ps (spD X.g n fg)) (pf : PureF fg n) (hr : Room k X.A) (hg : Gl X x) (hm : X.mg x = some (.ref f))
    (hk : PySem.W.keepIn X.K (.ref f) = true) (hb : Binds X.K fd ps []) (ha : XA X E (e :: es) m) (hdb : (x == ("__debug__" : Str)) = false := by decide)
    (he : starEach (e :: es) X.env = (false, eval e X.env) :: starEach es X.env := by rfl) (hpl : (backTo pos (starEach es X.env)).any (·.1) = false := by rfl) : XE X E (.Call (.Name x p) (e :: es) [] pos) (eCall fg m) := by
  refine pe_of (pe_call Fk hr hg hm hk hb .nil pass0 ha hdb he hpl) fun σ H Q ⟨P, F0, H0, F, env, r, q⟩ => ?_
  refine ⟨P, F0, H0, F, env, r, (Ways.bind q).mono fun ds _ w vs F1 H1 s1 rs => ?_⟩
  obtain ⟨c, z, q⟩ := w.get (pf.nox ds)
  rw [List.append_nil]
  exact ⟨F1, ds, s1.i, rs, by rw [rs.length]; exact pf.len ds c z, .inl ⟨c, z, fun v F2 H2 s2 ro => q v F2 H2 (s1.trans s2) (ro.back s1.h)⟩⟩
theorem xe_call0 {k : Nat} {f : Addr} {fd : FuncData} {ps : List Str} {fg : List D → R Cell} {x : Str} {p : Pos} (Fk : FnOk X.prog X.w X.K X.mg X.base CX0 k f fd ps (spD X.g 0 fg)) (pf : PureF fg 0) (hr : Room k X.A) (hg : Gl X x) (hm : X.mg x = some (.ref f))
    (hk : PySem.W.keepIn X.K (.ref f) = true) (hb : Binds X.K fd ps []) (hdb : (x == ("__debug__" : Str)) = false := by decide) : XE X E (.Call (.Name x p) [] [] pos) (eCall fg aNil) := by
  refine pe_of (pe_call0 Fk hr hg hm hk hb .nil pass0 hdb) fun σ H Q ⟨P, F0, H0, F, env, r, q⟩ => ?_
  have q1 : Ways X.g E F H (fg []) _ := q
  obtain ⟨c, z, q⟩ := q1.get (pf.nox [])
  exact ⟨F, [], r.stp.i, .nil, rfl, .inl ⟨c, z, q⟩⟩

/-! ### list comprehensions -/
def wipeE : List Nat → Env → R Env
  | [], env => .ok env
  | i :: is, env => do
    let e ← wipeE is env
    if isPin e[i]? = true then .bad else return e.set i .non
theorem wipeE_nox : ∀ (is : List Nat) (env : Env) (e : Exc), wipeE is env ≠ .exc e
  | [], _, _ => fun z => by cases z
  | i :: is, env, e => by
    rw [wipeE]
    cases h : wipeE is env with
    | bad => intro z; cases z
    | exc e' => exact absurd h (wipeE_nox is env e')
    | ok e1 =>
      simp only [R.ok_bind]
      split <;> (intro z; cases z)
theorem Rel.unset {g : G} {P F0 H0 F H σ env} (r : Rel g P F0 H0 F H σ env) {i : Nat} (hp : ¬ isPin env[i]? = true) : Rel g P F0 H0 F H (σ.set i none) (env.set i .non) := by
  have lift : ∀ (j : Nat) (c : Cell), (env.set i .non)[j]? = some c → c.mut = true → j ≠ i ∧ env[j]? = some c := fun j c e m => by
    by_cases hj : i = j
    · subst hj
      by_cases hi : i < env.length
      · rw [List.getElem?_set_self hi] at e; cases e; cases m
      · rw [List.getElem?_eq_none_iff.mpr (by simpa using hi)] at e; cases e
    · rw [List.getElem?_set_ne hj] at e
      exact ⟨Ne.symm hj, e⟩
  refine ⟨r.stp, by simp [r.len], fun j c e => ?_, fun j k c c' x hjk ej ek mj mk sj sk => ?_, fun p hp' => ?_⟩
  · by_cases hj : i = j
    · subst hj
      by_cases hi : i < env.length
      · rw [List.getElem?_set_self hi] at e; cases e; trivial
      · rw [List.getElem?_eq_none_iff.mpr (by simpa using hi)] at e; cases e
    · rw [List.getElem?_set_ne hj] at e ⊢
      exact r.cell j c e
  · obtain ⟨nj, ej'⟩ := lift j c ej mj
    obtain ⟨nk, ek'⟩ := lift k c' ek mk
    rw [List.getElem?_set_ne (Ne.symm nj)] at sj
    rw [List.getElem?_set_ne (Ne.symm nk)] at sk
    exact r.apart j k c c' x hjk ej' ek' mj mk sj sk
  · obtain ⟨⟨d, e⟩, es⟩ := r.pins p hp'
    have hne : i ≠ p.1 := fun z => by
      rw [z, e] at hp
      exact hp rfl
    rw [List.getElem?_set_ne hne, List.getElem?_set_ne hne]
    exact ⟨⟨d, e⟩, es⟩
theorem Rel.wipe {g : G} {P F0 H0 F H σ env} (r : Rel g P F0 H0 F H σ env) : ∀ {is : List Nat} {env' : Env}, wipeE is env = .ok env' → Rel g P F0 H0 F H (wipe σ is) env'
  | [], env', e => by cases e; exact r
  | i :: is, env', e => by
    rw [wipeE] at e
    obtain ⟨e1, z, e⟩ := R.bind_ok e
    split at e
    · cases e
    · rename_i hp
      cases e
      exact (Rel.wipe r z).unset hp
theorem wipe_set {σ : L2.St} {j : Nat} {x : Option V} : ∀ {vs : List Nat}, j ∈ vs → wipe (σ.set j x) vs = wipe σ vs
  | [], h => by cases h
  | v :: vs, h => by
    unfold wipe
    by_cases hj : j ∈ vs
    · rw [wipe_set hj]
    · have hv : j = v := by
        rcases List.mem_cons.mp h with z | z
        · exact z
        · exact absurd z hj
      subst hv
      have : ∀ {vs : List Nat}, j ∉ vs → wipe (σ.set j x) vs = (wipe σ vs).set j x := by
        intro vs
        induction vs with
        | nil => intro _; rfl
        | cons u us ih =>
          intro hn
          unfold wipe
          rw [ih (fun z => hn (List.mem_cons_of_mem _ z)), List.set_comm _ _ (fun z => hn (by rw [z]; exact List.mem_cons_self))]
      rw [this hj, List.set_set]
/-- targets of a comprehension: slots vs alone are stored -/
def tGc (g : G) (vs : List Nat) (f : D → Env → R Env) : TG := fun v σ H Q => ∃ P F0 H0 F env d env', Rel g P F0 H0 F H σ env ∧ Rp g F v d ∧ f d env = .ok env' ∧ ∀ σ', Rel g P F0 H0 F H σ' env' → wipe σ' vs = wipe σ vs → Q σ' H
def XGc (X : Cx) (vs : List Nat) (e : Expr) (f : D → Env → R Env) : Prop := PG X e (tGc X.g vs f)
def tGsc (g : G) (vs : List Nat) (f : List D → Env → R Env) : TGs := fun us σ H Q => ∃ P F0 H0 F env ds env', Rel g P F0 H0 F H σ env ∧ RpL g F us ds ∧ f ds env = .ok env' ∧ ∀ σ', Rel g P F0 H0 F H σ' env' → wipe σ' vs = wipe σ vs → Q σ' H
def XGsc (X : Cx) (vs : List Nat) (es : List Expr) (f : List D → Env → R Env) : Prop := PGs X es (tGsc X.g vs f)
theorem xgc_name {vs : List Nat} {i : Nat} {x : Str} (hm : i ∈ vs) (hN : X.N.Nodup) (hi : X.N[i]? = some x) (hx : Loc X.env.scope x) (hf : X.fn x = true ∨ X.env.scope.names.lookup x = some .local := by first | exact .inl rfl | exact .inr rfl | assumption) : XGc X vs (.Name x pos) (gV i) :=
  pg_of (pg_name hN hi hx hf) fun v σ H Q ⟨P, F0, H0, F, env, d, env', r, rv, z, q⟩ => by
    obtain ⟨c0, h0, hp, rfl⟩ := setC_ok z
    exact q _ (r.put (Stp.refl r.stp.i) (c := .val d) rv h0 hp) (wipe_set hm)
theorem xgsc_nil {vs : List Nat} : XGsc X vs [] gsNil := pgs_of pgs_nil fun v σ H Q ⟨P, F0, H0, F, env, ds, env', r, rv, z, q⟩ => by
  cases ds with
  | nil => cases z; cases rv; exact ⟨rfl, q σ r rfl⟩
  | cons d ds => cases z
theorem xgsc_cons {vs : List Nat} {f : D → Env → R Env} {fs : List D → Env → R Env} (h1 : XGc X vs e f) (h2 : XGsc X vs es fs)
    (hs : (assignEach (e :: es) X.env).map (·.2) = assign e X.env :: (assignEach es X.env).map (·.2) := by rfl) : XGsc X vs (e :: es) (gsCons f fs) :=
  pgs_of (pgs_cons h1 h2 hs) fun v σ H Q ⟨P, F0, H0, F, env, ds, env', r, rv, z, q⟩ => by
    cases ds with
    | nil => cases z
    | cons d ds =>
      cases rv with | cons r1 r2 =>
      obtain ⟨e1, z1, z2⟩ := R.bind_ok z
      exact ⟨_, _, rfl, P, F0, H0, F, env, d, e1, r, r1, z1, fun σ' r' w' => ⟨P, F0, H0, F, e1, ds, env', r', r2, z2, fun σ2 r2 w2 => q σ2 r2 (w2.trans w')⟩⟩
theorem xgc_tup {vs : List Nat} {k n : Nat} {fs : List D → Env → R Env} (hc : X.calm = true) (h : XGsc X vs es fs) (hn : (assignEach es X.env).length = n := by rfl) (hst : (assignEach es X.env).findIdx? (·.1) = none := by rfl) : XGc X vs (.Tuple es k pos) (gT n fs) :=
  pg_of (pg_tup hc h hn hst) fun v σ H Q ⟨P, F0, H0, F, env, d, env', r, rv, z, q⟩ => by
    cases d with
    | tuple ds =>
      cases rv with | tup h1 r1 =>
      unfold gT at z
      simp only at z
      split at z
      · rename_i hl
        exact ⟨_, _, rfl, ex_t r.stp.i h1, by rw [r1.length]; exact hl, P, F0, H0, F, env, ds, env', r, r1, z, q⟩
      · cases z
    | _ => cases z
/-- a clause's tests -/
def XTs (X : Cx) (es : List Expr) (t : Env → R Bool) : Prop := PTs X es (tBo X.g E0 t)
def bYes : Env → R Bool := fun _ => .ok true
theorem pts_of {ifs : List Expr} {t t' : TT} (h : PTs X ifs t) (i : ∀ σ H Q, t' σ H Q → t σ H Q) : PTs X ifs t' := ⟨fun pins s σ H Q I q => h.run pins s σ H Q I (i σ H Q q)⟩
theorem xts_nil : XTs X [] bYes := pts_of pts_nil fun σ H Q ⟨P, F0, H0, F, env, r, q⟩ => by
  obtain ⟨c, z, q⟩ := q.get (fun e z => by cases z)
  cases z
  exact q F H (Stp.refl r.stp.i)
theorem xts_one {t : Env → R Bool} (h : XT X E0 e t) : XTs X [e] t := pts_one h
def compR (f : D → Env → R Env) (t : Env → R Bool) (m : Env → R Cell) : List D → Env → R (List D)
  | [], _ => .ok []
  | d :: ds, env =>
    match f d env with
    | .ok e1 => do
      if ← pur (t e1) then
        let c ← pur (m e1)
        let y ← c.get
        let ys ← compR f t m ds env
        return y :: ys
      else compR f t m ds env
    | _ => .bad
theorem compR_len {f : D → Env → R Env} {t : Env → R Bool} {m : Env → R Cell} {env : Env} : ∀ {ds ys : List D}, compR f t m ds env = .ok ys → ys.length ≤ ds.length
  | [], ys, h => by cases h; exact Nat.le_refl _
  | d :: ds, ys, h => by
    rw [compR] at h
    cases hf : f d env with
    | bad => rw [hf] at h; cases h
    | exc e => rw [hf] at h; cases h
    | ok e1 =>
      rw [hf] at h
      obtain ⟨b, _, h⟩ := R.bind_ok h
      cases b with
      | false => exact Nat.le_succ_of_le (compR_len h)
      | true =>
        simp only [if_true] at h
        obtain ⟨c, _, h⟩ := R.bind_ok h
        obtain ⟨y, _, h⟩ := R.bind_ok h
        obtain ⟨zs, z, h⟩ := R.bind_ok h
        cases h
        exact Nat.succ_le_succ (compR_len z)
def eLc (vs : List Nat) (it : Env → R (List D)) (f : D → Env → R Env) (t : Env → R Bool) (m : Env → R Cell) : Env → R Cell := fun env => do
  let ds ← it env
  let e ← wipeE vs env
  let ys ← pur (compR f t m ds e)
  if ds.length < sizeLine then return .own (.list ys) else .bad
theorem tLc_of {vs : List Nat} {it : Env → R (List D)} {f : D → Env → R Env} {t : Env → R Bool} {m : Env → R Cell} {g : G} {σ : L2.St} {H : Hp} {Q : VK} (h : tE g E (eLc vs it f t m) σ H Q) : tLc (tIc g E it) (tGc g vs f) (tBo g E0 t) (tE g E0 m) vs σ H Q := by
  obtain ⟨P, F0, H0, F, env, r, q⟩ := h
  refine ⟨P, F0, H0, F, env, r, (Ways.bind q).mono fun ds _ w J F1 H1 s1 y Dl hD => ?_⟩
  obtain ⟨e0, z0, w⟩ := (Ways.bind w).get (wipeE_nox vs env)
  obtain ⟨ys, z1, w⟩ := (Ways.bind w).get (pur_nox _)
  have z1 := pur_is z1
  obtain ⟨c, z2, q⟩ := w.get (if_nox (a := Cell.own (.list ys)))
  obtain ⟨hl, rfl⟩ := if_ok (a := Cell.own (.list ys)) z2
  have r1 := r.step s1
  have hF1 : F1 Dl = none := fresh_back s1.i hD
  refine ⟨fun i k H' => k = ds.length - i ∧ i ≤ ds.length ∧ ∃ F' acc done rest, Stp F1 H1 F' H' ∧ F' Dl = none ∧ H' Dl = some (.lst acc) ∧ RpL g F' acc done ∧ done.length ≤ i ∧ compR f t m (ds.drop i) e0 = .ok rest ∧ done ++ rest = ys,
    ⟨ds.length, by simp, Nat.zero_le _, F1, [], [], ys, Stp.own s1.i hD, hF1, upd_same, .nil, Nat.zero_le _, z1, rfl⟩, ?_⟩
  rintro i k H2 ⟨rfl, hi, F2, acc, done, rest, s2, n2, eD, ra, hdl, hc, hys⟩
  have yi := y i H2 s2.h
  by_cases hlt : i < ds.length
  · rw [List.getElem?_eq_getElem hlt] at yi
    obtain ⟨go, yl⟩ := yi
    rw [List.drop_eq_getElem_cons hlt, compR] at hc
    cases hf : f ds[i] e0 with
    | bad => rw [hf] at hc; cases hc
    | exc e => rw [hf] at hc; cases hc
    | ok e1 =>
      rw [hf] at hc
      refine .inr ⟨go, fun H' => ∃ F' acc done rest, Stp F1 H1 F' H' ∧ F' Dl = none ∧ H' Dl = some (.lst acc) ∧ RpL g F' acc done ∧ done.length ≤ i + 1 ∧ compR f t m (ds.drop (i + 1)) e0 = .ok rest ∧ done ++ rest = ys,
        fun H' h => ⟨ds.length - (i + 1), by omega, rfl, hlt, h⟩, fun x H' yx => ?_⟩
      obtain ⟨rfl, rx⟩ := yl x H' yx
      have r2 := (r1.step s2).wipe z0
      refine ⟨P, F0, H0, F2, e0, ds[i], e1, r2, rx.mono s2.f, hf, fun σ' r' hw => ⟨hw.trans (by
        have : ∀ us : List Nat, (∀ u ∈ us, u ∈ vs) → wipe (wipe σ us) vs = wipe σ vs := by
          intro us
          induction us with
          | nil => intro _; rfl
          | cons u us ih =>
            intro hu
            show wipe ((wipe σ us).set u none) vs = _
            rw [wipe_set (hu u List.mem_cons_self)]
            exact ih fun v hv => hu v (List.mem_cons_of_mem _ hv)
        exact this vs fun _ h => h), ?_⟩⟩
      obtain ⟨b, zb, hc⟩ := R.bind_ok hc
      refine ⟨P, F0, H0, F2, e1, r', .inl ⟨b, pur_is zb, fun F3 H3 s3 => ?_⟩⟩
      have eD3 := s3.h _ _ eD
      have n3 := s3.n Dl (by rw [eD]; simp) n2
      cases b with
      | false =>
        simp only [Bool.false_eq_true, if_false] at hc ⊢
        exact ⟨F3, acc, done, rest, s2.trans s3, n3, eD3, ra.mono s3.f, by omega, hc, hys⟩
      | true =>
        simp only [if_true] at hc ⊢
        obtain ⟨cl, zc, hc⟩ := R.bind_ok hc
        obtain ⟨yd, zy, hc⟩ := R.bind_ok hc
        obtain ⟨rest', zr, hc⟩ := R.bind_ok hc
        cases hc
        refine ⟨P, F0, H0, F3, e1, r'.step s3, .inl ⟨cl, pur_is zc, fun v F4 H4 s4 ro => ?_⟩⟩
        obtain ⟨F5, s5, rv⟩ := ro.frz s4 zy
        have eD5 := s5.h _ _ eD3
        have n5 := s5.n Dl (by rw [eD3]; simp) n3
        have hlen : acc.length < sizeLine := by
          have := ra.length
          have h1 : done.length < ds.length := Nat.lt_of_le_of_lt hdl hlt
          omega
        refine ⟨acc, eD5, hlen, F5, acc ++ [v], done ++ [yd], rest', ?_, n5, upd_same, (ra.mono (s3.f.trans s5.f)).append (.cons rv .nil), by simp; omega, zr, by rw [List.append_assoc]; exact hys⟩
        have st := (s2.trans s3).trans s5
        exact ⟨st.f, Ex.mut st.h hD, Ex.mut st.i n5, fun b h1 h2 => st.n b h1 h2⟩
  · have e : i = ds.length := by omega
    subst e
    rw [List.getElem?_eq_none_iff.mpr (Nat.le_refl _)] at yi
    rw [List.drop_length, compR] at hc
    cases hc
    rw [List.append_nil] at hys
    subst hys
    exact .inl ⟨yi, q _ F2 H2 (s1.trans s2) ⟨Dl, rfl, n2, fresh_back s1.h hD, acc, eD, ra⟩⟩
theorem xe_lc {elt tg iter : Expr} {ifs : List Expr} {scope : Scope} {own : List (Str × Nat)} {it : Env → R (List D)} {f : D → Env → R Env} {t : Env → R Bool} {m : Env → R Cell} (hc : X.calm = true) (hN : X.N.Nodup) (hi : XIc X E tg iter it) (ok : BlkOk X.N X.env.scope scope own)
    (hg : ∀ (s : Shared) (H : Hp) (C : Addr) (cl : List (Str × Addr)) (fp : List Addr), XGc (X.blk s H scope (compEnvC scope cl C X.env) fp) (own.map (·.2)) tg f) (ht : ∀ (s : Shared) (H : Hp) (C : Addr) (cl : List (Str × Addr)) (fp : List Addr), XTs (X.blk s H scope (compEnvC scope cl C X.env) fp) ifs t)
    (he : ∀ (s : Shared) (H : Hp) (C : Addr) (cl : List (Str × Addr)) (fp : List Addr), XE (X.blk s H scope (compEnvC scope cl C X.env) fp) E0 elt m) (hs : ∀ x, foldedSetIterable iter X.env x = pure x := by intro _; rfl) :
    XE X E (.ListComp elt [⟨tg, iter, ifs, 0⟩] scope pos) (eLc (own.map (·.2)) it f t m) :=
  pe_of (pe_lc (g := tGc X.g (own.map fun p : Str × Nat => p.2) f) (tt := tBo X.g E0 t) (te := tE X.g E0 m) hc hN hi ok hg ht he hs) fun σ H Q h => tLc_of h
theorem xs_asgLc {i : Nat} {y : Str} {py : Pos} {elt tg iter : Expr} {ifs : List Expr} {scope : Scope} {own : List (Str × Nat)} {spos : Pos} {it : Env → R (List D)} {f : D → Env → R Env} {t : Env → R Bool} {m : Env → R Cell} (hc : X.calm = true) (hN : X.N.Nodup) (hy : X.N[i]? = some y) (hyl : X.env.scope.names.lookup y = some .local)
    (hsw : swapsWith (.ListComp elt [⟨tg, iter, ifs, 0⟩] scope pos) (some (.Name y py)) spos.line X.env = pure true) (hi : XIc X E tg iter it) (ok : BlkOk X.N X.env.scope scope own)
    (hg : ∀ (s : Shared) (H : Hp) (C : Addr) (cl : List (Str × Addr)) (fp : List Addr), XGc (X.blk s H scope (compEnvC scope cl C X.env) fp) (own.map (·.2)) tg f) (ht : ∀ (s : Shared) (H : Hp) (C : Addr) (cl : List (Str × Addr)) (fp : List Addr), XTs (X.blk s H scope (compEnvC scope cl C X.env) fp) ifs t)
    (he : ∀ (s : Shared) (H : Hp) (C : Addr) (cl : List (Str × Addr)) (fp : List Addr), XE (X.blk s H scope (compEnvC scope cl C X.env) fp) E0 elt m) (hs : ∀ x, foldedSetIterable iter X.env x = pure x := by intro _; rfl) :
    XS X E (.Assign [.Name y py] (.ListComp elt [⟨tg, iter, ifs, 0⟩] scope pos) spos) (sAsg i (eLc (own.map (·.2)) it f t m)) := by
  refine ps_of (ps_setLc (g := tGc X.g (own.map fun p : Str × Nat => p.2) f) (tt := tBo X.g E0 t) (te := tE X.g E0 m) hc hN hy hyl hsw hi ok hg ht he hs) fun Dn σ H ⟨P, F0, H0, F, env, r, q⟩ => ?_
  show tLc _ _ _ _ _ σ H fun x H1 => gName i x σ H1 Dn.nx
  refine tLc_of ⟨P, F0, H0, F, env, r, ((Ways.bind q).step r.stp).mono fun c _ w v F1 H1 s1 ro => ?_⟩
  obtain ⟨env', z, w⟩ := (Ways.bind w).get (fun e => setC_nox e)
  obtain ⟨c0, h0, hp, rfl⟩ := setC_ok z
  obtain ⟨_, z', q⟩ := w.get (fun e z => by cases z)
  cases z'
  exact q _ F1 H1 (r.put s1 ro h0 hp)
end
end Lw


namespace Lw
open PySem PySem.Spec PyProof.Rows L2 Evl
/-- a def that may be called: its name, how many parameters, its level, its meaning -/
structure Cal (g : G) (name : Str) (n k : Nat) (fg : List D → R Cell) : Prop where
  ex : ∃ (f : Addr) (fd : FuncData) (ps : List Str), FnOk g.P g.w g.K g.mg g.base CX0 k f fd ps (spD g n fg) ∧ g.mg name = some (.ref f) ∧ PySem.W.keepIn g.K (.ref f) = true ∧ Binds g.K fd ps []
  pf : PureF fg n
theorem Cal.mk' {g : G} {name : Str} {n k : Nat} {fg : List D → R Cell} {f : Addr} {fd : FuncData} {ps : List Str} (h : FnOk g.P g.w g.K g.mg g.base CX0 k f fd ps (spD g n fg)) (hm : g.mg name = some (.ref f)) (hk : PySem.W.keepIn g.K (.ref f) = true) (hb : Binds g.K fd ps []) (pf : PureF fg n) : Cal g name n k fg := ⟨⟨f, fd, ps, h, hm, hk, hb⟩, pf⟩
theorem u65 {A : Around} {k : Nat} (hr : Room k A) : A.units + 65 < cLine := by have := hr.un; omega
section
variable {X : Cx} {E : XK} {e a b : Expr} {es : List Expr} {pos : Pos}
theorem xe_callC {name : Str} {n k j : Nat} {fg : List D → R Cell} {p : Pos} {m : Env → R (List D)} (c : Cal X.g name n k fg) (hr : Room j X.A) (hk : k ≤ j) (hg : Gl X name) (ha : XA X E (e :: es) m) (hdb : (name == ("__debug__" : Str)) = false := by decide)
    (he : starEach (e :: es) X.env = (false, eval e X.env) :: starEach es X.env := by rfl) (hpl : (backTo pos (starEach es X.env)).any (·.1) = false := by rfl) : XE X E (.Call (.Name name p) (e :: es) [] pos) (eCall fg m) := by
  obtain ⟨⟨f, fd, ps, h1, h2, h3, h4⟩, pf⟩ := c
  exact xe_call h1 pf (hr.mono hk) hg h2 h3 h4 ha hdb he hpl
theorem xe_callC0 {name : Str} {k j : Nat} {fg : List D → R Cell} {p : Pos} (c : Cal X.g name 0 k fg) (hr : Room j X.A) (hk : k ≤ j) (hg : Gl X name) (hdb : (name == ("__debug__" : Str)) = false := by decide) : XE X E (.Call (.Name name p) [] [] pos) (eCall fg aNil) := by
  obtain ⟨⟨f, fd, ps, h1, h2, h3, h4⟩, pf⟩ := c
  exact xe_call0 h1 pf (hr.mono hk) hg h2 h3 h4 hdb

/-! ### methods of texts -/
def eM1 (f : Str → D → R Cell) (ma mb : Env → R D) : Env → R Cell := fun env => do
  match ← ma env with
  | .str x =>
    let y ← mb env
    f x y
  | _ => .bad
def rM1 (g : G) (f : Str → D → R Cell) : V → List V → Hp → VK → Prop := fun x vs H Q => ∃ F z v d c, x = .str z ∧ vs = [v] ∧ Ex F H ∧ VIn g F H v d ∧ f z d = .ok c ∧ ∀ v F' H', Stp F H F' H' → ResOk g H F' H' v c → Q v H'
theorem tBM_of {f : Str → D → R Cell} {ma mb : Env → R D} {g : G} {σ : L2.St} {H : Hp} {Q : VK} (nx : ∀ x d e, f x d ≠ .exc e) (h : tE g E (eM1 f ma mb) σ H Q) : tBM g.K "str" (rM1 g f) (tRd g E ma) (tArR g E (arCons mb aNil)) σ H Q := by
  obtain ⟨P, F0, H0, F, env, r, q⟩ := h
  refine ⟨P, F0, H0, F, env, r, (Ways.bind q).mono fun d _ w v F1 H1 s1 v1 => ?_⟩
  cases d with
  | str x =>
    rw [v1.str]
    refine ⟨rfl, P, F0, H0, F1, env, r.step s1, ?_⟩
    have w1 := (Ways.bind w).step s1
    rcases w1 with ⟨d2, z, w⟩ | ⟨ex, z, w⟩
    · refine .inl ⟨[d2], ?_, fun vs F2 H2 s2 vi => ?_⟩
      · unfold arCons aNil
        rw [z]
        rfl
      · cases vi with | cons v2 r2 =>
        cases r2
        obtain ⟨c, zc, q⟩ := w.get (nx x d2)
        exact ⟨F2, x, _, d2, c, rfl, rfl, s2.i, v2, zc, fun u F3 H3 s3 ro => q u F3 H3 ((s1.trans s2).trans s3) (ro.back (s1.trans s2).h)⟩
    · refine .inr ⟨ex, ?_, w⟩
      unfold arCons
      rw [z]
      rfl
  | _ => obtain ⟨c, z, q⟩ := w.get (fun e z => by cases z); cases z
theorem xe_m1 {name : Str} {id : String} {f : Str → D → R Cell} {ma mb : Env → R D} {apos cpos : Pos} (slot : Slot "str" name id) (hty : typeOf (.builtin id) = pure (.type "method_descriptor")) (hm : MtR X id (rM1 X.g f)) (nx : ∀ x d e, f x d ≠ .exc e) (ho : XR X E a ma) (hb : XR X E b mb)
    (hbase : attributeBase a name X.env (eval a X.env) = eval a X.env := by rfl)
    (hfew : ((backTo cpos (starEach (b :: []) X.env)).all (fun x => !x.1) && (backToKw cpos (keywordEach [] X.env)).all (fun x => x.1.isSome)
      && decide ((b :: []).length + ([] : List Keyword).length + (if ([] : List Keyword).isEmpty then 0 else 1) < 30)) = true := by rfl)
    (hline : (apos.endLine == cpos.line) = true := by rfl) (hs : starEach (b :: []) X.env = (false, eval b X.env) :: starEach [] X.env := by rfl) (hplain : (backTo cpos (starEach [] X.env)).any (·.1) = false := by rfl) :
    XE X E (.Call (.Attribute a name apos) [b] [] cpos) (eM1 f ma mb) :=
  pe_of (pe_bm PySem.F.plainAttrs_str slot hty hm ho (xar_cons hb xar_nil hs) hbase hfew hline hs hplain) fun σ H Q h => tBM_of nx h
def fFind (x : Str) : D → R Cell
  | .str y => .ok (.val (.int (Txt.find x y)))
  | _ => .bad
theorem nox_find (x : Str) (d : D) (e : Exc) : fFind x d ≠ .exc e := by cases d <;> intro z <;> cases z
theorem mt_findM : MtR X "str.find" (rM1 X.g fFind) := by
  intro pins s σ H x xs v us Q I rx rs h
  obtain ⟨F, z, v, d, c, rfl, rfl, i, vi, e, q⟩ := h
  cases d with
  | str y =>
    cases e
    rw [vi.str] at rs
    exact mt_find pins s σ H _ _ _ us Q I rx rs ⟨z, y, rfl, rfl, q _ F H (Stp.refl i) (Rp.int _)⟩
  | _ => cases e
theorem xe_find {ma mb : Env → R D} {apos cpos : Pos} (ho : XR X E a ma) (hb : XR X E b mb)
    (hbase : attributeBase a "find" X.env (eval a X.env) = eval a X.env := by rfl)
    (hfew : ((backTo cpos (starEach (b :: []) X.env)).all (fun x => !x.1) && (backToKw cpos (keywordEach [] X.env)).all (fun x => x.1.isSome)
      && decide ((b :: []).length + ([] : List Keyword).length + (if ([] : List Keyword).isEmpty then 0 else 1) < 30)) = true := by rfl)
    (hline : (apos.endLine == cpos.line) = true := by rfl) (hs : starEach (b :: []) X.env = (false, eval b X.env) :: starEach [] X.env := by rfl) (hplain : (backTo cpos (starEach [] X.env)).any (·.1) = false := by rfl) :
    XE X E (.Call (.Attribute a "find" apos) [b] [] cpos) (eM1 fFind ma mb) :=
  xe_m1 PySem.F.slot_str_find PySem.F.type_str_find mt_findM nox_find ho hb hbase hfew hline hs hplain
/-- split by a text that is not empty -/
def SplitOk (x y : Str) : Prop := (y.length == 0) = false ∧ x.length + 2 ≤ sizeLine
instance (x y : Str) : Decidable (SplitOk x y) := inferInstanceAs (Decidable (_ ∧ _))
def fSplit (x : Str) : D → R Cell
  | .str y => if SplitOk x y then .ok (.own (.list ((Txt.split x y).map PyData.str))) else .bad
  | _ => .bad
theorem nox_split (x : Str) (d : D) (e : Exc) : fSplit x d ≠ .exc e := by
  cases d <;> first | exact if_nox e | (intro z; cases z)
theorem RpL.strs {g : G} {F : Hp} : ∀ l : List Str, RpL g F (l.map V.str) (l.map PyData.str)
  | [] => .nil
  | x :: l => .cons (.str x) (RpL.strs l)
theorem mt_splitM : MtR X "str.split" (rM1 X.g fSplit) := by
  intro pins s σ H x xs v us Q I rx rs h
  obtain ⟨F, z, v, d, c, rfl, rfl, i, vi, e, q⟩ := h
  cases d with
  | str y =>
    obtain ⟨hs, rfl⟩ := if_ok e
    rw [vi.str] at rs
    exact mt_split pins s σ H _ _ _ us Q I rx rs ⟨z, y, rfl, rfl, hs.1, hs.2, fun p hp => q _ F _ (Stp.own i hp) ⟨p, rfl, fresh_back i hp, hp, _, upd_same, RpL.strs _⟩⟩
  | _ => cases e
theorem xe_split {ma mb : Env → R D} {apos cpos : Pos} (ho : XR X E a ma) (hb : XR X E b mb)
    (hbase : attributeBase a "split" X.env (eval a X.env) = eval a X.env := by rfl)
    (hfew : ((backTo cpos (starEach (b :: []) X.env)).all (fun x => !x.1) && (backToKw cpos (keywordEach [] X.env)).all (fun x => x.1.isSome)
      && decide ((b :: []).length + ([] : List Keyword).length + (if ([] : List Keyword).isEmpty then 0 else 1) < 30)) = true := by rfl)
    (hline : (apos.endLine == cpos.line) = true := by rfl) (hs : starEach (b :: []) X.env = (false, eval b X.env) :: starEach [] X.env := by rfl) (hplain : (backTo cpos (starEach [] X.env)).any (·.1) = false := by rfl) :
    XE X E (.Call (.Attribute a "split" apos) [b] [] cpos) (eM1 fSplit ma mb) :=
  xe_m1 PySem.F.slot_str_split PySem.F.type_str_split mt_splitM nox_split ho hb hbase hfew hline hs hplain
/-- join of texts -/
def strsOf : List D → R (List Str)
  | [] => .ok []
  | .str x :: ds => do
    let r ← strsOf ds
    return x :: r
  | _ => .bad
theorem strsOf_ok : ∀ {ds : List D} {xs : List Str}, strsOf ds = .ok xs → ds = xs.map PyData.str
  | [], xs, h => by cases h; rfl
  | d :: ds, xs, h => by
    cases d with
    | str x =>
      rw [strsOf] at h
      obtain ⟨r, z, h⟩ := R.bind_ok h
      cases h
      rw [strsOf_ok z]
      rfl
    | _ => cases h
theorem strsOf_map : ∀ xs : List Str, strsOf (xs.map PyData.str) = .ok xs
  | [] => rfl
  | x :: xs => by
    rw [List.map_cons, strsOf, strsOf_map xs]
    rfl
theorem strsOf_nox : ∀ (ds : List D) (e : Exc), strsOf ds ≠ .exc e
  | [], e => fun z => by cases z
  | d :: ds, e => by
    cases d with
    | str x =>
      rw [strsOf]
      cases h : strsOf ds with
      | bad => intro z; cases z
      | ok r => intro z; cases z
      | exc e' => exact absurd h (strsOf_nox ds e')
    | _ => intro z; cases z
def JoinOk (a : Str) (ys : List Str) : Prop := (ys.map (·.length)).sum + ys.length * a.length ≤ 16777216
instance (a : Str) (ys : List Str) : Decidable (JoinOk a ys) := inferInstanceAs (Decidable (_ ≤ _))
def seqOf : D → R (List D)
  | .list xs => .ok xs
  | .tuple xs => .ok xs
  | _ => .bad
theorem seqOf_nox (d : D) (e : Exc) : seqOf d ≠ .exc e := by cases d <;> intro z <;> cases z
def fJoin (x : Str) (d : D) : R Cell := do
  let ds ← seqOf d
  let ys ← strsOf ds
  if JoinOk x ys then return .val (.str (Txt.join x ys)) else .bad
theorem nox_join (x : Str) (d : D) (e : Exc) : fJoin x d ≠ .exc e := by
  unfold fJoin
  cases h : seqOf d with
  | bad => intro z; cases z
  | exc e' => exact absurd h (seqOf_nox d e')
  | ok ds =>
    simp only [R.ok_bind]
    cases h2 : strsOf ds with
    | bad => intro z; cases z
    | exc e' => exact absurd h2 (strsOf_nox ds e')
    | ok ys => exact if_nox e
theorem rpl_strs {g : G} {F : Hp} : ∀ {xs : List Str} {vs : List V}, RpL g F vs (xs.map PyData.str) → vs = xs.map V.str
  | [], _, .nil => rfl
  | x :: xs, _, .cons h r => by cases h; rw [rpl_strs r]; rfl
theorem mt_joinM : MtR X "str.join" (rM1 X.g fJoin) := by
  intro pins s σ H x xs v us Q I rx rs h
  obtain ⟨F, z, v, d, c, rfl, rfl, i, vi, e, q⟩ := h
  unfold fJoin at e
  obtain ⟨ds, z1, e⟩ := R.bind_ok e
  obtain ⟨ys, z2, e⟩ := R.bind_ok e
  obtain ⟨hz, rfl⟩ := if_ok (a := Cell.val (.str (Txt.join z ys))) e
  have hd := strsOf_ok z2
  cases d with
  | list l =>
    cases z1
    obtain ⟨p, vs, rfl, h1, r1⟩ := vi.lst i
    rw [hd] at r1
    rw [rpl_strs r1] at h1
    exact mt_join pins s σ H _ _ _ us Q I rx rs ⟨z, p, ys, rfl, rfl, .inl (.inl (.inl h1)), hz, q _ F H (Stp.refl i) (Rp.str _)⟩
  | tuple l =>
    cases z1
    obtain ⟨p, vs, rfl, h1, r1⟩ := vi.tup i
    rw [hd] at r1
    rw [rpl_strs r1] at h1
    exact mt_join pins s σ H _ _ _ us Q I rx rs ⟨z, p, ys, rfl, rfl, .inr (ex_t i h1), hz, q _ F H (Stp.refl i) (Rp.str _)⟩
  | _ => cases z1
theorem xe_join {ma mb : Env → R D} {apos cpos : Pos} (ho : XR X E a ma) (hb : XR X E b mb)
    (hbase : attributeBase a "join" X.env (eval a X.env) = eval a X.env := by rfl)
    (hfew : ((backTo cpos (starEach (b :: []) X.env)).all (fun x => !x.1) && (backToKw cpos (keywordEach [] X.env)).all (fun x => x.1.isSome)
      && decide ((b :: []).length + ([] : List Keyword).length + (if ([] : List Keyword).isEmpty then 0 else 1) < 30)) = true := by rfl)
    (hline : (apos.endLine == cpos.line) = true := by rfl) (hs : starEach (b :: []) X.env = (false, eval b X.env) :: starEach [] X.env := by rfl) (hplain : (backTo cpos (starEach [] X.env)).any (·.1) = false := by rfl) :
    XE X E (.Call (.Attribute a "join" apos) [b] [] cpos) (eM1 fJoin ma mb) :=
  xe_m1 PySem.F.slot_str_join PySem.F.type_str_join mt_joinM nox_join ho hb hbase hfew hline hs hplain
end
end Lw
namespace Lw
open PySem PySem.Spec PyProof.Rows L2 Evl
def scrD (ns : List Int) : D := .dict [(.none, .list (ns.map .int))]
theorem RpL.ints {g : G} {F : Hp} : ∀ ns : List Int, RpL g F (ns.map V.int) (ns.map PyData.int)
  | [] => .nil
  | x :: l => .cons (.int x) (RpL.ints l)
theorem law_end {P : Program} {w : World} {K : PySem.W.Frag} {mg : Str → Option Value} {h : Heap} {fa : Addr} {fd : FuncData} {k : Nat} {gl : List D → R Cell} (KX : K.In h) (hb : ∀ (s : Shared) (v : Value), BindsTo s fd ⟨[v], []⟩ [("script", v)])
    (ht : ∀ ns : List Int, ns.length ≤ 63 → gl [scrD ns] = .ok (.val (.bool true)))
    (hF : ∀ base : Heap, K.In base → base.Ns mainGlobals mg → FnOk P w K mg base CX0 k fa fd ["script"] (spD ⟨P, w, K, mg, base⟩ 1 gl)) :
    ∃ (K : PySem.W.Frag) (fd : FuncData) (sp : Sp), K.In h ∧ (∀ (s : Shared) (u : Value), BindsTo s fd ⟨[u], []⟩ [("script", u)]) ∧
      (∀ (H : Hp) (a : Addr) (ns : List Int), ns.length ≤ 63 → Only H → SqL K H a (ns.map V.int) → sp [.ref a] H (fun v _ => v = .bl true) fun _ _ _ => False) ∧
      ∀ base : Heap, K.In base → base.Ns mainGlobals mg → FnOk P w K mg base CX0 k fa fd ["script"] sp := by
  refine ⟨K, fd, fun vs H Q E => ∀ base : Heap, spD ⟨P, w, K, mg, base⟩ 1 gl vs H Q E, KX, hb, fun H a ns hl hO hS base => ?_, fun base h1 h2 => (hF base h1 h2).imp fun vs H Q E q => q base⟩
  exact ⟨H, [scrD ns], Ex.refl H, .cons (.scr hS (RpL.ints ns)) .nil, rfl, .inl ⟨_, ht ns hl, fun v F' H' s ro => by cases ro; rfl⟩⟩
end Lw


/-! evaluation: what the meanings give, by simp -/
namespace Lw
open PySem PySem.Spec PyProof.Rows L2 Evl
section
variable {env : Env} {c : Cell} {d : D}
@[simp] theorem v_eVar0 : eVar 0 (.val d :: env) = .ok (.val d) := rfl
@[simp] theorem v_eVarS (i : Nat) : eVar (i + 1) (c :: env) = eVar i env := rfl
@[simp] theorem v_rVar0 : rVar 0 (c :: env) = c.get := rfl
@[simp] theorem v_rVarS (i : Nat) : rVar (i + 1) (c :: env) = rVar i env := rfl
@[simp] theorem v_eC : eC d env = .ok (.val d) := rfl
@[simp] theorem v_rOf (m : Env → R Cell) : rOf m env = (m env >>= Cell.get) := rfl
@[simp] theorem v_eBin (f : D → D → R Cell) (ma mb : Env → R D) : eBin f ma mb env = (ma env >>= fun x => mb env >>= fun y => f x y) := rfl
@[simp] theorem v_eUn (f : D → R Cell) (ma : Env → R D) : eUn f ma env = (ma env >>= f) := rfl
@[simp] theorem v_bOf (m : Env → R D) : bOf m env = (m env >>= fun d => match d with | .bool b => .ok b | _ => .bad) := rfl
@[simp] theorem v_bNot (m : Env → R Bool) : bNot m env = (m env >>= fun b => .ok (!b)) := rfl
@[simp] theorem v_bAnd (m n : Env → R Bool) : bAnd m n env = (m env >>= fun b => if b then n env else .ok false) := rfl
@[simp] theorem v_bOr (m n : Env → R Bool) : bOr m n env = (m env >>= fun b => if b then .ok true else n env) := rfl
@[simp] theorem v_eAnd (m : Env → R D) (n : Env → R Cell) : eAnd m n env = (m env >>= fun d => match d with | .bool true => n env | .bool false => .ok (dB false) | _ => .bad) := rfl
@[simp] theorem v_eOr (m : Env → R D) (n : Env → R Cell) : eOr m n env = (m env >>= fun d => match d with | .bool true => .ok (dB true) | .bool false => n env | _ => .bad) := rfl
@[simp] theorem v_eNot (m : Env → R D) : eNot m env = (m env >>= fun d => match d with | .bool b => .ok (dB (!b)) | _ => .bad) := rfl
@[simp] theorem v_eIf (t : Env → R Bool) (m n : Env → R Cell) : eIf t m n env = (t env >>= fun b => if b then m env else n env) := rfl
@[simp] theorem v_aNil : aNil env = .ok [] := rfl
@[simp] theorem v_aCons (m : Env → R Cell) (n : Env → R (List D)) : aCons m n env = (m env >>= fun c => c.get >>= fun d => n env >>= fun ds => .ok (d :: ds)) := rfl
@[simp] theorem v_arCons (m : Env → R D) (n : Env → R (List D)) : arCons m n env = (m env >>= fun d => n env >>= fun ds => .ok (d :: ds)) := rfl
@[simp] theorem v_eTup (m : Env → R (List D)) : eTup m env = (m env >>= fun ds => if small ds.length then .ok (.val (.tuple ds)) else .bad) := rfl
@[simp] theorem v_eLst (m : Env → R (List D)) : eLst m env = (m env >>= fun ds => if small ds.length then .ok (.own (.list ds)) else .bad) := rfl
@[simp] theorem v_eCb (f : List D → R Cell) (m : Env → R (List D)) : eCb f m env = (m env >>= f) := rfl
@[simp] theorem v_eCall (f : List D → R Cell) (m : Env → R (List D)) : eCall f m env = (m env >>= f) := rfl
@[simp] theorem v_eIsi (T : String) (m : Env → R D) : eIsi T m env = (m env >>= fIsi T) := rfl
@[simp] theorem v_oNone : oNone env = .ok none := rfl
@[simp] theorem v_oSome (m : Env → R D) : oSome m env = (m env >>= fun d => match d with | .int i => .ok (some i) | _ => .bad) := rfl
@[simp] theorem v_eSl (m : Env → R D) (lo hi : Env → R (Option Int)) : eSl m lo hi env = (m env >>= fun d => lo env >>= fun l => hi env >>= fun h => fSl d l h) := rfl
@[simp] theorem v_eM1 (f : Str → D → R Cell) (ma mb : Env → R D) : eM1 f ma mb env = (ma env >>= fun d => match d with | .str x => mb env >>= fun y => f x y | _ => .bad) := rfl
@[simp] theorem v_iE (m : Env → R Cell) : iE m env = (m env >>= fun c => c.get >>= items) := rfl
@[simp] theorem v_iR (m : Env → R D) : iR m env = (m env >>= items) := rfl
@[simp] theorem v_iRa1 (m : Env → R (List D)) : iRa1 m env = (m env >>= iRange1) := (rfl)
@[simp] theorem v_iRa2 (m : Env → R (List D)) : iRa2 m env = (m env >>= iRange2) := (rfl)
@[simp] theorem v_iRv (m : Env → R (List D)) : iRv m env = (m env >>= fun ds => .ok ds.reverse) := rfl
@[simp] theorem v_sNil : sNil env = .ok (.nx env) := rfl
@[simp] theorem v_sSeq (m n : Env → R Out) : sSeq m n env = (m env >>= fun o => match o with | .nx e => n e | o => .ok o) := rfl
@[simp] theorem v_sAsg (i : Nat) (m : Env → R Cell) : sAsg i m env = (m env >>= fun c => setC i c env >>= fun e => .ok (.nx e)) := rfl
@[simp] theorem v_sRet (m : Env → R Cell) : sRet m env = (m env >>= fun c => .ok (.ret c env)) := rfl
@[simp] theorem v_sRetN : sRetN env = .ok (.ret (.val .none) env) := rfl
@[simp] theorem v_sIf (t : Env → R Bool) (m n : Env → R Out) : sIf t m n env = (t env >>= fun b => if b then m env else n env) := rfl
@[simp] theorem v_sDrop (m : Env → R Cell) : sDrop m env = (m env >>= fun _ => .ok (.nx env)) := rfl
@[simp] theorem v_sFz (i : Nat) (m : Env → R Out) : sFz i m env = m (fz i env) := rfl
@[simp] theorem v_sKill (ks : List Nat) (m : Env → R Out) : sKill ks m env = m (kill ks env) := rfl
@[simp] theorem v_sFor (f : D → Env → R Env) (it : Env → R (List D)) (b : Env → R Out) (ks : List Nat) : sFor f it b ks env = (it env >>= fun ds => forR f b ks ds (kill ks env)) := rfl
@[simp] theorem v_sWhile (t : Env → R Bool) (b : Env → R Out) (ks : List Nat) : sWhile t b ks env = whileX t b ks (kill ks env) := rfl
@[simp] theorem v_sPar (i j : Nat) (m : Env → R (List D)) : sPar i j m env = (m env >>= fun ds => match ds with | [d, e] => setC i (.val d) env >>= fun e1 => setC j (.val e) e1 >>= fun e2 => .ok (.nx e2) | _ => .bad) := rfl
@[simp] theorem v_gV (i : Nat) : gV i d env = setC i (.val d) env := rfl
@[simp] theorem v_isPin_val : isPin (some (.val d)) = false := rfl
@[simp] theorem v_isPin_own : isPin (some (.own d)) = false := rfl
@[simp] theorem v_isPin_non : isPin (some .non) = false := rfl
@[simp] theorem v_isPin_pin : isPin (some (.pin d)) = true := rfl
theorem v_setC0 (c0 : Cell) (h : isPin (some c0) = false) : setC 0 c (c0 :: env) = .ok (c :: env) := by
  unfold setC
  simp [h]
@[simp] theorem v_setCS (i : Nat) (c0 : Cell) : setC (i + 1) c (c0 :: env) = (setC i c env >>= fun e => .ok (c0 :: e)) := by
  unfold setC
  simp only [List.getElem?_cons_succ]
  cases h : env[i]? with
  | none => rfl
  | some c1 =>
    simp only
    split <;> rfl
@[simp] theorem v_setC0_non : setC 0 c (.non :: env) = .ok (c :: env) := rfl
@[simp] theorem v_setC0_val : setC 0 c (.val d :: env) = .ok (c :: env) := rfl
@[simp] theorem v_setC0_own : setC 0 c (.own d :: env) = .ok (c :: env) := rfl
@[simp] theorem v_kill1_0_non : kill1 (.non :: env) 0 = .non :: env := rfl
@[simp] theorem v_kill1_0_val : kill1 (.val d :: env) 0 = .non :: env := rfl
@[simp] theorem v_kill1_0_own : kill1 (.own d :: env) 0 = .non :: env := rfl
@[simp] theorem v_kill1_0_pin : kill1 (.pin d :: env) 0 = .pin d :: env := rfl
@[simp] theorem v_kill_nil : kill [] env = env := rfl
@[simp] theorem v_kill_cons (i : Nat) (ks : List Nat) : kill (i :: ks) env = kill ks (kill1 env i) := rfl
theorem v_kill1_0 (c0 : Cell) (h : isPin (some c0) = false) : kill1 (c0 :: env) 0 = .non :: env := by
  unfold kill1
  simp [h]
@[simp] theorem v_kill1_S (i : Nat) (c0 : Cell) : kill1 (c0 :: env) (i + 1) = c0 :: kill1 env i := by
  unfold kill1
  simp only [List.getElem?_cons_succ, List.set_cons_succ]
  split <;> rfl
@[simp] theorem v_fz0_val : fz 0 (.val d :: env) = .val d :: env := rfl
@[simp] theorem v_fz0_own : fz 0 (.own d :: env) = .val d :: env := rfl
@[simp] theorem v_fz0_non : fz 0 (.non :: env) = .non :: env := rfl
@[simp] theorem v_fzS (i : Nat) (c0 : Cell) : fz (i + 1) (c0 :: env) = c0 :: fz i env := by
  unfold fz
  simp only [List.getElem?_cons_succ, List.set_cons_succ]
  cases h : env[i]? with
  | none => rfl
  | some c1 => cases c1 <;> rfl
@[simp] theorem v_retV0_own : sRetV 0 (.own d :: env) = .ok (.ret (.own d) (.own d :: env)) := rfl
@[simp] theorem v_retV0_val : sRetV 0 (.val d :: env) = .ok (.ret (.val d) (.val d :: env)) := rfl
theorem sRetV_S (i : Nat) (c0 : Cell) : sRetV (i + 1) (c0 :: env) = (sRetV i env >>= fun o => match o with | .ret c e => .ok (.ret c (c0 :: e)) | o => .ok o) := by
  unfold sRetV
  simp only [List.getElem?_cons_succ]
  cases h : env[i]? with
  | none => rfl
  | some c1 => cases c1 <;> rfl
@[simp] theorem v_retV_S (i : Nat) (c0 : Cell) : sRetV (i + 1) (c0 :: env) = (sRetV i env >>= fun o => match o with | .ret c e => .ok (.ret c (c0 :: e)) | o => .ok o) := sRetV_S i c0
@[simp] theorem v_ownAt0_own : ownAt 0 (.own d :: env) = .ok d := rfl
@[simp] theorem v_ownAt0_pin : ownAt 0 (.pin d :: env) = .ok d := rfl
@[simp] theorem v_ownAtS (i : Nat) (c0 : Cell) : ownAt (i + 1) (c0 :: env) = ownAt i env := rfl
@[simp] theorem v_setO0_own (d' : D) : setO 0 d' (.own d :: env) = .own d' :: env := rfl
@[simp] theorem v_setO0_pin (d' : D) : setO 0 d' (.pin d :: env) = .pin d' :: env := rfl
@[simp] theorem v_setOS (i : Nat) (d' : D) (c0 : Cell) : setO (i + 1) d' (c0 :: env) = c0 :: setO i d' env := by
  unfold setO
  simp only [List.getElem?_cons_succ, List.set_cons_succ]
  cases h : env[i]? with
  | none => rfl
  | some c1 => cases c1 <;> rfl
@[simp] theorem v_sApp (i : Nat) (m : Env → R Cell) : sApp i m env = (ownAt i env >>= fun o => match o with
  | .list ds => m env >>= fun c => c.get >>= fun d => if ds.length < sizeLine then .ok (.nx (setO i (.list (ds ++ [d])) env)) else .bad
  | _ => .bad) := rfl
@[simp] theorem v_sSetI (i : Nat) (mk : Env → R D) (m : Env → R Cell) : sSetI i mk m env = (m env >>= fun c => c.get >>= fun d => ownAt i env >>= fun o => match o with
  | .list ds => mk env >>= fun k => setAt ds k d >>= fun ds' => .ok (.nx (setO i (.list ds') env))
  | _ => .bad) := rfl
@[simp] theorem v_forR_nil (f : D → Env → R Env) (b : Env → R Out) (ks : List Nat) : forR f b ks [] env = .ok (.nx env) := rfl
@[simp] theorem v_eBor (i : Nat) (m : Env → R Cell) : eBor i m env = (pur (m (fz i env)) >>= flatC) := rfl
@[simp] theorem v_flat_int (i : Int) : flatC (.val (.int i)) = .ok (.val (.int i)) := rfl
@[simp] theorem v_flat_bool (b : Bool) : flatC (.val (.bool b)) = .ok (.val (.bool b)) := rfl
@[simp] theorem v_flat_none : flatC (.val .none) = .ok (.val .none) := rfl
@[simp] theorem v_flat_str (x : Str) : flatC (.val (.str x)) = .ok (.val (.str x)) := rfl
@[simp] theorem v_flat_dB (b : Bool) : flatC (dB b) = .ok (dB b) := rfl
@[simp] theorem v_dB_get (b : Bool) : (dB b).get = .ok (.bool b) := rfl
@[simp] theorem v_eLc (vs : List Nat) (it : Env → R (List D)) (f : D → Env → R Env) (t : Env → R Bool) (m : Env → R Cell) : eLc vs it f t m env = (it env >>= fun ds => wipeE vs env >>= fun e => pur (compR f t m ds e) >>= fun ys => if ds.length < sizeLine then .ok (.own (.list ys)) else .bad) := rfl
@[simp] theorem v_wipe_nil : wipeE [] env = .ok env := rfl
@[simp] theorem v_wipe_cons (i : Nat) (is : List Nat) : wipeE (i :: is) env = (wipeE is env >>= fun e => if isPin e[i]? = true then .bad else .ok (e.set i .non)) := rfl
@[simp] theorem v_bYes : bYes env = .ok true := rfl
@[simp] theorem v_gT (n : Nat) (fs : List D → Env → R Env) (ds : List D) : gT n fs (.tuple ds) env = if ds.length = n then fs ds env else .bad := rfl
@[simp] theorem v_gsNil : gsNil [] env = .ok env := rfl
@[simp] theorem v_gsCons (f : D → Env → R Env) (fs : List D → Env → R Env) (ds : List D) : gsCons f fs (d :: ds) env = (f d env >>= fun e => fs ds e) := rfl
@[simp] theorem v_sUnp (f : D → Env → R Env) (m : Env → R Cell) : sUnp f m env = (m env >>= fun c => c.get >>= fun d => match f d env with | .ok e => .ok (.nx e) | _ => .bad) := rfl
@[simp] theorem v_sAug (f : Int → Int → Int) (i : Nat) (m : Env → R D) : sAug f i m env = (match env[i]? with
  | some (.val (.int x)) => m env >>= fun d => match d with | .int y => .ok (.nx (env.set i (.val (.int (f x y))))) | _ => .bad
  | _ => .bad) := rfl
end
@[simp] theorem v_small : small n ↔ n ≤ sizeLine := Iff.rfl
@[simp] theorem v_add_int (i j : Int) : fAdd (.int i) (.int j) = .ok (.val (.int (i + j))) := rfl
@[simp] theorem v_sub_int (i j : Int) : fSub (.int i) (.int j) = .ok (.val (.int (i - j))) := rfl
@[simp] theorem v_mul_int (i j : Int) : fMul (.int i) (.int j) = if MulOk i j then .ok (.val (.int (i * j))) else .bad := by rw [fMul]
@[simp] theorem v_div_int (i j : Int) : fDiv (.int i) (.int j) = if DivOk j then .ok (.val (.int (i / j))) else .bad := by rw [fDiv]
@[simp] theorem v_mod_int (i j : Int) : fMod (.int i) (.int j) = if 0 < j then .ok (.val (.int (i % j))) else .bad := by rw [fMod]
@[simp] theorem v_pow_int (i j : Int) : fPow (.int i) (.int j) = if PowOk i j then .ok (.val (.int (i ^ j.toNat))) else .bad := by rw [fPow]
@[simp] theorem v_neg_int (i : Int) : fNeg (.int i) = .ok (.val (.int (-i))) := rfl
@[simp] theorem v_lt (i j : Int) : fLt (.int i) (.int j) = .ok (dB (decide (i < j))) := rfl
@[simp] theorem v_le (i j : Int) : fLe (.int i) (.int j) = .ok (dB (decide (i ≤ j))) := rfl
@[simp] theorem v_gt (i j : Int) : fGt (.int i) (.int j) = .ok (dB (decide (j < i))) := rfl
@[simp] theorem v_ge (i j : Int) : fGe (.int i) (.int j) = .ok (dB (decide (j ≤ i))) := rfl
@[simp] theorem v_eqI (i j : Int) : fEqq (.int i) (.int j) = .ok (dB (decide (i = j))) := rfl
@[simp] theorem v_eqS (i j : Str) : fEqq (.str i) (.str j) = .ok (dB (decide (i = j))) := rfl
@[simp] theorem v_eqB (i j : Bool) : fEqq (.bool i) (.bool j) = .ok (dB (decide (i = j))) := rfl
@[simp] theorem v_neI (i j : Int) : fNeq (.int i) (.int j) = .ok (dB (!decide (i = j))) := rfl
@[simp] theorem v_neS (i j : Str) : fNeq (.str i) (.str j) = .ok (dB (!decide (i = j))) := rfl
@[simp] theorem v_neB (i j : Bool) : fNeq (.bool i) (.bool j) = .ok (dB (!decide (i = j))) := rfl
@[simp] theorem v_isN (d : D) : fIsN d .none = .ok (dB (isNon d)) := rfl
@[simp] theorem v_notN (d : D) : fNotN d .none = .ok (dB (!isNon d)) := rfl
@[simp] theorem v_len_l (xs : List D) : fLen [.list xs] = .ok (.val (.int xs.length)) := rfl
@[simp] theorem v_len_t (xs : List D) : fLen [.tuple xs] = .ok (.val (.int xs.length)) := rfl
@[simp] theorem v_len_s (x : Str) : fLen [.str x] = if small x.length then .ok (.val (.int x.length)) else .bad := rfl
@[simp] theorem v_len_scr (ns : List Int) : fLen [scrD ns] = .ok (.val (.int ns.length)) := by
  show R.ok (Cell.val (.int ((ns.map PyData.int).length : Nat))) = _
  rw [List.length_map]
@[simp] theorem v_ix_scr (ns : List Int) (i : Int) : fIx (scrD ns) (.int i) = match atI (ns.map PyData.int) i with | some d => .ok (.val d) | none => .bad := rfl
@[simp] theorem v_ix_l (xs : List D) (i : Int) : fIx (.list xs) (.int i) = match atI xs i with | some d => .ok (.val d) | none => .bad := rfl
@[simp] theorem v_ix_t (xs : List D) (i : Int) : fIx (.tuple xs) (.int i) = match atI xs i with | some d => .ok (.val d) | none => .bad := rfl
@[simp] theorem v_abs (i : Int) : fAbs [.int i] = .ok (.val (.int (if i < 0 then -i else i))) := rfl
@[simp] theorem v_range1 (n : Int) : iRange1 [.int n] = if Rg n then .ok (rangeD 0 n.toNat) else .bad := by rw [iRange1]
@[simp] theorem v_range2 (i j : Int) : iRange2 [.int i, .int j] = if Rg i ∧ Rg j then .ok (rangeD i (j - i).toNat) else .bad := by rw [iRange2]
@[simp] theorem v_items_l (xs : List D) : items (.list xs) = .ok xs := rfl
@[simp] theorem v_items_t (xs : List D) : items (.tuple xs) = .ok xs := rfl
@[simp] theorem v_items_s (x : Str) : items (.str x) = .ok (strD x) := rfl
@[simp] theorem v_runP (N n : Nat) (m : Env → R Out) (ds : List D) (h : ds.length = n) : runP N n m ds = pur (match m (ds.map Cell.val ++ List.replicate (N - n) Cell.non) with | .ok (.ret c _) => .ok c | .ok (.nx _) => .ok (.val .none) | .exc e => .exc e | _ => .bad) := by
  unfold runP runF
  rw [if_pos h]
  try rfl
@[simp] theorem rep_non (n : Nat) : List.replicate (n + 1) Cell.non = .non :: List.replicate n .non := rfl
theorem le_line {n : Nat} (h : n ≤ 1000000) : n ≤ sizeLine := Nat.le_trans h (by decide)
theorem lt_line' {n : Nat} (h : n ≤ 1000000) : n < sizeLine := Nat.lt_of_le_of_lt h (by decide)
end Lw


/-! loops, sizes -/
namespace Lw
open PySem PySem.Spec PyProof.Rows L2 Evl
section
variable {t : Env → R Bool} {b : Env → R Out} {ks : List Nat} {env e : Env}
theorem whileX_f (h : t env = .ok false) : whileX t b ks env = .ok (.nx env) :=
  whileX_of (n := 1) (by rw [whileN, h]; rfl) (fun z => by cases z)
theorem whileX_eq (ht : t env = .ok true) (hb : b env = .ok (.nx e)) {r : R Out} (h : whileX t b ks (kill ks e) = r) (hr : r ≠ .bad) : whileX t b ks env = r := by
  obtain ⟨n, hn⟩ := whileX_run (t := t) (b := b) (ks := ks) (env := kill ks e) (by rw [h]; exact hr)
  refine whileX_of (n := n + 1) ?_ hr
  rw [whileN, ht]
  show (b env >>= _) = r
  rw [hb]
  exact hn.trans h
theorem whileX_ret (ht : t env = .ok true) {c : Cell} (hb : b env = .ok (.ret c e)) : whileX t b ks env = .ok (.ret c e) :=
  whileX_of (n := 1) (by rw [whileN, ht]; show (b env >>= _) = _; rw [hb]; rfl) (fun z => by cases z)
theorem whileX_bk (ht : t env = .ok true) (hb : b env = .ok (.bk e)) : whileX t b ks env = .ok (.nx (kill ks e)) :=
  whileX_of (n := 1) (by rw [whileN, ht]; show (b env >>= _) = _; rw [hb]; rfl) (fun z => by cases z)
/-- a loop that keeps a state of its own -/
theorem whileX_inv {S : Type} (mk : S → Env) (step : S → S) (go : S → Bool) (Inv : S → Prop) (μ : S → Nat) (hk : ∀ s, kill ks (mk s) = mk s)
    (ht : ∀ s, Inv s → t (mk s) = .ok (go s)) (hb : ∀ s, Inv s → go s = true → b (mk s) = .ok (.nx (mk (step s))) ∧ Inv (step s) ∧ μ (step s) < μ s) :
    ∀ (n : Nat) (s : S), μ s ≤ n → Inv s → ∃ z, whileX t b ks (mk s) = .ok (.nx (mk z)) ∧ Inv z ∧ go z = false := by
  intro n
  induction n with
  | zero =>
    intro s hs hi
    cases hg : go s with
    | false => exact ⟨s, whileX_f ((ht s hi).trans (by rw [hg])), hi, hg⟩
    | true => have := (hb s hi hg).2.2; omega
  | succ n ih =>
    intro s hs hi
    cases hg : go s with
    | false => exact ⟨s, whileX_f ((ht s hi).trans (by rw [hg])), hi, hg⟩
    | true =>
      obtain ⟨h1, h2, h3⟩ := hb s hi hg
      obtain ⟨z, hz, hi', hg'⟩ := ih (step s) (by omega) h2
      exact ⟨z, whileX_eq ((ht s hi).trans (by rw [hg])) h1 (by rw [hk]; exact hz) (fun z => by cases z), hi', hg'⟩
/-- Euclid -/
theorem gcdW (mk : Int → Int → Env) (ht : ∀ l r, t (mk l r) = .ok (decide (0 < r))) (hb : ∀ l r, 0 < r → b (mk l r) = .ok (.nx (mk r (l % r)))) (hk : ∀ l r, kill ks (mk l r) = mk l r) :
    ∀ (r l : Nat), whileX t b ks (mk l r) = .ok (.nx (mk (Nat.gcd l r : Nat) 0)) := by
  intro r
  induction r using Nat.strongRecOn with
  | _ r ih =>
    intro l
    by_cases h : r = 0
    · subst h
      rw [Nat.gcd_zero_right]
      exact whileX_f ((ht _ _).trans rfl)
    · have p : 0 < r := by omega
      refine whileX_eq ((ht _ _).trans (by simp [p])) (hb _ _ (by omega)) (r := .ok (.nx (mk (Nat.gcd l r : Nat) 0))) ?_ (fun z => by cases z)
      rw [hk, ← Int.natCast_emod, ih (l % r) (Nat.mod_lt _ p) r, Nat.gcd_comm l r, Nat.gcd_rec r l, Nat.gcd_comm]
end
theorem log2_lt_of {n k : Nat} (h : n < 2 ^ k) (hk : 0 < k) : n.log2 < k := by
  by_cases z : n = 0
  · subst z; simpa using hk
  · exact (Nat.log2_lt z).2 h
theorem mulOk_of {i j : Int} (hi : i.natAbs < 2 ^ 200) (hj : j.natAbs < 2 ^ 200) : MulOk i j := by
  have a := log2_lt_of hi (by decide)
  have b := log2_lt_of hj (by decide)
  show _ + _ < _
  omega
theorem divOk_of {j : Int} (p : 0 < j) (hj : j.natAbs < 2 ^ 200) : DivOk j := ⟨p, Nat.lt_trans (log2_lt_of hj (by decide)) (by decide)⟩
theorem abs_eq (i : Int) : (if i < 0 then -i else i) = (i.natAbs : Int) := by split <;> omega
end Lw
namespace Lw
open PySem PySem.Spec PyProof.Rows L2 Evl
section
variable {f : D → Env → R Env} {b : Env → R Out} {ks : List Nat} {d : D} {ds : List D} {env e1 e : Env}
theorem forR_nx (hf : f d env = .ok e1) (hb : b e1 = .ok (.nx e)) : forR f b ks (d :: ds) env = forR f b ks ds (kill ks e) := by
  rw [forR, hf]
  show (b e1 >>= _) = _
  rw [hb]
  rfl
theorem forR_ret {c : Cell} (hf : f d env = .ok e1) (hb : b e1 = .ok (.ret c e)) : forR f b ks (d :: ds) env = .ok (.ret c e) := by
  rw [forR, hf]
  show (b e1 >>= _) = _
  rw [hb]
  rfl
theorem forR_bk (hf : f d env = .ok e1) (hb : b e1 = .ok (.bk e)) : forR f b ks (d :: ds) env = .ok (.nx (kill ks e)) := by
  rw [forR, hf]
  show (b e1 >>= _) = _
  rw [hb]
  rfl
theorem forR_fold {S : Type} (mk : S → Env) (step : S → D → S) (ds : List D) (h : ∀ d ∈ ds, ∀ s, ∃ e1 e, f d (mk s) = .ok e1 ∧ b e1 = .ok (.nx e) ∧ kill ks e = mk (step s d)) :
    ∀ s, forR f b ks ds (mk s) = .ok (.nx (mk (ds.foldl step s))) := by
  induction ds with
  | nil => intro s; rfl
  | cons d ds ih =>
    intro s
    obtain ⟨e1, e, hf, hb, hk⟩ := h d (by simp) s
    rw [forR_nx hf hb, hk, ih (fun d' h' => h d' (by simp [h']))]
    rfl
end
section
variable {f : D → Env → R Env} {t : Env → R Bool} {m : Env → R Cell} {env : Env}
theorem compR_map {ds : List D} (k : D → D) (h : ∀ d ∈ ds, ∃ e1, f d env = .ok e1 ∧ t e1 = .ok true ∧ ∃ c, m e1 = .ok c ∧ c.get = .ok (k d)) : compR f t m ds env = .ok (ds.map k) := by
  induction ds with
  | nil => rfl
  | cons d ds ih =>
    obtain ⟨e1, hf, ht, c, hm, hc⟩ := h d (by simp)
    rw [compR, hf]
    show (pur (t e1) >>= _) = _
    rw [ht]
    show (if true = true then _ else (compR f t m ds env)) = _
    rw [if_pos rfl]
    simp [hm, hc, ih (fun d' h' => h d' (by simp [h']))]
theorem compR_filter {ds : List D} (p : D → Bool) (k : D → D) (h : ∀ d ∈ ds, ∃ e1, f d env = .ok e1 ∧ t e1 = .ok (p d) ∧ (p d = true → ∃ c, m e1 = .ok c ∧ c.get = .ok (k d))) : compR f t m ds env = .ok ((ds.filter p).map k) := by
  induction ds with
  | nil => rfl
  | cons d ds ih =>
    obtain ⟨e1, hf, ht, hm⟩ := h d (by simp)
    have ih := ih (fun d' h' => h d' (by simp [h']))
    rw [compR, hf]
    show (pur (t e1) >>= _) = _
    rw [ht]
    cases hp : p d with
    | false =>
      rw [List.filter_cons_of_neg (by simp [hp]), ← ih]
      rfl
    | true =>
      obtain ⟨c, hm, hc⟩ := hm hp
      show (if true = true then _ else (compR f t m ds env)) = _
      rw [if_pos rfl, List.filter_cons_of_pos hp]
      simp [hm, hc, ih]
end
/-- drawn numbers -/
def Fit : List Int → List Int → Prop
  | [], [] => True
  | x :: xs, s :: ss => (0 ≤ x ∧ x < s) ∧ Fit xs ss
  | _, _ => False
theorem Fit.len : ∀ {xs ss : List Int}, Fit xs ss → xs.length = ss.length
  | [], [], _ => rfl
  | x :: xs, s :: ss, h => congrArg (· + 1) (Fit.len h.2)
theorem Fit.get : ∀ {xs ss : List Int}, Fit xs ss → ∀ i, i < ss.length → ∃ x, xs[i]? = some x ∧ 0 ≤ x ∧ x < ss.getD i 0
  | [], [], _, i, h => by cases h
  | x :: xs, s :: ss, h, 0, _ => ⟨x, rfl, h.1⟩
  | x :: xs, s :: ss, h, i + 1, hi => by
    obtain ⟨y, h1, h2⟩ := Fit.get h.2 i (Nat.lt_of_succ_lt_succ hi)
    exact ⟨y, h1, h2⟩
theorem mod_bnd (i : Int) {n : Int} (h : 0 < n) : 0 ≤ i % n ∧ i % n < n := ⟨Int.emod_nonneg _ (by omega), Int.emod_lt_of_pos _ h⟩
theorem rangeD_0 (n : Nat) : rangeD 0 n = (List.range n).map fun i : Nat => PyData.int (i : Nat) := by
  unfold rangeD
  simp
def fin : R Out → R Cell
  | .ok (.ret c _) => .ok c
  | .ok (.nx _) => .ok (.val .none)
  | _ => .bad
@[simp] theorem fin_ret {c : Cell} {e : Env} : fin (.ok (.ret c e)) = .ok c := rfl
@[simp] theorem fin_nx {e : Env} : fin (.ok (.nx e)) = .ok (.val .none) := rfl
theorem run_eq {N n : Nat} {m : Env → R Out} {ds : List D} (h : ds.length = n) : runP N n m ds = fin (m (ds.map Cell.val ++ List.replicate (N - n) Cell.non)) := by
  rw [v_runP _ _ _ _ h]
  cases m (ds.map Cell.val ++ List.replicate (N - n) Cell.non) with
  | ok o => cases o <;> rfl
  | bad => rfl
  | exc e => rfl
theorem seq_nx {m n : Env → R Out} {env e : Env} (h : m env = .ok (.nx e)) : sSeq m n env = n e := by
  rw [v_sSeq, h]
  rfl
theorem seq_ret {m n : Env → R Out} {env e : Env} {c : Cell} (h : m env = .ok (.ret c e)) : sSeq m n env = .ok (.ret c e) := by
  rw [v_sSeq, h]
  rfl
theorem fin_seq {m n : Env → R Out} {env : Env} (e : Env) {r : R Cell} (h : m env = .ok (.nx e)) (h2 : fin (n e) = r) : fin (sSeq m n env) = r := by rw [seq_nx h, h2]
theorem fin_out {m n : Env → R Out} {env : Env} (e : Env) {c : Cell} (h : m env = .ok (.ret c e)) : fin (sSeq m n env) = .ok c := by rw [seq_ret h]; rfl
theorem run_fin {N n : Nat} {m : Env → R Out} {ds : List D} {r : R Cell} (h : ds.length = n) (h2 : fin (m (ds.map Cell.val ++ List.replicate (N - n) Cell.non)) = r) : runP N n m ds = r := (run_eq h).trans h2
end Lw


/-! texts as lists of signs -/
namespace Lw
open PySem PySem.Spec PyProof.Rows L2 Evl
def sL (l : List Nat) : Str := ⟨l.toArray⟩
theorem tl_sL (l : List Nat) : (sL l).cps.toList = l := rfl
theorem sL_tl (x : Str) : sL x.cps.toList = x := TL.mk_tl x
@[simp] theorem sL_len (l : List Nat) : (sL l).length = l.length := rfl
@[simp] theorem sL_inj {l m : List Nat} : sL l = sL m ↔ l = m := ⟨fun h => congrArg (fun x : Str => x.cps.toList) h, fun h => by rw [h]⟩
theorem sL_app (l m : List Nat) : sL l ++ sL m = sL (l ++ m) := TL.ext_tl (by rw [TL.tl_append]; rfl)
theorem strD_sL (l : List Nat) : strD (sL l) = l.map fun c => .str (sL [c]) := rfl
@[simp] theorem hasStr1 (c : Nat) (l : List Nat) : hasStr (sL [c]) (sL l) = decide (c ∈ l) := PySem.StrLaws.found_one (sL l) c
theorem cut_take {α : Type} (xs : List α) (k : Nat) : cutD xs none (some (k : Int)) = xs.take k := by
  unfold cutD
  rw [HT.sIx_none, HT.sIx_nat, List.drop_zero, Nat.sub_zero]
  rcases Nat.le_total k xs.length with h | h
  · rw [Nat.min_eq_left h]
  · rw [Nat.min_eq_right h, List.take_length, List.take_of_length_le h]
theorem cut_drop {α : Type} (xs : List α) (k : Nat) : cutD xs (some (k : Int)) none = xs.drop k := by
  unfold cutD
  rw [HT.sIx_none, HT.sIx_nat]
  rcases Nat.le_total k xs.length with h | h
  · rw [Nat.min_eq_left h, List.take_of_length_le (by rw [List.length_drop]; omega)]
  · rw [Nat.min_eq_right h, List.drop_length, List.drop_of_length_le h]; simp
theorem sl_take (l : List Nat) (k : Nat) (h : l.length ≤ 1000000) : fSl (.str (sL l)) none (some (k : Int)) = .ok (.val (.str (sL (l.take k)))) := by
  show (if small (sL l).length then _ else _) = _
  rw [if_pos (show small (sL l).length from le_line (by simpa using h))]
  exact congrArg (fun z => R.ok (Cell.val (.str (sL z)))) (cut_take l k)
theorem sl_drop (l : List Nat) (k : Nat) (h : l.length ≤ 1000000) : fSl (.str (sL l)) (some (k : Int)) none = .ok (.val (.str (sL (l.drop k)))) := by
  show (if small (sL l).length then _ else _) = _
  rw [if_pos (show small (sL l).length from le_line (by simpa using h))]
  exact congrArg (fun z => R.ok (Cell.val (.str (sL z)))) (cut_drop l k)
theorem at1 (c : Nat) (l : List Nat) (i : Nat) : StrLaws.At (sL l) (sL [c]) (sL l).length i ↔ l[i]? = some c := by
  rw [TL.at_iff (y := sL [c]) (by intro h; cases h)]
  show TL.pre [c] (l.drop i) = true ↔ _
  unfold TL.pre
  cases h : l.drop i with
  | nil => simp [List.getElem?_eq_none_iff.mpr (List.drop_eq_nil_iff.mp h)]
  | cons d r =>
    have e := congrArg List.head? h
    rw [List.head?_drop] at e
    simp [e]
theorem find_no {c : Nat} {l : List Nat} (h : c ∉ l) : Txt.find (sL l) (sL [c]) = -1 := by
  rcases find_whole (sL l) (sL [c]) with ⟨e, _⟩ | ⟨i, _, hi, _⟩
  · exact e
  · exact absurd (List.mem_of_getElem? ((at1 c l i).mp hi)) h
theorem find_at {c : Nat} {a b : List Nat} (h : c ∉ a) : Txt.find (sL (a ++ c :: b)) (sL [c]) = (a.length : Int) := by
  rcases find_whole (sL (a ++ c :: b)) (sL [c]) with ⟨_, e⟩ | ⟨i, e, hi, hn⟩
  · exact absurd ((at1 c _ a.length).mpr (by simp)) (e _)
  · have h1 := (at1 c _ i).mp hi
    have h2 : a.length ≤ i := by
      refine Nat.le_of_not_lt fun lt => h ?_
      rw [List.getElem?_append_left lt] at h1
      exact List.mem_of_getElem? h1
    have h3 : i ≤ a.length := Nat.le_of_not_lt fun lt => hn _ lt ((at1 c _ a.length).mpr (by simp))
    rw [e, Nat.le_antisymm h3 h2]
theorem split_no {c : Nat} {l : List Nat} (hc : c < 256) (h : c ∉ l) : Txt.split (sL l) (sL [c]) = [sL l] := by
  refine TL.map_tl_inj ?_
  rw [TL.split_spl (sL l) (sL [c]) (by intro h; cases h) (TL.kind_ok (by show (#[c].all (· < 256)) = true; simp [hc]))]
  show TL.spl [c] 0 [] l = [l]
  rw [TL.spl_last1 h, List.nil_append]
theorem split_at {c : Nat} {a b : List Nat} (hc : c < 256) (h : c ∉ a) : Txt.split (sL (a ++ c :: b)) (sL [c]) = sL a :: Txt.split (sL b) (sL [c]) := by
  have k : ∀ x, ¬ Builtin.Str.strKind x < Builtin.Str.strKind (sL [c]) := fun x => TL.kind_ok (by show (#[c].all (· < 256)) = true; simp [hc])
  refine TL.map_tl_inj ?_
  rw [List.map_cons, TL.split_spl (sL (a ++ c :: b)) (sL [c]) (by intro h; cases h) (k _), TL.split_spl (sL b) (sL [c]) (by intro h; cases h) (k _)]
  show TL.spl [c] 0 [] (a ++ ([c] ++ b)) = a :: TL.spl [c] 0 [] b
  rw [TL.spl_part1 h, List.nil_append]
theorem first_split {c : Nat} {x : List Nat} (h : c ∈ x) : ∃ a b, x = a ++ c :: b ∧ c ∉ a := by
  induction x with
  | nil => cases h
  | cons d x ih =>
    by_cases z : d = c
    · exact ⟨[], x, by rw [z]; rfl, by simp⟩
    · obtain ⟨p, q, e, hp⟩ := ih (by simpa [Ne.symm z] using h)
      exact ⟨d :: p, q, by rw [e]; rfl, by simp [hp, Ne.symm z]⟩
theorem split_ne (x : List Nat) {c : Nat} (hc : c < 256) : Txt.split (sL x) (sL [c]) ≠ [] := by
  by_cases h : c ∈ x
  · obtain ⟨a, b, rfl, ha⟩ := first_split h
    rw [split_at hc ha]
    simp
  · rw [split_no hc h]
    simp
/-! digits -/
def isDg (c : Nat) : Bool := decide (48 ≤ c) && decide (c ≤ 57)
def dgV (l : List Nat) : Nat := l.foldl (fun a c => a * 10 + (c - 48)) 0
theorem dg_all {l : List Nat} (h : l.all isDg = true) : NumText.AllDigits l := fun c hc => by
  have := List.all_eq_true.mp h c hc
  simpa [isDg] using this
theorem int_dg {l : List Nat} (h : l.all isDg = true) (h1 : l ≠ []) (h2 : l.length ≤ 640) : fInt [.str (sL l)] = .ok (.val (.int (dgV l : Nat))) := by
  show (if (sL l).length ≤ 640 then _ else _) = _
  rw [if_pos (by simpa using h2), show intText? (sL l) = some ((dgV l : Nat) : Int) from intText_digits (x := sL l) (dg_all h) h1 (by rw [sL_len]; omega)]
theorem dgV_lt {l : List Nat} (h : l.all isDg = true) : ∀ a : Nat, l.foldl (fun a c => a * 10 + (c - 48)) a < (a + 1) * 10 ^ l.length := by
  induction l with
  | nil => intro a; simp
  | cons c l ih =>
    intro a
    simp only [List.all_cons, Bool.and_eq_true] at h
    have h1 : 48 ≤ c ∧ c ≤ 57 := by simpa [isDg] using h.1
    have := ih h.2 (a * 10 + (c - 48))
    rw [List.foldl_cons, List.length_cons, Nat.pow_succ]
    refine Nat.lt_of_lt_of_le this ?_
    have e : (a + 1) * (10 ^ l.length * 10) = (a * 10 + 10) * 10 ^ l.length := by
      rw [Nat.mul_comm (10 ^ l.length) 10, ← Nat.mul_assoc, Nat.add_mul, Nat.one_mul]
    rw [e]
    exact Nat.mul_le_mul_right _ (by omega)
theorem dgV_lt' {l : List Nat} (h : l.all isDg = true) (hl : l.length ≤ 20) : dgV l < 10 ^ 20 :=
  Nat.lt_of_lt_of_le (dgV_lt h 0) (by rw [Nat.zero_add, Nat.one_mul]; exact Nat.pow_le_pow_right (by decide) hl)
def dgs : List Nat := [48, 49, 50, 51, 52, 53, 54, 55, 56, 57]
theorem dgs_eq : Str.ofString "0123456789" = sL dgs := by decide +kernel
theorem mem_dgs (c : Nat) : c ∈ dgs ↔ isDg c = true := by
  simp [dgs, isDg]
  omega
theorem find_dg (c : Nat) : Txt.find (sL dgs) (sL [c]) = if isDg c = true then ((c - 48 : Nat) : Int) else -1 := by
  by_cases h : isDg c = true
  · rw [if_pos h]
    have m := (mem_dgs c).mpr h
    have h1 : 48 ≤ c ∧ c ≤ 57 := by simpa [isDg] using h
    obtain ⟨k, rfl⟩ : ∃ k, c = 48 + k := ⟨c - 48, by omega⟩
    have hk : k < 10 := by omega
    have e : dgs = (List.range k).map (48 + ·) ++ (48 + k) :: (List.range (9 - k)).map (48 + k + 1 + ·) := by
      clear m h h1
      revert k
      decide
    rw [e, find_at (by simp)]
    simp
  · rw [if_neg h, find_no (fun m => h ((mem_dgs c).mp m))]
@[simp] theorem v_isi_bool_none : fIsi "bool" .none = .ok (dB false) := by rfl
@[simp] theorem v_isi_bool_bool (b : Bool) : fIsi "bool" (.bool b) = .ok (dB true) := by rfl
@[simp] theorem v_isi_bool_int (i : Int) : fIsi "bool" (.int i) = .ok (dB false) := by rfl
@[simp] theorem v_isi_bool_str (x : Str) : fIsi "bool" (.str x) = .ok (dB false) := by rfl
@[simp] theorem v_isi_bool_list (xs : List D) : fIsi "bool" (.list xs) = .ok (dB false) := by rfl
@[simp] theorem v_isi_bool_tuple (xs : List D) : fIsi "bool" (.tuple xs) = .ok (dB false) := by rfl
@[simp] theorem v_isi_int_none : fIsi "int" .none = .ok (dB false) := by rfl
@[simp] theorem v_isi_int_bool (b : Bool) : fIsi "int" (.bool b) = .ok (dB true) := by rfl
@[simp] theorem v_isi_int_int (i : Int) : fIsi "int" (.int i) = .ok (dB true) := by rfl
@[simp] theorem v_isi_int_str (x : Str) : fIsi "int" (.str x) = .ok (dB false) := by rfl
@[simp] theorem v_isi_int_list (xs : List D) : fIsi "int" (.list xs) = .ok (dB false) := by rfl
@[simp] theorem v_isi_int_tuple (xs : List D) : fIsi "int" (.tuple xs) = .ok (dB false) := by rfl
@[simp] theorem v_isi_str_none : fIsi "str" .none = .ok (dB false) := by rfl
@[simp] theorem v_isi_str_bool (b : Bool) : fIsi "str" (.bool b) = .ok (dB false) := by rfl
@[simp] theorem v_isi_str_int (i : Int) : fIsi "str" (.int i) = .ok (dB false) := by rfl
@[simp] theorem v_isi_str_str (x : Str) : fIsi "str" (.str x) = .ok (dB true) := by rfl
@[simp] theorem v_isi_str_list (xs : List D) : fIsi "str" (.list xs) = .ok (dB false) := by rfl
@[simp] theorem v_isi_str_tuple (xs : List D) : fIsi "str" (.tuple xs) = .ok (dB false) := by rfl
@[simp] theorem v_isi_tuple_none : fIsi "tuple" .none = .ok (dB false) := by rfl
@[simp] theorem v_isi_tuple_bool (b : Bool) : fIsi "tuple" (.bool b) = .ok (dB false) := by rfl
@[simp] theorem v_isi_tuple_int (i : Int) : fIsi "tuple" (.int i) = .ok (dB false) := by rfl
@[simp] theorem v_isi_tuple_str (x : Str) : fIsi "tuple" (.str x) = .ok (dB false) := by rfl
@[simp] theorem v_isi_tuple_list (xs : List D) : fIsi "tuple" (.list xs) = .ok (dB false) := by rfl
@[simp] theorem v_isi_tuple_tuple (xs : List D) : fIsi "tuple" (.tuple xs) = .ok (dB true) := by rfl
@[simp] theorem v_isi_list_none : fIsi "list" .none = .ok (dB false) := by rfl
@[simp] theorem v_isi_list_bool (b : Bool) : fIsi "list" (.bool b) = .ok (dB false) := by rfl
@[simp] theorem v_isi_list_int (i : Int) : fIsi "list" (.int i) = .ok (dB false) := by rfl
@[simp] theorem v_isi_list_str (x : Str) : fIsi "list" (.str x) = .ok (dB false) := by rfl
@[simp] theorem v_isi_list_list (xs : List D) : fIsi "list" (.list xs) = .ok (dB true) := by rfl
@[simp] theorem v_isi_list_tuple (xs : List D) : fIsi "list" (.tuple xs) = .ok (dB false) := by rfl
@[simp] theorem v_isNon_none : isNon .none = true := rfl
@[simp] theorem v_isNon_bool (b : Bool) : isNon (.bool b) = false := rfl
@[simp] theorem v_isNon_int (i : Int) : isNon (.int i) = false := rfl
@[simp] theorem v_isNon_str (x : Str) : isNon (.str x) = false := rfl
@[simp] theorem v_isNon_list (xs : List D) : isNon (.list xs) = false := rfl
@[simp] theorem v_isNon_tuple (xs : List D) : isNon (.tuple xs) = false := rfl
/-! numbers as texts -/
def numS (i : Int) : List Nat := if i < 0 then 45 :: TL.numL i.natAbs else TL.numL i.natAbs
theorem str_num (i : Int) : Str.ofString (toString i) = sL (numS i) := by
  refine TL.ext_tl ?_
  unfold numS
  by_cases h : i < 0
  · rw [if_pos h, toString_neg h]
    have e : (0 : Int) - i = ((i.natAbs : Nat) : Int) := by omega
    have t := TL.tl_num i.natAbs
    rw [e]
    show (Str.ofString ("-" ++ toString ((i.natAbs : Nat) : Int))).cps.toList = _
    unfold TL.tl at t
    rw [signs_ofString] at t ⊢
    rw [String.toList_append, List.map_append, t]
    rfl
  · rw [if_neg h]
    have e : i = ((i.natAbs : Nat) : Int) := by omega
    have t := TL.tl_num i.natAbs
    rw [← e] at t
    exact t
theorem numL_dg (n : Nat) : (TL.numL n).all isDg = true := by
  rw [List.all_eq_true]
  intro c hc
  have := TL.numL_digits n c hc
  simp [isDg, this]
theorem numL_dgV (n : Nat) : dgV (TL.numL n) = n := TL.numL_val n
end Lw


namespace K66
open PySem PySem.Spec PyProof.Rows L2 Evl Lw
def topS (i : Nat) : Stmt := PySem.Challenge.pw_wardenworks_k66_texts_of_ratios.main.body.getD i (.Pass ⟨0, 0, 0, 0⟩)
abbrev FnP (K : PySem.W.Frag) (x : Str) (st : Stmt) (f : Addr) (fd : FuncData) : Prop := FunD K x x (defArgs st) (defBody st) (defScope st) [] [] f fd
structure Bt (mg : Str → Option Value) : Prop where
  b_abs : mg "abs" = none
  b_bool : mg "bool" = none
  b_int : mg "int" = none
  b_isinstance : mg "isinstance" = none
  b_len : mg "len" = none
  b_list : mg "list" = none
  b_range : mg "range" = none
  b_str : mg "str" = none
  b_tuple : mg "tuple" = none
structure Ct (mg : Str → Option Value) : Prop where
  c_none : True
/-! ### gcd_of -/
abbrev s_gcd_of : Stmt := topS 1
abbrev N_gcd_of : List Str := ["left", "right"]
theorem sc_gcd_of : FnScope N_gcd_of ["left", "right"] (defScope s_gcd_of) := ⟨rfl, rfl, rfl, by decide +kernel, rfl, by decide +kernel, by decide +kernel⟩
noncomputable def m_gcd_of : Lw.Env → R Out :=
  (sSeq (sAsg 0 (eCb fAbs (arCons (rVar 0) aNil)))
  (sSeq (sAsg 1 (eCb fAbs (arCons (rVar 1) aNil)))
  (sSeq (sWhile (bOf (rOf (eBin fGt (rVar 1) (rOf (eC (.int 0)))))) (sPar 0 1 (aCons (eVar 1) (aCons (eBin fMod (rVar 0) (rVar 1)) aNil))) [])
  (sRetV 0))))
noncomputable def g_gcd_of : List D → R Cell := runP 2 2 m_gcd_of
theorem okF_gcd_of {g : G} (B : Bt g.mg) (C : Ct g.mg)  {f : Addr} {fd : FuncData} (F : FnP g.K "gcd_of" s_gcd_of f fd) : FnOk g.P g.w g.K g.mg g.base CX0 1 f fd ["left", "right"] (spD g 2 g_gcd_of) := by
  refine fn_ok (N := N_gcd_of) (m := m_gcd_of) (k := 0) F sc_gcd_of (by decide) fun cdv A outer s H E hr => ?_
  exact (xss_cons (xs_asg (i := 0) sc_gcd_of.nd rfl (.inl rfl) (xe_cb call_absM nox_abs rfl B.b_abs (by decide +kernel) (xar_cons (xr_var 0 rfl (.inl rfl)) xar_nil)))
  (xss_cons (xs_asg (i := 1) sc_gcd_of.nd rfl (.inl rfl) (xe_cb call_absM nox_abs rfl B.b_abs (by decide +kernel) (xar_cons (xr_var 1 rfl (.inl rfl)) xar_nil)))
  (xss_cons (xs_while [] PassesOwn.never (xt_cmp op_gtM nox_gt (xr_var 1 rfl (.inl rfl)) (xr_of xe_int) (nomark _)) (xss_one (xs_par (i := 0) (j := 1) rfl sc_gcd_of.nd rfl rfl (by decide) rfl rfl (xa_cons (xe_var 1 rfl (.inl rfl)) (xa_cons (xe_bin op_modM nox_mod (xr_var 0 rfl (.inl rfl)) (xr_var 1 rfl (.inl rfl))) xa_nil)) rfl)))
  (xss_one (xs_retV 0 rfl (.inl rfl))))))
theorem ok_gcd_of {g : G} (B : Bt g.mg) (C : Ct g.mg)  {f : Addr} {fd : FuncData} (F : FnP g.K "gcd_of" s_gcd_of f fd) (hm : g.mg "gcd_of" = some (.ref f)) (hb : Binds g.K fd ["left", "right"] []) : Cal g "gcd_of" 2 1 g_gcd_of :=
  ⟨⟨f, fd, ["left", "right"], okF_gcd_of B C  F, hm, F.kp, hb⟩, pure_runP _ _ _⟩
/-! ### ratio -/
abbrev s_ratio : Stmt := topS 2
abbrev N_ratio : List Str := ["top", "bottom", "common"]
theorem sc_ratio : FnScope N_ratio ["top", "bottom"] (defScope s_ratio) := ⟨rfl, rfl, rfl, by decide +kernel, rfl, by decide +kernel, by decide +kernel⟩
noncomputable def m_ratio : Lw.Env → R Out :=
  (sSeq (sIf (bOf (rOf (eBin fLt (rVar 1) (rOf (eC (.int 0)))))) (sSeq (sAsg 0 (eUn fNeg (rVar 0)))
  (sAsg 1 (eUn fNeg (rVar 1)))) sNil)
  (sSeq (sAsg 2 (eCall g_gcd_of (aCons (eVar 0) (aCons (eVar 1) aNil))))
  (sRet (eTup (aCons (eBin fDiv (rVar 0) (rVar 2)) (aCons (eBin fDiv (rVar 1) (rVar 2)) aNil))))))
noncomputable def g_ratio : List D → R Cell := runP 3 2 m_ratio
theorem okF_ratio {g : G} (B : Bt g.mg) (C : Ct g.mg) (c_gcd_of : Cal g "gcd_of" 2 1 g_gcd_of) {f : Addr} {fd : FuncData} (F : FnP g.K "ratio" s_ratio f fd) : FnOk g.P g.w g.K g.mg g.base CX0 2 f fd ["top", "bottom"] (spD g 2 g_ratio) := by
  refine fn_ok (N := N_ratio) (m := m_ratio) (k := 1) F sc_ratio (by decide) fun cdv A outer s H E hr => ?_
  exact (xss_cons (xs_if (xt_cmp op_ltM nox_lt (xr_var 1 rfl (.inl rfl)) (xr_of xe_int) (nomark _)) (xss_cons (xs_asg (i := 0) sc_ratio.nd rfl (.inl rfl) (xe_un un_negM nox_neg (xr_var 0 rfl (.inl rfl))))
  (xss_one (xs_asg (i := 1) sc_ratio.nd rfl (.inl rfl) (xe_un un_negM nox_neg (xr_var 1 rfl (.inl rfl)))))) xss_nil)
  (xss_cons (xs_asg (i := 2) sc_ratio.nd rfl (.inl rfl) (xe_callC c_gcd_of hr (by omega) rfl (xa_cons (xe_var 0 rfl (.inl rfl)) (xa_cons (xe_var 1 rfl (.inl rfl)) xa_nil))))
  (xss_one (xs_ret (xe_tup (xa_cons (xe_bin op_divM nox_div (xr_var 0 rfl (.inl rfl)) (xr_var 2 rfl (.inl rfl))) (xa_cons (xe_bin op_divM nox_div (xr_var 1 rfl (.inl rfl)) (xr_var 2 rfl (.inl rfl))) xa_nil)))))))
theorem ok_ratio {g : G} (B : Bt g.mg) (C : Ct g.mg) (c_gcd_of : Cal g "gcd_of" 2 1 g_gcd_of) {f : Addr} {fd : FuncData} (F : FnP g.K "ratio" s_ratio f fd) (hm : g.mg "ratio" = some (.ref f)) (hb : Binds g.K fd ["top", "bottom"] []) : Cal g "ratio" 2 2 g_ratio :=
  ⟨⟨f, fd, ["top", "bottom"], okF_ratio B C c_gcd_of F, hm, F.kp, hb⟩, pure_runP _ _ _⟩
/-! ### print_ratio -/
abbrev s_print_ratio : Stmt := topS 3
abbrev N_print_ratio : List Str := ["value"]
theorem sc_print_ratio : FnScope N_print_ratio ["value"] (defScope s_print_ratio) := ⟨rfl, rfl, rfl, by decide +kernel, rfl, by decide +kernel, by decide +kernel⟩
noncomputable def m_print_ratio : Lw.Env → R Out :=
  (sSeq (sIf (bOf (rOf (eBin fEqq (rOf (eBin fIx (rVar 0) (rOf (eC (.int 1))))) (rOf (eC (.int 1)))))) (sRet (eCb fStr (arCons (rOf (eBin fIx (rVar 0) (rOf (eC (.int 0))))) aNil))) sNil)
  (sRet (eBin fAdd (rOf (eBin fAdd (rOf (eCb fStr (arCons (rOf (eBin fIx (rVar 0) (rOf (eC (.int 0))))) aNil))) (rOf (eC (.str (Str.ofString "/")))))) (rOf (eCb fStr (arCons (rOf (eBin fIx (rVar 0) (rOf (eC (.int 1))))) aNil))))))
noncomputable def g_print_ratio : List D → R Cell := runP 1 1 m_print_ratio
theorem okF_print_ratio {g : G} (B : Bt g.mg) (C : Ct g.mg)  {f : Addr} {fd : FuncData} (F : FnP g.K "print_ratio" s_print_ratio f fd) : FnOk g.P g.w g.K g.mg g.base CX0 1 f fd ["value"] (spD g 1 g_print_ratio) := by
  refine fn_ok (N := N_print_ratio) (m := m_print_ratio) (k := 0) F sc_print_ratio (by decide) fun cdv A outer s H E hr => ?_
  exact (xss_cons (xs_if (xt_cmp (op_eqM hr.units) nox_eqq (xr_of (xe_ix (xr_var 0 rfl (.inl rfl)) (xr_of xe_int) (fun _ _ => rfl))) (xr_of xe_int) (nomark _)) (xss_one (xs_ret (xe_ct call_strM nox_str rfl B.b_str (by decide +kernel) (xar_cons (xr_of (xe_ix (xr_var 0 rfl (.inl rfl)) (xr_of xe_int) (fun _ _ => rfl))) xar_nil)))) xss_nil)
  (xss_one (xs_ret (xe_bin op_addM nox_add (xr_of (xe_bin op_addM nox_add (xr_of (xe_ct call_strM nox_str rfl B.b_str (by decide +kernel) (xar_cons (xr_of (xe_ix (xr_var 0 rfl (.inl rfl)) (xr_of xe_int) (fun _ _ => rfl))) xar_nil))) (xr_of xe_str))) (xr_of (xe_ct call_strM nox_str rfl B.b_str (by decide +kernel) (xar_cons (xr_of (xe_ix (xr_var 0 rfl (.inl rfl)) (xr_of xe_int) (fun _ _ => rfl))) xar_nil)))))))
theorem ok_print_ratio {g : G} (B : Bt g.mg) (C : Ct g.mg)  {f : Addr} {fd : FuncData} (F : FnP g.K "print_ratio" s_print_ratio f fd) (hm : g.mg "print_ratio" = some (.ref f)) (hb : Binds g.K fd ["value"] []) : Cal g "print_ratio" 1 1 g_print_ratio :=
  ⟨⟨f, fd, ["value"], okF_print_ratio B C  F, hm, F.kp, hb⟩, pure_runP _ _ _⟩
/-! ### digits_of -/
abbrev s_digits_of : Stmt := topS 4
abbrev N_digits_of : List Str := ["text", "number", "sign", "place"]
theorem sc_digits_of : FnScope N_digits_of ["text"] (defScope s_digits_of) := ⟨rfl, rfl, rfl, by decide +kernel, rfl, by decide +kernel, by decide +kernel⟩
noncomputable def m_digits_of : Lw.Env → R Out :=
  (sSeq (sIf (bOr (bOf (rOf (eBin fLt (rOf (eCb fLen (arCons (rVar 0) aNil))) (rOf (eC (.int 1)))))) (bOf (rOf (eBin fGt (rOf (eCb fLen (arCons (rVar 0) aNil))) (rOf (eC (.int 20))))))) (sRet (eC .none)) sNil)
  (sSeq (sAsg 1 (eC (.int 0)))
  (sSeq (sFor (gV 2) (iE (eVar 0)) (sSeq (sAsg 3 (eM1 fFind (rOf (eC (.str (Str.ofString "0123456789")))) (rVar 2)))
  (sSeq (sIf (bOf (rOf (eBin fLt (rVar 3) (rOf (eC (.int 0)))))) (sRet (eC .none)) sNil)
  (sAsg 1 (eBin fAdd (rOf (eBin fMul (rOf (eC (.int 10))) (rVar 1))) (rVar 3))))) [2, 3])
  (sRetV 1))))
noncomputable def g_digits_of : List D → R Cell := runP 4 1 m_digits_of
theorem okF_digits_of {g : G} (B : Bt g.mg) (C : Ct g.mg)  {f : Addr} {fd : FuncData} (F : FnP g.K "digits_of" s_digits_of f fd) : FnOk g.P g.w g.K g.mg g.base CX0 1 f fd ["text"] (spD g 1 g_digits_of) := by
  refine fn_ok (N := N_digits_of) (m := m_digits_of) (k := 0) F sc_digits_of (by decide) fun cdv A outer s H E hr => ?_
  exact (xss_cons (xs_if (XW.xt (xw_or (xt_cmp op_ltM nox_lt (xr_of (xe_cb call_lenM nox_len rfl B.b_len PySem.boot_len (xar_cons (xr_var 0 rfl (.inl rfl)) xar_nil))) (xr_of xe_int) (nomark _)) (xw_or1 (xt_cmp op_gtM nox_gt (xr_of (xe_cb call_lenM nox_len rfl B.b_len PySem.boot_len (xar_cons (xr_var 0 rfl (.inl rfl)) xar_nil))) (xr_of xe_int) (nomark _))))) (xss_one (xs_ret xe_non)) xss_nil)
  (xss_cons (xs_asg (i := 1) sc_digits_of.nd rfl (.inl rfl) xe_int)
  (xss_cons (xs_for [2, 3] PassesOwn.never rfl (xi_e (xe_var 0 rfl (.inl rfl))) (xg_name (i := 2) sc_digits_of.nd rfl (.inl rfl)) (xss_cons (xs_asg (i := 3) sc_digits_of.nd rfl (.inl rfl) (xe_find (xr_of xe_str) (xr_var 2 rfl (.inl rfl))))
  (xss_cons (xs_if (xt_cmp op_ltM nox_lt (xr_var 3 rfl (.inl rfl)) (xr_of xe_int) (nomark _)) (xss_one (xs_ret xe_non)) xss_nil)
  (xss_one (xs_asg (i := 1) sc_digits_of.nd rfl (.inl rfl) (xe_bin op_addM nox_add (xr_of (xe_bin op_mulM nox_mul (xr_of xe_int) (xr_var 1 rfl (.inl rfl)))) (xr_var 3 rfl (.inl rfl))))))))
  (xss_one (xs_retV 1 rfl (.inl rfl))))))
theorem ok_digits_of {g : G} (B : Bt g.mg) (C : Ct g.mg)  {f : Addr} {fd : FuncData} (F : FnP g.K "digits_of" s_digits_of f fd) (hm : g.mg "digits_of" = some (.ref f)) (hb : Binds g.K fd ["text"] []) : Cal g "digits_of" 1 1 g_digits_of :=
  ⟨⟨f, fd, ["text"], okF_digits_of B C  F, hm, F.kp, hb⟩, pure_runP _ _ _⟩
/-! ### parse_ratio -/
abbrev s_parse_ratio : Stmt := topS 5
abbrev N_parse_ratio : List Str := ["text", "sign", "slash", "number", "top", "bottom"]
theorem sc_parse_ratio : FnScope N_parse_ratio ["text"] (defScope s_parse_ratio) := ⟨rfl, rfl, rfl, by decide +kernel, rfl, by decide +kernel, by decide +kernel⟩
noncomputable def m_parse_ratio : Lw.Env → R Out :=
  (sSeq (sAsg 1 (eC (.int 1)))
  (sSeq (sIf (bOf (rOf (eBin fEqq (rOf (eSl (rVar 0) oNone (oSome (rOf (eC (.int 1)))))) (rOf (eC (.str (Str.ofString "-"))))))) (sSeq (sAsg 1 (eUn fNeg (rOf (eC (.int 1)))))
  (sAsg 0 (eSl (rVar 0) (oSome (rOf (eC (.int 1)))) oNone))) sNil)
  (sSeq (sAsg 2 (eM1 fFind (rVar 0) (rOf (eC (.str (Str.ofString "/"))))))
  (sSeq (sIf (bOf (rOf (eBin fLt (rVar 2) (rOf (eC (.int 0)))))) (sSeq (sFz 0 (sAsg 3 (eCall g_digits_of (aCons (eVar 0) aNil))))
  (sSeq (sIf (bOf (rOf (eBin fIsN (rVar 3) (rOf (eC .none))))) (sRet (eC .none)) sNil)
  (sRet (eTup (aCons (eBin fMul (rVar 1) (rVar 3)) (aCons (eC (.int 1)) aNil)))))) sNil)
  (sSeq (sAsg 4 (eCall g_digits_of (aCons (eSl (rVar 0) oNone (oSome (rVar 2))) aNil)))
  (sSeq (sAsg 5 (eCall g_digits_of (aCons (eSl (rVar 0) (oSome (rOf (eBin fAdd (rVar 2) (rOf (eC (.int 1)))))) oNone) aNil)))
  (sSeq (sIf (bOr (bOf (rOf (eBin fIsN (rVar 4) (rOf (eC .none))))) (bOr (bOf (rOf (eBin fIsN (rVar 5) (rOf (eC .none))))) (bOf (rOf (eBin fEqq (rVar 5) (rOf (eC (.int 0)))))))) (sRet (eC .none)) sNil)
  (sFz 5 (sRet (eCall g_ratio (aCons (eBin fMul (rVar 1) (rVar 4)) (aCons (eVar 5) aNil))))))))))))
noncomputable def g_parse_ratio : List D → R Cell := runP 6 1 m_parse_ratio
theorem okF_parse_ratio {g : G} (B : Bt g.mg) (C : Ct g.mg) (c_digits_of : Cal g "digits_of" 1 1 g_digits_of) (c_ratio : Cal g "ratio" 2 2 g_ratio) {f : Addr} {fd : FuncData} (F : FnP g.K "parse_ratio" s_parse_ratio f fd) : FnOk g.P g.w g.K g.mg g.base CX0 3 f fd ["text"] (spD g 1 g_parse_ratio) := by
  refine fn_ok (N := N_parse_ratio) (m := m_parse_ratio) (k := 2) F sc_parse_ratio (by decide) fun cdv A outer s H E hr => ?_
  exact (xss_cons (xs_asg (i := 1) sc_parse_ratio.nd rfl (.inl rfl) xe_int)
  (xss_cons (xs_if (xt_cmp (op_eqM hr.units) nox_eqq (xr_of (xe_sl (xr_var 0 rfl (.inl rfl)) xo_none (xo_some (xr_of xe_int)))) (xr_of xe_str) (nomark _)) (xss_cons (xs_asg (i := 1) sc_parse_ratio.nd rfl (.inl rfl) (xe_un un_negM nox_neg (xr_of xe_int)))
  (xss_one (xs_asg (i := 0) sc_parse_ratio.nd rfl (.inl rfl) (xe_sl (xr_var 0 rfl (.inl rfl)) (xo_some (xr_of xe_int)) xo_none)))) xss_nil)
  (xss_cons (xs_asg (i := 2) sc_parse_ratio.nd rfl (.inl rfl) (xe_find (xr_var 0 rfl (.inl rfl)) (xr_of xe_str)))
  (xss_cons (xs_if (xt_cmp op_ltM nox_lt (xr_var 2 rfl (.inl rfl)) (xr_of xe_int) (nomark _)) (xss_cons (xs_fz 0 (xs_asg (i := 3) sc_parse_ratio.nd rfl (.inl rfl) (xe_callC c_digits_of hr (by omega) rfl (xa_cons (xe_var 0 rfl (.inl rfl)) xa_nil))))
  (xss_cons (xs_if (xt_cmp op_isNM nox_isN (xr_var 3 rfl (.inl rfl)) (xr_of xe_non) (nomark _)) (xss_one (xs_ret xe_non)) xss_nil)
  (xss_one (xs_ret (xe_tup (xa_cons (xe_bin op_mulM nox_mul (xr_var 1 rfl (.inl rfl)) (xr_var 3 rfl (.inl rfl))) (xa_cons xe_int xa_nil))))))) xss_nil)
  (xss_cons (xs_asg (i := 4) sc_parse_ratio.nd rfl (.inl rfl) (xe_callC c_digits_of hr (by omega) rfl (xa_cons (xe_sl (xr_var 0 rfl (.inl rfl)) xo_none (xo_some (xr_var 2 rfl (.inl rfl)))) xa_nil)))
  (xss_cons (xs_asg (i := 5) sc_parse_ratio.nd rfl (.inl rfl) (xe_callC c_digits_of hr (by omega) rfl (xa_cons (xe_sl (xr_var 0 rfl (.inl rfl)) (xo_some (xr_of (xe_bin op_addM nox_add (xr_var 2 rfl (.inl rfl)) (xr_of xe_int)))) xo_none) xa_nil)))
  (xss_cons (xs_if (XW.xt (xw_or (xt_cmp op_isNM nox_isN (xr_var 4 rfl (.inl rfl)) (xr_of xe_non) (nomark _)) (xw_or (xt_cmp op_isNM nox_isN (xr_var 5 rfl (.inl rfl)) (xr_of xe_non) (nomark _)) (xw_or1 (xt_cmp (op_eqM hr.units) nox_eqq (xr_var 5 rfl (.inl rfl)) (xr_of xe_int) (nomark _)))))) (xss_one (xs_ret xe_non)) xss_nil)
  (xss_one (xs_fz 5 (xs_ret (xe_callC c_ratio hr (by omega) rfl (xa_cons (xe_bin op_mulM nox_mul (xr_var 1 rfl (.inl rfl)) (xr_var 4 rfl (.inl rfl))) (xa_cons (xe_var 5 rfl (.inl rfl)) xa_nil)))))))))))))
theorem ok_parse_ratio {g : G} (B : Bt g.mg) (C : Ct g.mg) (c_digits_of : Cal g "digits_of" 1 1 g_digits_of) (c_ratio : Cal g "ratio" 2 2 g_ratio) {f : Addr} {fd : FuncData} (F : FnP g.K "parse_ratio" s_parse_ratio f fd) (hm : g.mg "parse_ratio" = some (.ref f)) (hb : Binds g.K fd ["text"] []) : Cal g "parse_ratio" 1 3 g_parse_ratio :=
  ⟨⟨f, fd, ["text"], okF_parse_ratio B C c_digits_of c_ratio F, hm, F.kp, hb⟩, pure_runP _ _ _⟩
/-! ### _law_low -/
abbrev s__law_low : Stmt := topS 7
abbrev N__law_low : List Str := ["top", "bottom", "left", "right"]
theorem sc__law_low : FnScope N__law_low ["top", "bottom"] (defScope s__law_low) := ⟨rfl, rfl, rfl, by decide +kernel, rfl, by decide +kernel, by decide +kernel⟩
noncomputable def m__law_low : Lw.Env → R Out :=
  (sSeq (sAsg 2 (eCb fAbs (arCons (rVar 0) aNil)))
  (sSeq (sAsg 3 (eVar 1))
  (sSeq (sWhile (bOf (rOf (eBin fGt (rVar 3) (rOf (eC (.int 0)))))) (sPar 2 3 (aCons (eVar 3) (aCons (eBin fMod (rVar 2) (rVar 3)) aNil))) [])
  (sRet (eTup (aCons (eBin fDiv (rVar 0) (rVar 2)) (aCons (eBin fDiv (rVar 1) (rVar 2)) aNil)))))))
noncomputable def g__law_low : List D → R Cell := runP 4 2 m__law_low
theorem okF__law_low {g : G} (B : Bt g.mg) (C : Ct g.mg)  {f : Addr} {fd : FuncData} (F : FnP g.K "_law_low" s__law_low f fd) : FnOk g.P g.w g.K g.mg g.base CX0 1 f fd ["top", "bottom"] (spD g 2 g__law_low) := by
  refine fn_ok (N := N__law_low) (m := m__law_low) (k := 0) F sc__law_low (by decide) fun cdv A outer s H E hr => ?_
  exact (xss_cons (xs_asg (i := 2) sc__law_low.nd rfl (.inl rfl) (xe_cb call_absM nox_abs rfl B.b_abs (by decide +kernel) (xar_cons (xr_var 0 rfl (.inl rfl)) xar_nil)))
  (xss_cons (xs_asg (i := 3) sc__law_low.nd rfl (.inl rfl) (xe_var 1 rfl (.inl rfl)))
  (xss_cons (xs_while [] PassesOwn.never (xt_cmp op_gtM nox_gt (xr_var 3 rfl (.inl rfl)) (xr_of xe_int) (nomark _)) (xss_one (xs_par (i := 2) (j := 3) rfl sc__law_low.nd rfl rfl (by decide) rfl rfl (xa_cons (xe_var 3 rfl (.inl rfl)) (xa_cons (xe_bin op_modM nox_mod (xr_var 2 rfl (.inl rfl)) (xr_var 3 rfl (.inl rfl))) xa_nil)) rfl)))
  (xss_one (xs_ret (xe_tup (xa_cons (xe_bin op_divM nox_div (xr_var 0 rfl (.inl rfl)) (xr_var 2 rfl (.inl rfl))) (xa_cons (xe_bin op_divM nox_div (xr_var 1 rfl (.inl rfl)) (xr_var 2 rfl (.inl rfl))) xa_nil))))))))
theorem ok__law_low {g : G} (B : Bt g.mg) (C : Ct g.mg)  {f : Addr} {fd : FuncData} (F : FnP g.K "_law_low" s__law_low f fd) (hm : g.mg "_law_low" = some (.ref f)) (hb : Binds g.K fd ["top", "bottom"] []) : Cal g "_law_low" 2 1 g__law_low :=
  ⟨⟨f, fd, ["top", "bottom"], okF__law_low B C  F, hm, F.kp, hb⟩, pure_runP _ _ _⟩
/-! ### _law_cell -/
abbrev s__law_cell : Stmt := topS 8
abbrev N__law_cell : List Str := ["script", "k"]
theorem sc__law_cell : FnScope N__law_cell ["script", "k"] (defScope s__law_cell) := ⟨rfl, rfl, rfl, by decide +kernel, rfl, by decide +kernel, by decide +kernel⟩
noncomputable def m__law_cell : Lw.Env → R Out :=
  (sSeq (sIf (bOf (rOf (eBin fLt (rVar 1) (rOf (eCb fLen (arCons (rVar 0) aNil)))))) (sRet (eBin fIx (rVar 0) (rVar 1))) sNil)
  (sRet (eC (.int 0))))
noncomputable def g__law_cell : List D → R Cell := runP 2 2 m__law_cell
theorem okF__law_cell {g : G} (B : Bt g.mg) (C : Ct g.mg)  {f : Addr} {fd : FuncData} (F : FnP g.K "_law_cell" s__law_cell f fd) : FnOk g.P g.w g.K g.mg g.base CX0 1 f fd ["script", "k"] (spD g 2 g__law_cell) := by
  refine fn_ok (N := N__law_cell) (m := m__law_cell) (k := 0) F sc__law_cell (by decide) fun cdv A outer s H E hr => ?_
  exact (xss_cons (xs_if (xt_cmp op_ltM nox_lt (xr_var 1 rfl (.inl rfl)) (xr_of (xe_cb call_lenM nox_len rfl B.b_len PySem.boot_len (xar_cons (xr_var 0 rfl (.inl rfl)) xar_nil))) (nomark _)) (xss_one (xs_ret (xe_ix (xr_var 0 rfl (.inl rfl)) (xr_var 1 rfl (.inl rfl)) (fun _ _ => rfl)))) xss_nil)
  (xss_one (xs_ret xe_int)))
theorem ok__law_cell {g : G} (B : Bt g.mg) (C : Ct g.mg)  {f : Addr} {fd : FuncData} (F : FnP g.K "_law_cell" s__law_cell f fd) (hm : g.mg "_law_cell" = some (.ref f)) (hb : Binds g.K fd ["script", "k"] []) : Cal g "_law_cell" 2 1 g__law_cell :=
  ⟨⟨f, fd, ["script", "k"], okF__law_cell B C  F, hm, F.kp, hb⟩, pure_runP _ _ _⟩
/-! ### _law_draw -/
abbrev s__law_draw : Stmt := topS 9
abbrev N__law_draw : List Str := ["script", "k", "sizes", "cell", "drawn", "size", "mixed", "j"]
theorem sc__law_draw : FnScope N__law_draw ["script", "k", "sizes"] (defScope s__law_draw) := ⟨rfl, rfl, rfl, by decide +kernel, rfl, by decide +kernel, by decide +kernel⟩
noncomputable def m__law_draw : Lw.Env → R Out :=
  (sSeq (sAsg 3 (eCall g__law_cell (aCons (eVar 0) (aCons (eVar 1) aNil))))
  (sSeq (sIf (bOf (rOf (eBin fLt (rVar 3) (rOf (eC (.int 0)))))) (sAsg 3 (eUn fNeg (rVar 3))) sNil)
  (sSeq (sAsg 4 (eLst aNil))
  (sSeq (sIf (bOf (rOf (eBin fGe (rVar 3) (rOf (eBin fPow (rOf (eC (.int 10))) (rOf (eC (.int 18)))))))) (sSeq (sAsg 3 (eBin fSub (rVar 3) (rOf (eBin fPow (rOf (eC (.int 10))) (rOf (eC (.int 18)))))))
  (sSeq (sFor (gV 5) (iE (eVar 2)) (sSeq (sApp 4 (eBin fMod (rVar 3) (rVar 5)))
  (sAsg 3 (eBin fDiv (rVar 3) (rVar 5)))) [5])
  (sRetV 4))) sNil)
  (sSeq (sAsg 6 (eBin fMod (rOf (eBin fAdd (rOf (eBin fAdd (rVar 3) (rOf (eC (.int 1))))) (rOf (eBin fMul (rOf (eC (.int 31))) (rVar 1))))) (rOf (eC (.int 2147483647)))))
  (sSeq (sFor (gV 7) (iRa1 (arCons (rOf (eCb fLen (arCons (rVar 2) aNil))) aNil)) (sSeq (sAsg 6 (eBin fMod (rOf (eBin fAdd (rOf (eBin fAdd (rOf (eBin fMul (rVar 6) (rOf (eC (.int 48271))))) (rOf (eC (.int 11))))) (rVar 7))) (rOf (eC (.int 2147483647)))))
  (sSeq (sAsg 6 (eBin fMod (rOf (eBin fAdd (rOf (eBin fMul (rVar 6) (rOf (eC (.int 69621))))) (rOf (eC (.int 3))))) (rOf (eC (.int 2147483647)))))
  (sApp 4 (eBin fMod (rOf (eBin fDiv (rVar 6) (rOf (eC (.int 7))))) (rOf (eBin fIx (rVar 2) (rVar 7))))))) [7])
  (sRetV 4)))))))
noncomputable def g__law_draw : List D → R Cell := runP 8 3 m__law_draw
theorem okF__law_draw {g : G} (B : Bt g.mg) (C : Ct g.mg) (c__law_cell : Cal g "_law_cell" 2 1 g__law_cell) {f : Addr} {fd : FuncData} (F : FnP g.K "_law_draw" s__law_draw f fd) : FnOk g.P g.w g.K g.mg g.base CX0 2 f fd ["script", "k", "sizes"] (spD g 3 g__law_draw) := by
  refine fn_ok (N := N__law_draw) (m := m__law_draw) (k := 1) F sc__law_draw (by decide) fun cdv A outer s H E hr => ?_
  exact (xss_cons (xs_asg (i := 3) sc__law_draw.nd rfl (.inl rfl) (xe_callC c__law_cell hr (by omega) rfl (xa_cons (xe_var 0 rfl (.inl rfl)) (xa_cons (xe_var 1 rfl (.inl rfl)) xa_nil))))
  (xss_cons (xs_if (xt_cmp op_ltM nox_lt (xr_var 3 rfl (.inl rfl)) (xr_of xe_int) (nomark _)) (xss_one (xs_asg (i := 3) sc__law_draw.nd rfl (.inl rfl) (xe_un un_negM nox_neg (xr_var 3 rfl (.inl rfl))))) xss_nil)
  (xss_cons (xs_asg (i := 4) sc__law_draw.nd rfl (.inl rfl) (xe_lst xa_nil))
  (xss_cons (xs_if (xt_cmp op_geM nox_ge (xr_var 3 rfl (.inl rfl)) (xr_of (xe_bin op_powM nox_pow (xr_of xe_int) (xr_of xe_int))) (nomark _)) (xss_cons (xs_asg (i := 3) sc__law_draw.nd rfl (.inl rfl) (xe_bin op_subM nox_sub (xr_var 3 rfl (.inl rfl)) (xr_of (xe_bin op_powM nox_pow (xr_of xe_int) (xr_of xe_int)))))
  (xss_cons (xs_for [5] PassesOwn.never rfl (xi_e (xe_var 2 rfl (.inl rfl))) (xg_name (i := 5) sc__law_draw.nd rfl (.inl rfl)) (xss_cons (xs_app (i := 4) rfl (.inl rfl) (xe_bin op_modM nox_mod (xr_var 3 rfl (.inl rfl)) (xr_var 5 rfl (.inl rfl))))
  (xss_one (xs_asg (i := 3) sc__law_draw.nd rfl (.inl rfl) (xe_bin op_divM nox_div (xr_var 3 rfl (.inl rfl)) (xr_var 5 rfl (.inl rfl)))))))
  (xss_one (xs_retV 4 rfl (.inl rfl))))) xss_nil)
  (xss_cons (xs_asg (i := 6) sc__law_draw.nd rfl (.inl rfl) (xe_bin op_modM nox_mod (xr_of (xe_bin op_addM nox_add (xr_of (xe_bin op_addM nox_add (xr_var 3 rfl (.inl rfl)) (xr_of xe_int))) (xr_of (xe_bin op_mulM nox_mul (xr_of xe_int) (xr_var 1 rfl (.inl rfl)))))) (xr_of xe_int)))
  (xss_cons (xs_for [7] PassesOwn.never rfl (xi_range1 rfl B.b_range (xar_cons (xr_of (xe_cb call_lenM nox_len rfl B.b_len PySem.boot_len (xar_cons (xr_var 2 rfl (.inl rfl)) xar_nil))) xar_nil)) (xg_name (i := 7) sc__law_draw.nd rfl (.inl rfl)) (xss_cons (xs_asg (i := 6) sc__law_draw.nd rfl (.inl rfl) (xe_bin op_modM nox_mod (xr_of (xe_bin op_addM nox_add (xr_of (xe_bin op_addM nox_add (xr_of (xe_bin op_mulM nox_mul (xr_var 6 rfl (.inl rfl)) (xr_of xe_int))) (xr_of xe_int))) (xr_var 7 rfl (.inl rfl)))) (xr_of xe_int)))
  (xss_cons (xs_asg (i := 6) sc__law_draw.nd rfl (.inl rfl) (xe_bin op_modM nox_mod (xr_of (xe_bin op_addM nox_add (xr_of (xe_bin op_mulM nox_mul (xr_var 6 rfl (.inl rfl)) (xr_of xe_int))) (xr_of xe_int))) (xr_of xe_int)))
  (xss_one (xs_app (i := 4) rfl (.inl rfl) (xe_bin op_modM nox_mod (xr_of (xe_bin op_divM nox_div (xr_var 6 rfl (.inl rfl)) (xr_of xe_int))) (xr_of (xe_ix (xr_var 2 rfl (.inl rfl)) (xr_var 7 rfl (.inl rfl)) (fun _ _ => rfl)))))))))
  (xss_one (xs_retV 4 rfl (.inl rfl)))))))))
theorem ok__law_draw {g : G} (B : Bt g.mg) (C : Ct g.mg) (c__law_cell : Cal g "_law_cell" 2 1 g__law_cell) {f : Addr} {fd : FuncData} (F : FnP g.K "_law_draw" s__law_draw f fd) (hm : g.mg "_law_draw" = some (.ref f)) (hb : Binds g.K fd ["script", "k", "sizes"] []) : Cal g "_law_draw" 3 2 g__law_draw :=
  ⟨⟨f, fd, ["script", "k", "sizes"], okF__law_draw B C c__law_cell F, hm, F.kp, hb⟩, pure_runP _ _ _⟩
/-! ### _law_alike -/
abbrev s__law_alike : Stmt := topS 10
abbrev N__law_alike : List Str := ["actual", "expected", "k"]
theorem sc__law_alike : FnScope N__law_alike ["actual", "expected"] (defScope s__law_alike) := ⟨rfl, rfl, rfl, by decide +kernel, rfl, by decide +kernel, by decide +kernel⟩
noncomputable def m__law_alike (self : List D → R Cell) : Lw.Env → R Out :=
  (sSeq (sIf (bOf (rOf (eBin fIsN (rVar 1) (rOf (eC .none))))) (sRet (eBin fIsN (rVar 0) (rOf (eC .none)))) sNil)
  (sSeq (sIf (bOf (rOf (eIsi "bool" (rVar 1)))) (sRet (eAnd (rOf (eIsi "bool" (rVar 0))) (eBin fEqq (rVar 0) (rVar 1)))) sNil)
  (sSeq (sIf (bOf (rOf (eIsi "int" (rVar 1)))) (sRet (eAnd (rOf (eIsi "int" (rVar 0))) (eAnd (rOf (eNot (rOf (eIsi "bool" (rVar 0))))) (eBin fEqq (rVar 0) (rVar 1))))) sNil)
  (sSeq (sIf (bOf (rOf (eIsi "str" (rVar 1)))) (sRet (eAnd (rOf (eIsi "str" (rVar 0))) (eBin fEqq (rVar 0) (rVar 1)))) sNil)
  (sSeq (sIf (bAnd (bOf (rOf (eIsi "tuple" (rVar 1)))) (bNot (bOf (rOf (eIsi "tuple" (rVar 0)))))) (sRet (eC (.bool false))) sNil)
  (sSeq (sIf (bAnd (bOf (rOf (eIsi "list" (rVar 1)))) (bNot (bOf (rOf (eIsi "list" (rVar 0)))))) (sRet (eC (.bool false))) sNil)
  (sSeq (sIf (bOf (rOf (eBin fNeq (rOf (eCb fLen (arCons (rVar 0) aNil))) (rOf (eCb fLen (arCons (rVar 1) aNil)))))) (sRet (eC (.bool false))) sNil)
  (sSeq (sFor (gV 2) (iRa1 (arCons (rOf (eCb fLen (arCons (rVar 1) aNil))) aNil)) (sIf (bNot (bOf (rOf (eCall self (aCons (eBin fIx (rVar 0) (rVar 2)) (aCons (eBin fIx (rVar 1) (rVar 2)) aNil)))))) (sRet (eC (.bool false))) sNil) [2])
  (sRet (eC (.bool true)))))))))))
noncomputable def g__law_alike : Nat → List D → R Cell
  | 0 => fun _ => .bad
  | j + 1 => runP 3 2 (m__law_alike (g__law_alike j))
abbrev n__law_alike : Nat := 8
theorem ok__law_alike {g : G} (B : Bt g.mg) (C : Ct g.mg)  {f : Addr} {fd : FuncData} (F : FnP g.K "_law_alike" s__law_alike f fd) (hm : g.mg "_law_alike" = some (.ref f)) (hb : Binds g.K fd ["actual", "expected"] []) : ∀ j, Cal g "_law_alike" 2 (0 + j) (g__law_alike j)
  | 0 => ⟨⟨f, fd, ["actual", "expected"], fn_bad, hm, F.kp, hb⟩, pure_bad _⟩
  | j + 1 => by
    have c__law_alike := ok__law_alike B C  F hm hb j
    refine ⟨⟨f, fd, ["actual", "expected"], fn_ok (N := N__law_alike) (m := m__law_alike (g__law_alike j)) F sc__law_alike (by decide) fun cdv A outer s H E hr => ?_, hm, F.kp, hb⟩, pure_runP _ _ _⟩
    exact (xss_cons (xs_if (xt_cmp op_isNM nox_isN (xr_var 1 rfl (.inl rfl)) (xr_of xe_non) (nomark _)) (xss_one (xs_ret (xe_cmp op_isNM nox_isN (xr_var 0 rfl (.inl rfl)) (xr_of xe_non) (nomark _)))) xss_nil)
  (xss_cons (xs_if (xt_val (xr_of (xe_isi (T := "bool") (by decide) (xr_var 1 rfl (.inl rfl)) rfl B.b_isinstance rfl B.b_bool (by decide +kernel))) (by intro _; rfl)) (xss_one (xs_ret (xe_and (xr_of (xe_isi (T := "bool") (by decide) (xr_var 0 rfl (.inl rfl)) rfl B.b_isinstance rfl B.b_bool (by decide +kernel))) (xe_one (xe_cmp (op_eqM hr.units) nox_eqq (xr_var 0 rfl (.inl rfl)) (xr_var 1 rfl (.inl rfl)) (nomark _)))))) xss_nil)
  (xss_cons (xs_if (xt_val (xr_of (xe_isi (T := "int") (by decide) (xr_var 1 rfl (.inl rfl)) rfl B.b_isinstance rfl B.b_int (by decide +kernel))) (by intro _; rfl)) (xss_one (xs_ret (xe_and (xr_of (xe_isi (T := "int") (by decide) (xr_var 0 rfl (.inl rfl)) rfl B.b_isinstance rfl B.b_int (by decide +kernel))) (xe_and (xr_of (xe_not (xr_of (xe_isi (T := "bool") (by decide) (xr_var 0 rfl (.inl rfl)) rfl B.b_isinstance rfl B.b_bool (by decide +kernel))))) (xe_one (xe_cmp (op_eqM hr.units) nox_eqq (xr_var 0 rfl (.inl rfl)) (xr_var 1 rfl (.inl rfl)) (nomark _))))))) xss_nil)
  (xss_cons (xs_if (xt_val (xr_of (xe_isi (T := "str") (by decide) (xr_var 1 rfl (.inl rfl)) rfl B.b_isinstance rfl B.b_str (by decide +kernel))) (by intro _; rfl)) (xss_one (xs_ret (xe_and (xr_of (xe_isi (T := "str") (by decide) (xr_var 0 rfl (.inl rfl)) rfl B.b_isinstance rfl B.b_str (by decide +kernel))) (xe_one (xe_cmp (op_eqM hr.units) nox_eqq (xr_var 0 rfl (.inl rfl)) (xr_var 1 rfl (.inl rfl)) (nomark _)))))) xss_nil)
  (xss_cons (xs_if (XW.xt (xw_and (xt_val (xr_of (xe_isi (T := "tuple") (by decide) (xr_var 1 rfl (.inl rfl)) rfl B.b_isinstance rfl B.b_tuple (by decide +kernel))) (by intro _; rfl)) (xw_and1 (xt_not (xt_val (xr_of (xe_isi (T := "tuple") (by decide) (xr_var 0 rfl (.inl rfl)) rfl B.b_isinstance rfl B.b_tuple (by decide +kernel))) (by intro _; rfl)))))) (xss_one (xs_ret xe_bl)) xss_nil)
  (xss_cons (xs_if (XW.xt (xw_and (xt_val (xr_of (xe_isi (T := "list") (by decide) (xr_var 1 rfl (.inl rfl)) rfl B.b_isinstance rfl B.b_list (by decide +kernel))) (by intro _; rfl)) (xw_and1 (xt_not (xt_val (xr_of (xe_isi (T := "list") (by decide) (xr_var 0 rfl (.inl rfl)) rfl B.b_isinstance rfl B.b_list (by decide +kernel))) (by intro _; rfl)))))) (xss_one (xs_ret xe_bl)) xss_nil)
  (xss_cons (xs_if (xt_cmp (op_neM hr.units) nox_neq (xr_of (xe_cb call_lenM nox_len rfl B.b_len PySem.boot_len (xar_cons (xr_var 0 rfl (.inl rfl)) xar_nil))) (xr_of (xe_cb call_lenM nox_len rfl B.b_len PySem.boot_len (xar_cons (xr_var 1 rfl (.inl rfl)) xar_nil))) (nomark _)) (xss_one (xs_ret xe_bl)) xss_nil)
  (xss_cons (xs_for [2] PassesOwn.never rfl (xi_range1 rfl B.b_range (xar_cons (xr_of (xe_cb call_lenM nox_len rfl B.b_len PySem.boot_len (xar_cons (xr_var 1 rfl (.inl rfl)) xar_nil))) xar_nil)) (xg_name (i := 2) sc__law_alike.nd rfl (.inl rfl)) (xss_one (xs_if (xt_not (xt_val (xr_of (xe_callC c__law_alike hr (Nat.le_refl _) rfl (xa_cons (xe_ix (xr_var 0 rfl (.inl rfl)) (xr_var 2 rfl (.inl rfl)) (fun _ _ => rfl)) (xa_cons (xe_ix (xr_var 1 rfl (.inl rfl)) (xr_var 2 rfl (.inl rfl)) (fun _ _ => rfl)) xa_nil)))) (by intro _; rfl))) (xss_one (xs_ret xe_bl)) xss_nil)))
  (xss_one (xs_ret xe_bl))))))))))
/-! ### _law_digits -/
abbrev s__law_digits : Stmt := topS 11
abbrev N__law_digits : List Str := ["text", "sign"]
theorem sc__law_digits : FnScope N__law_digits ["text"] (defScope s__law_digits) := ⟨rfl, rfl, rfl, by decide +kernel, rfl, by decide +kernel, by decide +kernel⟩
noncomputable def m__law_digits : Lw.Env → R Out :=
  (sSeq (sIf (bOr (bOf (rOf (eBin fLt (rOf (eCb fLen (arCons (rVar 0) aNil))) (rOf (eC (.int 1)))))) (bOf (rOf (eBin fGt (rOf (eCb fLen (arCons (rVar 0) aNil))) (rOf (eC (.int 20))))))) (sRet (eC (.bool false))) sNil)
  (sRet (eBin fEqq (rOf (eCb fLen (arCons (rOf (eLc [1] (iR (rVar 0)) (gV 1) (bOf (rOf (eBin fNin (rVar 1) (rOf (eC (.str (Str.ofString "0123456789"))))))) (eVar 1))) aNil))) (rOf (eC (.int 0))))))
noncomputable def g__law_digits : List D → R Cell := runP 2 1 m__law_digits
theorem okF__law_digits {g : G} (B : Bt g.mg) (C : Ct g.mg)  {f : Addr} {fd : FuncData} (F : FnP g.K "_law_digits" s__law_digits f fd) : FnOk g.P g.w g.K g.mg g.base CX0 1 f fd ["text"] (spD g 1 g__law_digits) := by
  refine fn_ok (N := N__law_digits) (m := m__law_digits) (k := 0) F sc__law_digits (by decide) fun cdv A outer s H E hr => ?_
  exact (xss_cons (xs_if (XW.xt (xw_or (xt_cmp op_ltM nox_lt (xr_of (xe_cb call_lenM nox_len rfl B.b_len PySem.boot_len (xar_cons (xr_var 0 rfl (.inl rfl)) xar_nil))) (xr_of xe_int) (nomark _)) (xw_or1 (xt_cmp op_gtM nox_gt (xr_of (xe_cb call_lenM nox_len rfl B.b_len PySem.boot_len (xar_cons (xr_var 0 rfl (.inl rfl)) xar_nil))) (xr_of xe_int) (nomark _))))) (xss_one (xs_ret xe_bl)) xss_nil)
  (xss_one (xs_ret (xe_cmp (op_eqM hr.units) nox_eqq (xr_of (xe_cb call_lenM nox_len rfl B.b_len PySem.boot_len (xar_cons (xr_of (xe_lc (own := [("sign", 1)]) rfl sc__law_digits.nd (xic_r (xr_var 0 rfl (.inl rfl))) (blkOk_by (N := N__law_digits) (sc := defScope s__law_digits) (by decide +kernel)) (fun _ _ _ _ _ => (xgc_name (i := 1) (by decide) sc__law_digits.nd rfl (.inl rfl))) (fun _ _ _ _ _ => (xts_one (xt_cmp (op_ninM (u65 hr)) nox_nin (xr_var 1 rfl (.inl rfl)) (xr_of xe_str) rfl))) (fun _ _ _ _ _ => (xe_var 1 rfl (.inl rfl))))) xar_nil))) (xr_of xe_int) (nomark _)))))
theorem ok__law_digits {g : G} (B : Bt g.mg) (C : Ct g.mg)  {f : Addr} {fd : FuncData} (F : FnP g.K "_law_digits" s__law_digits f fd) (hm : g.mg "_law_digits" = some (.ref f)) (hb : Binds g.K fd ["text"] []) : Cal g "_law_digits" 1 1 g__law_digits :=
  ⟨⟨f, fd, ["text"], okF__law_digits B C  F, hm, F.kp, hb⟩, pure_runP _ _ _⟩
/-! ### _law_due -/
abbrev s__law_due : Stmt := topS 12
abbrev N__law_due : List Str := ["text", "sign", "rest", "parts", "bottom", "part"]
theorem sc__law_due : FnScope N__law_due ["text"] (defScope s__law_due) := ⟨rfl, rfl, rfl, by decide +kernel, rfl, by decide +kernel, by decide +kernel⟩
noncomputable def m__law_due : Lw.Env → R Out :=
  (sSeq (sAsg 1 (eC (.int 1)))
  (sSeq (sAsg 2 (eVar 0))
  (sSeq (sIf (bOf (rOf (eBin fEqq (rOf (eSl (rVar 0) oNone (oSome (rOf (eC (.int 1)))))) (rOf (eC (.str (Str.ofString "-"))))))) (sSeq (sAsg 1 (eBin fSub (rOf (eC (.int 0))) (rOf (eC (.int 1)))))
  (sAsg 2 (eSl (rVar 0) (oSome (rOf (eC (.int 1)))) oNone))) sNil)
  (sSeq (sAsg 3 (eM1 fSplit (rVar 2) (rOf (eC (.str (Str.ofString "/"))))))
  (sSeq (sIf (bOr (bOf (rOf (eBin fGt (rOf (eCb fLen (arCons (rVar 3) aNil))) (rOf (eC (.int 2)))))) (bOf (rOf (eBin fGt (rOf (eCb fLen (arCons (rOf (eLc [5] (iR (rVar 3)) (gV 5) (bNot (bOf (rOf (eCall g__law_digits (aCons (eVar 5) aNil))))) (eVar 5))) aNil))) (rOf (eC (.int 0))))))) (sRet (eC .none)) sNil)
  (sSeq (sAsg 4 (eC (.int 1)))
  (sSeq (sIf (bOf (rOf (eBin fEqq (rOf (eCb fLen (arCons (rVar 3) aNil))) (rOf (eC (.int 2)))))) (sAsg 4 (eCb fInt (arCons (rOf (eBin fIx (rVar 3) (rOf (eC (.int 1))))) aNil))) sNil)
  (sSeq (sIf (bOf (rOf (eBin fEqq (rVar 4) (rOf (eC (.int 0)))))) (sRet (eC .none)) sNil)
  (sRet (eCall g__law_low (aCons (eBin fMul (rVar 1) (rOf (eCb fInt (arCons (rOf (eBin fIx (rVar 3) (rOf (eC (.int 0))))) aNil)))) (aCons (eVar 4) aNil))))))))))))
noncomputable def g__law_due : List D → R Cell := runP 6 1 m__law_due
theorem okF__law_due {g : G} (B : Bt g.mg) (C : Ct g.mg) (c__law_low : Cal g "_law_low" 2 1 g__law_low) (c__law_digits : Cal g "_law_digits" 1 1 g__law_digits) {f : Addr} {fd : FuncData} (F : FnP g.K "_law_due" s__law_due f fd) : FnOk g.P g.w g.K g.mg g.base CX0 2 f fd ["text"] (spD g 1 g__law_due) := by
  refine fn_ok (N := N__law_due) (m := m__law_due) (k := 1) F sc__law_due (by decide) fun cdv A outer s H E hr => ?_
  exact (xss_cons (xs_asg (i := 1) sc__law_due.nd rfl (.inl rfl) xe_int)
  (xss_cons (xs_asg (i := 2) sc__law_due.nd rfl (.inl rfl) (xe_var 0 rfl (.inl rfl)))
  (xss_cons (xs_if (xt_cmp (op_eqM hr.units) nox_eqq (xr_of (xe_sl (xr_var 0 rfl (.inl rfl)) xo_none (xo_some (xr_of xe_int)))) (xr_of xe_str) (nomark _)) (xss_cons (xs_asg (i := 1) sc__law_due.nd rfl (.inl rfl) (xe_bin op_subM nox_sub (xr_of xe_int) (xr_of xe_int)))
  (xss_one (xs_asg (i := 2) sc__law_due.nd rfl (.inl rfl) (xe_sl (xr_var 0 rfl (.inl rfl)) (xo_some (xr_of xe_int)) xo_none)))) xss_nil)
  (xss_cons (xs_asg (i := 3) sc__law_due.nd rfl (.inl rfl) (xe_split (xr_var 2 rfl (.inl rfl)) (xr_of xe_str)))
  (xss_cons (xs_if (XW.xt (xw_or (xt_cmp op_gtM nox_gt (xr_of (xe_cb call_lenM nox_len rfl B.b_len PySem.boot_len (xar_cons (xr_var 3 rfl (.inl rfl)) xar_nil))) (xr_of xe_int) (nomark _)) (xw_or1 (xt_cmp op_gtM nox_gt (xr_of (xe_cb call_lenM nox_len rfl B.b_len PySem.boot_len (xar_cons (xr_of (xe_lc (own := [("part", 5)]) rfl sc__law_due.nd (xic_r (xr_var 3 rfl (.inl rfl))) (blkOk_by (N := N__law_due) (sc := defScope s__law_due) (by decide +kernel)) (fun _ _ _ _ _ => (xgc_name (i := 5) (by decide) sc__law_due.nd rfl (.inl rfl))) (fun _ _ _ _ _ => (xts_one (xt_not (xt_val (xr_of (xe_callC c__law_digits hr (by omega) rfl (xa_cons (xe_var 5 rfl (.inl rfl)) xa_nil))) (by intro _; rfl))))) (fun _ _ _ _ _ => (xe_var 5 rfl (.inl rfl))))) xar_nil))) (xr_of xe_int) (nomark _))))) (xss_one (xs_ret xe_non)) xss_nil)
  (xss_cons (xs_asg (i := 4) sc__law_due.nd rfl (.inl rfl) xe_int)
  (xss_cons (xs_if (xt_cmp (op_eqM hr.units) nox_eqq (xr_of (xe_cb call_lenM nox_len rfl B.b_len PySem.boot_len (xar_cons (xr_var 3 rfl (.inl rfl)) xar_nil))) (xr_of xe_int) (nomark _)) (xss_one (xs_asg (i := 4) sc__law_due.nd rfl (.inl rfl) (xe_ct call_intM nox_int rfl B.b_int (by decide +kernel) (xar_cons (xr_of (xe_ix (xr_var 3 rfl (.inl rfl)) (xr_of xe_int) (fun _ _ => rfl))) xar_nil)))) xss_nil)
  (xss_cons (xs_if (xt_cmp (op_eqM hr.units) nox_eqq (xr_var 4 rfl (.inl rfl)) (xr_of xe_int) (nomark _)) (xss_one (xs_ret xe_non)) xss_nil)
  (xss_one (xs_ret (xe_callC c__law_low hr (by omega) rfl (xa_cons (xe_bin op_mulM nox_mul (xr_var 1 rfl (.inl rfl)) (xr_of (xe_ct call_intM nox_int rfl B.b_int (by decide +kernel) (xar_cons (xr_of (xe_ix (xr_var 3 rfl (.inl rfl)) (xr_of xe_int) (fun _ _ => rfl))) xar_nil)))) (xa_cons (xe_var 4 rfl (.inl rfl)) xa_nil)))))))))))))
theorem ok__law_due {g : G} (B : Bt g.mg) (C : Ct g.mg) (c__law_low : Cal g "_law_low" 2 1 g__law_low) (c__law_digits : Cal g "_law_digits" 1 1 g__law_digits) {f : Addr} {fd : FuncData} (F : FnP g.K "_law_due" s__law_due f fd) (hm : g.mg "_law_due" = some (.ref f)) (hb : Binds g.K fd ["text"] []) : Cal g "_law_due" 1 2 g__law_due :=
  ⟨⟨f, fd, ["text"], okF__law_due B C c__law_low c__law_digits F, hm, F.kp, hb⟩, pure_runP _ _ _⟩
/-! ### law -/
abbrev s_law : Stmt := topS 13
abbrev N_law : List Str := ["script", "pieces", "head", "text", "digits", "value", "due", "k"]
theorem sc_law : FnScope N_law ["script"] (defScope s_law) := ⟨rfl, rfl, rfl, by decide +kernel, rfl, by decide +kernel, by decide +kernel⟩
noncomputable def m_law : Lw.Env → R Out :=
  (sSeq (sAsg 1 (eLst (aCons (eC (.str (Str.ofString "-"))) (aCons (eC (.str (Str.ofString "0"))) (aCons (eC (.str (Str.ofString "7"))) (aCons (eC (.str (Str.ofString "12"))) (aCons (eC (.str (Str.ofString "/"))) (aCons (eC (.str (Str.ofString "/"))) (aCons (eC (.str (Str.ofString " "))) (aCons (eC (.str (Str.ofString "+"))) (aCons (eC (.str (Str.ofString "x"))) (aCons (eC (.str (Str.ofString "000"))) (aCons (eC (.str (Str.ofString "12345678901234567890"))) (aCons (eC (.str (Str.ofString "123456789012345678901"))) (aCons (eC (.str (Str.ofString "4"))) (aCons (eC (.str (Str.ofString "\n"))) (aCons (eC (.str (Str.ofString "_"))) (aCons (eC (.str (Str.ofString "\t"))) aNil))))))))))))))))))
  (sSeq (sAsg 2 (eCall g__law_draw (aCons (eVar 0) (aCons (eC (.int 0)) (aCons (eLst (aCons (eC (.int 7)) (aCons (eC (.int 16)) (aCons (eC (.int 16)) (aCons (eC (.int 16)) (aCons (eC (.int 16)) (aCons (eC (.int 16)) (aCons (eC (.int 16)) (aCons (eC (.int 3)) aNil))))))))) aNil)))))
  (sSeq (sAsg 3 (eM1 fJoin (rOf (eC (.str (Str.ofString "")))) (rOf (eLc [7] (iRa1 (arCons (rOf (eBin fIx (rVar 2) (rOf (eC (.int 0))))) aNil)) (gV 7) bYes (eBin fIx (rVar 1) (rOf (eBin fIx (rVar 2) (rOf (eBin fAdd (rOf (eC (.int 1))) (rVar 7))))))))))
  (sSeq (sIf (bOf (rOf (eBin fEqq (rOf (eBin fIx (rVar 2) (rOf (eC (.int 7))))) (rOf (eC (.int 1)))))) (sAsg 3 (eBin fAdd (rOf (eBin fAdd (rOf (eBin fAdd (rOf (eBin fAdd (rOf (eBin fIx (rOf (eLst (aCons (eC (.str (Str.ofString ""))) (aCons (eC (.str (Str.ofString "-"))) aNil)))) (rOf (eBin fMod (rOf (eBin fIx (rVar 2) (rOf (eC (.int 1))))) (rOf (eC (.int 2))))))) (rOf (eBin fIx (rVar 1) (rOf (eBin fAdd (rOf (eC (.int 1))) (rOf (eBin fMod (rOf (eBin fIx (rVar 2) (rOf (eC (.int 2))))) (rOf (eC (.int 3))))))))))) (rOf (eC (.str (Str.ofString "/")))))) (rOf (eBin fIx (rVar 1) (rOf (eBin fAdd (rOf (eC (.int 1))) (rOf (eBin fMod (rOf (eBin fIx (rVar 2) (rOf (eC (.int 3))))) (rOf (eC (.int 3))))))))))) (rOf (eBin fIx (rVar 1) (rOf (eBin fAdd (rOf (eC (.int 1))) (rOf (eBin fMod (rOf (eBin fIx (rVar 2) (rOf (eC (.int 4))))) (rOf (eC (.int 3))))))))))) sNil)
  (sSeq (sFz 3 (sIf (bNot (bOf (rOf (eCall (g__law_alike n__law_alike) (aCons (eCall g_parse_ratio (aCons (eVar 3) aNil)) (aCons (eCall g__law_due (aCons (eVar 3) aNil)) aNil)))))) (sRet (eC (.bool false))) sNil))
  (sSeq (sAsg 4 (eCall g__law_draw (aCons (eVar 0) (aCons (eC (.int 1)) (aCons (eLst (aCons (eC (.int 2000001)) (aCons (eC (.int 500)) (aCons (eC (.int 3)) aNil)))) aNil)))))
  (sSeq (sAsg 5 (eCall g__law_low (aCons (eBin fMul (rOf (eBin fSub (rOf (eBin fIx (rVar 4) (rOf (eC (.int 0))))) (rOf (eC (.int 1000000))))) (rOf (eBin fIx (rOf (eLst (aCons (eC (.int 1)) (aCons (eBin fPow (rOf (eC (.int 10))) (rOf (eC (.int 9)))) (aCons (eC (.int 1)) aNil))))) (rOf (eBin fIx (rVar 4) (rOf (eC (.int 2)))))))) (aCons (eBin fAdd (rOf (eC (.int 1))) (rOf (eBin fMul (rOf (eBin fIx (rVar 4) (rOf (eC (.int 1))))) (rOf (eBin fIx (rOf (eLst (aCons (eC (.int 1)) (aCons (eC (.int 1)) (aCons (eC (.int 0)) aNil))))) (rOf (eBin fIx (rVar 4) (rOf (eC (.int 2)))))))))) aNil))))
  (sSeq (sAsg 6 (eCb fStr (arCons (rOf (eBin fIx (rVar 5) (rOf (eC (.int 0))))) aNil)))
  (sSeq (sIf (bOf (rOf (eBin fNeq (rOf (eBin fIx (rVar 5) (rOf (eC (.int 1))))) (rOf (eC (.int 1)))))) (sAsg 6 (eBin fAdd (rOf (eBin fAdd (rVar 6) (rOf (eC (.str (Str.ofString "/")))))) (rOf (eCb fStr (arCons (rOf (eBin fIx (rVar 5) (rOf (eC (.int 1))))) aNil))))) sNil)
  (sFz 5 (sFz 6 (sRet (eAnd (rOf (eCall (g__law_alike n__law_alike) (aCons (eCall g_print_ratio (aCons (eVar 5) aNil)) (aCons (eVar 6) aNil)))) (eCall (g__law_alike n__law_alike) (aCons (eCall g_parse_ratio (aCons (eVar 6) aNil)) (aCons (eVar 5) aNil))))))))))))))))
noncomputable def g_law : List D → R Cell := runP 8 1 m_law
theorem okF_law {g : G} (B : Bt g.mg) (C : Ct g.mg) (c__law_draw : Cal g "_law_draw" 3 2 g__law_draw) (c__law_low : Cal g "_law_low" 2 1 g__law_low) (c__law_alike : Cal g "_law_alike" 2 8 (g__law_alike n__law_alike)) (c_parse_ratio : Cal g "parse_ratio" 1 3 g_parse_ratio) (c__law_due : Cal g "_law_due" 1 2 g__law_due) (c_print_ratio : Cal g "print_ratio" 1 1 g_print_ratio) {f : Addr} {fd : FuncData} (F : FnP g.K "law" s_law f fd) : FnOk g.P g.w g.K g.mg g.base CX0 9 f fd ["script"] (spD g 1 g_law) := by
  refine fn_ok (N := N_law) (m := m_law) (k := 8) F sc_law (by decide) fun cdv A outer s H E hr => ?_
  exact (xss_cons (xs_asg (i := 1) sc_law.nd rfl (.inr rfl) (xe_lst (xa_cons xe_str (xa_cons xe_str (xa_cons xe_str (xa_cons xe_str (xa_cons xe_str (xa_cons xe_str (xa_cons xe_str (xa_cons xe_str (xa_cons xe_str (xa_cons xe_str (xa_cons xe_str (xa_cons xe_str (xa_cons xe_str (xa_cons xe_str (xa_cons xe_str (xa_cons xe_str xa_nil))))))))))))))))))
  (xss_cons (xs_asg (i := 2) sc_law.nd rfl (.inr rfl) (xe_callC c__law_draw hr (by omega) rfl (xa_cons (xe_var 0 rfl (.inl rfl)) (xa_cons xe_int (xa_cons (xe_lst (xa_cons xe_int (xa_cons xe_int (xa_cons xe_int (xa_cons xe_int (xa_cons xe_int (xa_cons xe_int (xa_cons xe_int (xa_cons xe_int xa_nil))))))))) xa_nil)))))
  (xss_cons (xs_asg (i := 3) sc_law.nd rfl (.inl rfl) (xe_join (xr_of xe_str) (xr_of (xe_lc (own := [("k", 7)]) rfl sc_law.nd (XI.c (xi_range1 rfl B.b_range (xar_cons (xr_of (xe_ix (xr_var 2 rfl (.inr (.inl rfl))) (xr_of xe_int) (fun _ _ => rfl))) xar_nil))) (blkOk_by (N := N_law) (sc := defScope s_law) (by decide +kernel)) (fun _ _ _ _ _ => (xgc_name (i := 7) (by decide) sc_law.nd rfl (.inl rfl))) (fun _ _ _ _ _ => xts_nil) (fun _ _ _ _ _ => (xe_ix (xr_var 1 rfl (by first | exact Or.inr (Or.inr rfl) | exact Or.inr (Or.inl rfl) | exact Or.inl rfl)) (xr_of (xe_ix (xr_var 2 rfl (by first | exact Or.inr (Or.inr rfl) | exact Or.inr (Or.inl rfl) | exact Or.inl rfl)) (xr_of (xe_bin op_addM nox_add (xr_of xe_int) (xr_var 7 rfl (.inl rfl)))) (fun _ _ => rfl))) (fun _ _ => rfl)))))))
  (xss_cons (xs_if (xt_cmp (op_eqM hr.units) nox_eqq (xr_of (xe_ix (xr_var 2 rfl (.inr (.inl rfl))) (xr_of xe_int) (fun _ _ => rfl))) (xr_of xe_int) (nomark _)) (xss_one (xs_asg (i := 3) sc_law.nd rfl (.inl rfl) (xe_bin op_addM nox_add (xr_of (xe_bin op_addM nox_add (xr_of (xe_bin op_addM nox_add (xr_of (xe_bin op_addM nox_add (xr_of (xe_ix (xr_of (xe_lst (xa_cons xe_str (xa_cons xe_str xa_nil)))) (xr_of (xe_bin op_modM nox_mod (xr_of (xe_ix (xr_var 2 rfl (.inr (.inl rfl))) (xr_of xe_int) (fun _ _ => rfl))) (xr_of xe_int))) (fun _ _ => rfl))) (xr_of (xe_ix (xr_var 1 rfl (.inr (.inl rfl))) (xr_of (xe_bin op_addM nox_add (xr_of xe_int) (xr_of (xe_bin op_modM nox_mod (xr_of (xe_ix (xr_var 2 rfl (.inr (.inl rfl))) (xr_of xe_int) (fun _ _ => rfl))) (xr_of xe_int))))) (fun _ _ => rfl))))) (xr_of xe_str))) (xr_of (xe_ix (xr_var 1 rfl (.inr (.inl rfl))) (xr_of (xe_bin op_addM nox_add (xr_of xe_int) (xr_of (xe_bin op_modM nox_mod (xr_of (xe_ix (xr_var 2 rfl (.inr (.inl rfl))) (xr_of xe_int) (fun _ _ => rfl))) (xr_of xe_int))))) (fun _ _ => rfl))))) (xr_of (xe_ix (xr_var 1 rfl (.inr (.inl rfl))) (xr_of (xe_bin op_addM nox_add (xr_of xe_int) (xr_of (xe_bin op_modM nox_mod (xr_of (xe_ix (xr_var 2 rfl (.inr (.inl rfl))) (xr_of xe_int) (fun _ _ => rfl))) (xr_of xe_int))))) (fun _ _ => rfl)))))) xss_nil)
  (xss_cons (xs_fz 3 (xs_if (xt_not (xt_val (xr_of (xe_callC c__law_alike hr (by omega) rfl (xa_cons (xe_callC c_parse_ratio hr (by omega) rfl (xa_cons (xe_var 3 rfl (.inl rfl)) xa_nil)) (xa_cons (xe_callC c__law_due hr (by omega) rfl (xa_cons (xe_var 3 rfl (.inl rfl)) xa_nil)) xa_nil)))) (by intro _; rfl))) (xss_one (xs_ret xe_bl)) xss_nil))
  (xss_cons (xs_asg (i := 4) sc_law.nd rfl (.inl rfl) (xe_callC c__law_draw hr (by omega) rfl (xa_cons (xe_var 0 rfl (.inl rfl)) (xa_cons xe_int (xa_cons (xe_lst (xa_cons xe_int (xa_cons xe_int (xa_cons xe_int xa_nil)))) xa_nil)))))
  (xss_cons (xs_asg (i := 5) sc_law.nd rfl (.inl rfl) (xe_callC c__law_low hr (by omega) rfl (xa_cons (xe_bin op_mulM nox_mul (xr_of (xe_bin op_subM nox_sub (xr_of (xe_ix (xr_var 4 rfl (.inl rfl)) (xr_of xe_int) (fun _ _ => rfl))) (xr_of xe_int))) (xr_of (xe_ix (xr_of (xe_lst (xa_cons xe_int (xa_cons (xe_bin op_powM nox_pow (xr_of xe_int) (xr_of xe_int)) (xa_cons xe_int xa_nil))))) (xr_of (xe_ix (xr_var 4 rfl (.inl rfl)) (xr_of xe_int) (fun _ _ => rfl))) (fun _ _ => rfl)))) (xa_cons (xe_bin op_addM nox_add (xr_of xe_int) (xr_of (xe_bin op_mulM nox_mul (xr_of (xe_ix (xr_var 4 rfl (.inl rfl)) (xr_of xe_int) (fun _ _ => rfl))) (xr_of (xe_ix (xr_of (xe_lst (xa_cons xe_int (xa_cons xe_int (xa_cons xe_int xa_nil))))) (xr_of (xe_ix (xr_var 4 rfl (.inl rfl)) (xr_of xe_int) (fun _ _ => rfl))) (fun _ _ => rfl)))))) xa_nil))))
  (xss_cons (xs_asg (i := 6) sc_law.nd rfl (.inl rfl) (xe_ct call_strM nox_str rfl B.b_str (by decide +kernel) (xar_cons (xr_of (xe_ix (xr_var 5 rfl (.inl rfl)) (xr_of xe_int) (fun _ _ => rfl))) xar_nil)))
  (xss_cons (xs_if (xt_cmp (op_neM hr.units) nox_neq (xr_of (xe_ix (xr_var 5 rfl (.inl rfl)) (xr_of xe_int) (fun _ _ => rfl))) (xr_of xe_int) (nomark _)) (xss_one (xs_asg (i := 6) sc_law.nd rfl (.inl rfl) (xe_bin op_addM nox_add (xr_of (xe_bin op_addM nox_add (xr_var 6 rfl (.inl rfl)) (xr_of xe_str))) (xr_of (xe_ct call_strM nox_str rfl B.b_str (by decide +kernel) (xar_cons (xr_of (xe_ix (xr_var 5 rfl (.inl rfl)) (xr_of xe_int) (fun _ _ => rfl))) xar_nil)))))) xss_nil)
  (xss_one (xs_fz 5 (xs_fz 6 (xs_ret (xe_and (xr_of (xe_callC c__law_alike hr (by omega) rfl (xa_cons (xe_callC c_print_ratio hr (by omega) rfl (xa_cons (xe_var 5 rfl (.inl rfl)) xa_nil)) (xa_cons (xe_var 6 rfl (.inl rfl)) xa_nil)))) (xe_one (xe_callC c__law_alike hr (by omega) rfl (xa_cons (xe_callC c_parse_ratio hr (by omega) rfl (xa_cons (xe_var 6 rfl (.inl rfl)) xa_nil)) (xa_cons (xe_var 5 rfl (.inl rfl)) xa_nil))))))))))))))))))
theorem ok_law {g : G} (B : Bt g.mg) (C : Ct g.mg) (c__law_draw : Cal g "_law_draw" 3 2 g__law_draw) (c__law_low : Cal g "_law_low" 2 1 g__law_low) (c__law_alike : Cal g "_law_alike" 2 8 (g__law_alike n__law_alike)) (c_parse_ratio : Cal g "parse_ratio" 1 3 g_parse_ratio) (c__law_due : Cal g "_law_due" 1 2 g__law_due) (c_print_ratio : Cal g "print_ratio" 1 1 g_print_ratio) {f : Addr} {fd : FuncData} (F : FnP g.K "law" s_law f fd) (hm : g.mg "law" = some (.ref f)) (hb : Binds g.K fd ["script"] []) : Cal g "law" 1 9 g_law :=
  ⟨⟨f, fd, ["script"], okF_law B C c__law_draw c__law_low c__law_alike c_parse_ratio c__law_due c_print_ratio F, hm, F.kp, hb⟩, pure_runP _ _ _⟩
end K66


namespace K66
open PySem PySem.Spec PyProof.Rows L2 Evl Lw
theorem cell_val (ns : List Int) (k : Nat) : g__law_cell [scrD ns, .int (k : Int)] = .ok (.val (.int (ns.getD k 0))) := by
  unfold g__law_cell m__law_cell
  by_cases h : k < ns.length
  · have e : atI (ns.map PyData.int) (k : Int) = some (.int ns[k]) := atI_nat (by simp [h])
    simp [h, e]
  · simp [h]
/-! gcd -/
theorem gcd_val (a b : Int) : g_gcd_of [.int a, .int b] = .ok (.val (.int (Int.gcd a b))) := by
  unfold g_gcd_of m_gcd_of
  simp [abs_eq]
  rw [gcdW (fun l r => [.val (.int l), .val (.int r)]) (by intro l r; simp) (by intro l r h; simp [h]) (fun _ _ => rfl)]
  simp
  rfl
theorem ratio_val (a b : Int) (hb : b ≠ 0) (ha : a.natAbs < 2 ^ 200) (hb' : b.natAbs < 2 ^ 200) :
    g_ratio [.int a, .int b] = .ok (.val (.tuple [.int (a * b.sign / Int.gcd a b), .int (b.natAbs / Int.gcd a b)])) := by
  have hg : (0 : Int) < Int.gcd a b := by
    have := Int.gcd_pos_of_ne_zero_right a hb
    omega
  have hd : DivOk (Int.gcd a b) := divOk_of hg (by
    have := Int.gcd_le_natAbs_right a hb
    simp only [Int.natAbs_natCast]
    omega)
  unfold g_ratio m_ratio
  by_cases n : b < 0
  · simp [n, gcd_val, hd, le_line]
    constructor
    · rw [Int.sign_eq_neg_one_of_neg n]; simp
    · congr 1; omega
  · have p : 0 < b := by omega
    simp [n, gcd_val, hd, le_line]
    rw [Int.sign_eq_one_of_pos p]
    constructor
    · simp
    · congr 1; omega
theorem low_val (a b : Int) (hb : 0 < b) (hb' : b.natAbs < 2 ^ 200) :
    g__law_low [.int a, .int b] = .ok (.val (.tuple [.int (a / Int.gcd a b), .int (b / Int.gcd a b)])) := by
  have hg : (0 : Int) < Int.gcd a b := by
    have := Int.gcd_pos_of_ne_zero_right a (b := b) (by omega)
    omega
  have hd : DivOk (Int.gcd a b) := divOk_of hg (by
    have := Int.gcd_le_natAbs_right a (b := b) (by omega)
    simp only [Int.natAbs_natCast]
    omega)
  obtain ⟨n, rfl⟩ : ∃ n : Nat, b = n := ⟨b.toNat, by omega⟩
  unfold g__law_low m__law_low
  simp [abs_eq]
  rw [gcdW (fun l r => [.val (.int a), .val (.int n), .val (.int l), .val (.int r)]) (by intro l r; simp) (by intro l r h; simp [h]) (fun _ _ => rfl)]
  have e : ((Nat.gcd a.natAbs n : Nat) : Int) = (Int.gcd a n : Nat) := rfl
  simp only [e]
  simp [hd, le_line]
def drawS (script : D) (k : Int) (sizes : List Int) (cell : D) (ys : List D) (size mixed j : Cell) : Lw.Env :=
  [.val script, .val (.int k), .val (.list (sizes.map .int)), .val cell, .own (.list ys), size, mixed, j]
theorem drawA (b : Lw.Env → R Out) (script : D) (k : Int) (sizes : List Int)
    (hb : ∀ (c s : Int) (ys : List D), 0 < s → s < 2 ^ 200 → ys.length < 100 → ∃ e c', b (drawS script k sizes (.int c) ys (.val (.int s)) .non .non) = .ok (.nx e) ∧ kill [5] e = drawS script k sizes (.int c') (ys ++ [.int (c % s)]) .non .non .non) :
    ∀ (ss : List Int) (c : Int) (ys : List D), (∀ s ∈ ss, 0 < s ∧ s < 2 ^ 200) → ys.length + ss.length ≤ 100 →
      ∃ xs c', forR (gV 5) b [5] (ss.map .int) (drawS script k sizes (.int c) ys .non .non .non) = .ok (.nx (drawS script k sizes (.int c') (ys ++ xs.map .int) .non .non .non)) ∧ Fit xs ss
  | [], c, ys, _, _ => ⟨[], c, by simp, trivial⟩
  | s :: ss, c, ys, hs, hl => by
    obtain ⟨e, c', h1, h2⟩ := hb c s ys (hs s (by simp)).1 (hs s (by simp)).2 (by simp at hl; omega)
    obtain ⟨xs, c2, h3, h4⟩ := drawA b script k sizes hb ss c' (ys ++ [.int (c % s)]) (fun s' h' => hs s' (by simp [h'])) (by simp at hl ⊢; omega)
    refine ⟨c % s :: xs, c2, ?_, mod_bnd _ (hs s (by simp)).1, h4⟩
    rw [List.map_cons, forR_nx (e1 := drawS script k sizes (.int c) ys (.val (.int s)) .non .non) rfl h1, h2, h3]
    simp
theorem drawB (b : Lw.Env → R Out) (script : D) (k : Int) (sizes : List Int) (cell : D)
    (hb : ∀ (x : Int) (j : Nat) (s : Int) (ys : List D), sizes[j]? = some s → 0 < s → ys.length < 100 → (0 ≤ x ∧ x < 2147483647) → ∃ e x' v, 0 ≤ v ∧ v < s ∧ (0 ≤ x' ∧ x' < 2147483647) ∧ b (drawS script k sizes cell ys .non (.val (.int x)) (.val (.int j))) = .ok (.nx e) ∧ kill [7] e = drawS script k sizes cell (ys ++ [.int v]) .non (.val (.int x')) .non) :
    ∀ (ss : List Int) (j : Nat) (x : Int) (ys : List D), sizes.drop j = ss → (∀ s ∈ ss, 0 < s) → ys.length + ss.length ≤ 100 → (0 ≤ x ∧ x < 2147483647) →
      ∃ xs x', forR (gV 7) b [7] ((List.range' j ss.length).map fun i : Nat => PyData.int (i : Nat)) (drawS script k sizes cell ys .non (.val (.int x)) .non) = .ok (.nx (drawS script k sizes cell (ys ++ xs.map .int) .non (.val (.int x')) .non)) ∧ Fit xs ss
  | [], j, c, ys, _, _, _, _ => ⟨[], c, by simp, trivial⟩
  | s :: ss, j, x, ys, hd, hs, hl, hx => by
    have hj : sizes[j]? = some s := by
      have := congrArg List.head? hd
      rwa [List.head?_drop] at this
    have hd' : sizes.drop (j + 1) = ss := by
      rw [← List.tail_drop, hd]; rfl
    obtain ⟨e, x', v, v1, v2, v3, h1, h2⟩ := hb x j s ys hj (hs s (by simp)) (by simp at hl; omega) hx
    obtain ⟨xs, c2, h3, h4⟩ := drawB b script k sizes cell hb ss (j + 1) x' (ys ++ [.int v]) hd' (fun s' h' => hs s' (by simp [h'])) (by simp at hl ⊢; omega) v3
    refine ⟨v :: xs, c2, ?_, ⟨v1, v2⟩, h4⟩
    rw [List.length_cons, List.range'_succ, List.map_cons, forR_nx (e1 := drawS script k sizes cell ys .non (.val (.int x)) (.val (.int j))) rfl h1, h2, h3]
    simp
theorem draw_val (ns : List Int) (k : Nat) (sizes : List Int) (hk : k ≤ 63) (hs : ∀ s ∈ sizes, 0 < s ∧ s < 2 ^ 200) (hl : sizes.length ≤ 100) :
    ∃ xs, g__law_draw [scrD ns, .int (k : Int), .list (sizes.map .int)] = .ok (.own (.list (xs.map .int))) ∧ Fit xs sizes := by
  unfold g__law_draw m__law_draw
  have P : PowOk 10 18 := by decide
  have M : MulOk 31 (k : Int) := mulOk_of (by decide) (by simp only [Int.natAbs_natCast]; omega)
  have hc0 : ∃ c0 : Int, c0 = (ns.getD k 0).natAbs := ⟨_, rfl⟩
  obtain ⟨c0, hc0⟩ := hc0
  have s1 : sIf (bOf (rOf (eBin fLt (rVar 3) (rOf (eC (.int 0)))))) (sAsg 3 (eUn fNeg (rVar 3))) sNil [.val (scrD ns), .val (.int k), .val (.list (sizes.map .int)), .val (.int (ns.getD k 0)), .non, .non, .non, .non] = .ok (.nx [.val (scrD ns), .val (.int k), .val (.list (sizes.map .int)), .val (.int c0), .non, .non, .non, .non]) := by
    generalize ns.getD k 0 = v at hc0
    subst hc0
    by_cases h : v < 0
    · simp [h]; omega
    · simp [h]; omega
  have s2 : sAsg 4 (eLst aNil) [.val (scrD ns), .val (.int k), .val (.list (sizes.map .int)), .val (.int c0), .non, .non, .non, .non] = .ok (.nx (drawS (scrD ns) k sizes (.int c0) [] .non .non .non)) := by
    simp [drawS, le_line]
  by_cases hc : (1000000000000000000 : Int) ≤ c0
  · obtain ⟨xs, c', h1, h2⟩ := drawA (sSeq (sApp 4 (eBin fMod (rVar 3) (rVar 5))) (sAsg 3 (eBin fDiv (rVar 3) (rVar 5)))) (scrD ns) k sizes (by
      intro c s ys p q hl
      have D1 : DivOk s := divOk_of p (by omega)
      refine ⟨_, c / s, by simp [drawS, p, D1, lt_line' (show ys.length ≤ 1000000 by omega)]; rfl, by simp [drawS]⟩) sizes (c0 - 1000000000000000000) [] hs (by simpa using hl)
    refine ⟨xs, ?_, h2⟩
    refine run_fin rfl ?_
    refine fin_seq [.val (scrD ns), .val (.int k), .val (.list (sizes.map .int)), .val (.int (ns.getD k 0)), .non, .non, .non, .non] (by simp [cell_val]) ?_
    refine fin_seq _ s1 (fin_seq _ s2 (fin_out (drawS (scrD ns) k sizes (.int c') (xs.map .int) .non .non .non) ?_))
    unfold drawS at h1 ⊢
    simp [P, hc]
    simp at h1
    rw [h1]
    simp
  · obtain ⟨x0, hx0⟩ : ∃ x0 : Int, x0 = (c0 + 1 + 31 * k) % 2147483647 := ⟨_, rfl⟩
    have bx0 := mod_bnd (c0 + 1 + 31 * k) (n := 2147483647) (by omega)
    rw [← hx0] at bx0
    obtain ⟨xs, x', h1, h2⟩ := drawB (sSeq (sAsg 6 (eBin fMod (rOf (eBin fAdd (rOf (eBin fAdd (rOf (eBin fMul (rVar 6) (rOf (eC (.int 48271))))) (rOf (eC (.int 11))))) (rVar 7))) (rOf (eC (.int 2147483647)))))
  (sSeq (sAsg 6 (eBin fMod (rOf (eBin fAdd (rOf (eBin fMul (rVar 6) (rOf (eC (.int 69621))))) (rOf (eC (.int 3))))) (rOf (eC (.int 2147483647)))))
  (sApp 4 (eBin fMod (rOf (eBin fDiv (rVar 6) (rOf (eC (.int 7))))) (rOf (eBin fIx (rVar 2) (rVar 7))))))) (scrD ns) k sizes (.int c0) (by
      intro x j s ys hj hp hl hx
      have M1 : MulOk x 48271 := mulOk_of (by omega) (by omega)
      obtain ⟨y, hy⟩ : ∃ y : Int, y = (x * 48271 + 11 + j) % 2147483647 := ⟨_, rfl⟩
      have y1 := mod_bnd (x * 48271 + 11 + j) (n := 2147483647) (by omega)
      rw [← hy] at y1
      have M2 : MulOk y 69621 := mulOk_of (by omega) (by omega)
      have D1 : DivOk 7 := divOk_of (by omega) (by omega)
      have ea : atI (sizes.map PyData.int) (j : Int) = some (.int s) := atI_nat (by simp [hj])
      refine ⟨drawS (scrD ns) k sizes (.int c0) (ys ++ [.int ((y * 69621 + 3) % 2147483647 / 7 % s)]) .non (.val (.int ((y * 69621 + 3) % 2147483647))) (.val (.int j)), (y * 69621 + 3) % 2147483647, (y * 69621 + 3) % 2147483647 / 7 % s, (mod_bnd _ hp).1, (mod_bnd _ hp).2, mod_bnd _ (by omega), ?_, ?_⟩
      · simp only [drawS, v_sSeq, v_sAsg, v_eBin, v_rOf, v_rVarS, v_rVar0, Cell.get, R.ok_bind, v_eC, v_mul_int, M1, M2, D1, if_true, v_add_int, v_mod_int, v_setCS, v_setC0_val, v_div_int, v_sApp, v_ownAtS, v_ownAt0_own, v_eCb, v_ix_l, ea, hp, v_setOS, v_setO0_own, ← hy, lt_line' (show ys.length ≤ 1000000 by omega), if_pos (show (0 : Int) < 2147483647 by omega)]
      · rfl) sizes 0 x0 [] rfl (fun s h => (hs s h).1) (by simpa using hl) bx0
    refine ⟨xs, ?_, h2⟩
    refine run_fin rfl ?_
    refine fin_seq [.val (scrD ns), .val (.int k), .val (.list (sizes.map .int)), .val (.int (ns.getD k 0)), .non, .non, .non, .non] (by simp [cell_val]) ?_
    refine fin_seq _ s1 (fin_seq _ s2 (fin_seq (drawS (scrD ns) k sizes (.int c0) [] .non .non .non) ?_ ?_))
    · unfold drawS
      simp [P, hc]
    · refine fin_seq (drawS (scrD ns) k sizes (.int c0) [] .non (.val (.int x0)) .non) (by simp [drawS, M, hx0]) ?_
      refine fin_seq (drawS (scrD ns) k sizes (.int c0) (xs.map .int) .non (.val (.int x')) .non) ?_ (by simp [drawS])
      have g2 : Rg (sizes.length : Int) := by constructor <;> omega
      have e : iRa1 (arCons (rOf (eCb fLen (arCons (rVar 2) aNil))) aNil) (drawS (scrD ns) k sizes (.int c0) [] .non (.val (.int x0)) .non) = .ok ((List.range' 0 sizes.length).map fun i : Nat => PyData.int (i : Nat)) := by
        simp [drawS, g2, rangeD_0, List.range_eq_range']
      rw [v_sFor, e]
      exact h1
/-! digits -/
def isD (l : List Nat) : Bool := decide (1 ≤ l.length) && (decide (l.length ≤ 20) && l.all isDg)
def digV (l : List Nat) : D := if isD l = true then .int (dgV l : Nat) else .none
theorem dig_loop (b : Lw.Env → R Out) (text : D)
    (hb : ∀ (c n : Nat), n < 10 ^ 20 → b [.val text, .val (.int n), .val (.str (sL [c])), .non] =
      if isDg c = true then .ok (.nx [.val text, .val (.int (n * 10 + (c - 48) : Nat)), .val (.str (sL [c])), .val (.int (c - 48 : Nat))]) else .ok (.ret (.val .none) [.val text, .val (.int n), .val (.str (sL [c])), .val (.int (-1))])) :
    ∀ (l : List Nat) (n k : Nat), n < 10 ^ k → k + l.length ≤ 20 →
      (l.all isDg = true ∧ forR (gV 2) b [2, 3] (l.map fun c => .str (sL [c])) [.val text, .val (.int n), .non, .non] = .ok (.nx [.val text, .val (.int (l.foldl (fun a c => a * 10 + (c - 48)) n : Nat)), .non, .non])) ∨
      (l.all isDg = false ∧ ∃ e, forR (gV 2) b [2, 3] (l.map fun c => .str (sL [c])) [.val text, .val (.int n), .non, .non] = .ok (.ret (.val .none) e))
  | [], n, k, _, _ => .inl ⟨rfl, rfl⟩
  | c :: l, n, k, hn, hk => by
    have hn' : n < 10 ^ 20 := Nat.lt_of_lt_of_le hn (Nat.pow_le_pow_right (by decide) (by rw [List.length_cons] at hk; omega))
    have e := hb c n hn'
    rw [List.map_cons, List.all_cons]
    by_cases h : isDg c = true
    · rw [if_pos h] at e
      have h1 : 48 ≤ c ∧ c ≤ 57 := by simpa [isDg] using h
      rw [forR_nx (e1 := [.val text, .val (.int n), .val (.str (sL [c])), .non]) rfl e, h]
      exact dig_loop b text hb l (n * 10 + (c - 48)) (k + 1) (by rw [Nat.pow_succ]; omega) (by rw [List.length_cons] at hk; omega)
    · rw [if_neg h] at e
      refine .inr ⟨by simp [h], _, forR_ret (e1 := [.val text, .val (.int n), .val (.str (sL [c])), .non]) rfl e⟩
theorem digits_val (l : List Nat) (hl : l.length ≤ 1000) : g_digits_of [.str (sL l)] = .ok (.val (digV l)) := by
  unfold g_digits_of m_digits_of
  refine run_fin rfl ?_
  have sm : l.length ≤ sizeLine := le_line (by omega)
  by_cases h : 1 ≤ l.length ∧ l.length ≤ 20
  · refine fin_seq [.val (.str (sL l)), .non, .non, .non] ?_ ?_
    · have h1 : ¬ ((l.length : Int) < 1) := by omega
      have h2 : ¬ ((20 : Int) < l.length) := by omega
      simp [sm, h1, h2]
    · refine fin_seq [.val (.str (sL l)), .val (.int 0), .non, .non] (by simp) ?_
      rcases dig_loop (sSeq (sAsg 3 (eM1 fFind (rOf (eC (.str (Str.ofString "0123456789")))) (rVar 2)))
  (sSeq (sIf (bOf (rOf (eBin fLt (rVar 3) (rOf (eC (.int 0)))))) (sRet (eC .none)) sNil)
  (sAsg 1 (eBin fAdd (rOf (eBin fMul (rOf (eC (.int 10))) (rVar 1))) (rVar 3))))) (.str (sL l)) (by
        intro c n hn
        have M : MulOk 10 (n : Int) := mulOk_of (by decide) (by
          simp only [Int.natAbs_natCast]
          exact Nat.lt_trans hn (by decide))
        rw [dgs_eq]
        by_cases hc : isDg c = true
        · rw [if_pos hc]
          have h3 : ¬ (((c - 48 : Nat) : Int) < 0) := by omega
          simp [fFind, find_dg, hc, h3, M]
          omega
        · rw [if_neg hc]
          simp [fFind, find_dg, hc]) l 0 0 (by decide) (by omega) with ⟨a, e⟩ | ⟨a, e', e⟩
      · refine fin_seq _ (Eq.trans ?_ e) ?_
        · simp [strD_sL]
        · simp [digV, isD, h.1, h.2, a, dgV]
      · refine fin_out e' (Eq.trans (Eq.trans ?_ e) ?_)
        · simp [strD_sL]
        · simp [digV, isD, a]
  · have h' : isD l = false := by
      unfold isD
      by_cases h1 : 1 ≤ l.length
      · have h2 : ¬ l.length ≤ 20 := fun q => h ⟨h1, q⟩
        simp [h2]
      · simp [h1]
    refine fin_out [.val (.str (sL l)), .non, .non, .non] ?_
    rw [digV, h']
    by_cases h1 : (l.length : Int) < 1
    · simp [sm, h1]
    · have h2 : (20 : Int) < l.length := by omega
      simp [sm, h1, h2]
theorem ldigits_val (l : List Nat) (hl : l.length ≤ 1000) : g__law_digits [.str (sL l)] = .ok (dB (isD l)) := by
  unfold g__law_digits m__law_digits
  refine run_fin rfl ?_
  have sm : l.length ≤ sizeLine := le_line (by omega)
  have sm' : l.length < sizeLine := lt_line' (by omega)
  by_cases h : 1 ≤ l.length ∧ l.length ≤ 20
  · have h1 : ¬ ((l.length : Int) < 1) := by omega
    have h2 : ¬ ((20 : Int) < l.length) := by omega
    refine fin_seq [.val (.str (sL l)), .non] (by simp [sm, h1, h2]) ?_
    have e := compR_filter (f := gV 1) (t := bOf (rOf (eBin fNin (rVar 1) (rOf (eC (.str (Str.ofString "0123456789"))))))) (m := eVar 1) (env := [.val (.str (sL l)), .non]) (ds := l.map fun c => .str (sL [c]))
      (fun d => match d with | .str x => !hasStr x (sL dgs) | _ => false) id (by
        intro d hd
        obtain ⟨c, hc, rfl⟩ := List.mem_map.mp hd
        refine ⟨[.val (.str (sL l)), .val (.str (sL [c]))], rfl, ?_, fun _ => ⟨_, rfl, rfl⟩⟩
        simp [dgs_eq, fNin, Lw.inR, hasStr1])
    have e2 : ((l.map fun c => PyData.str (sL [c])).filter (fun d => match d with | .str x => !hasStr x (sL dgs) | _ => false)).length = (l.filter fun c => !isDg c).length := by
      rw [List.filter_map, List.length_map]
      congr 1
      refine List.filter_congr fun c _ => ?_
      show (!hasStr (sL [c]) (sL dgs)) = !isDg c
      rw [hasStr1]
      congr 1
      rw [Bool.eq_iff_iff, decide_eq_true_iff]
      exact mem_dgs c
    rw [List.map_id] at e
    simp [strD_sL, e, sm', e2]
    unfold isD
    rw [decide_eq_true h.1, decide_eq_true h.2, Bool.true_and, Bool.true_and]
    refine congrArg dB ?_
    rw [Bool.eq_iff_iff, decide_eq_true_iff, List.all_eq_true]
    exact forall_congr' fun a => imp_congr_right fun _ => mem_dgs a
  · have h' : isD l = false := by
      unfold isD
      by_cases h1 : 1 ≤ l.length
      · have h2 : ¬ l.length ≤ 20 := fun q => h ⟨h1, q⟩
        simp [h2]
      · simp [h1]
    refine fin_out [.val (.str (sL l)), .non] ?_
    rw [h']
    by_cases h1 : (l.length : Int) < 1
    · simp [sm, h1]
      rfl
    · have h2 : (20 : Int) < l.length := by omega
      simp [sm, h1, h2]
      rfl
/-! texts of ratios -/
def lowD (a b : Int) : D := .tuple [.int (a / Int.gcd a b), .int (b / Int.gcd a b)]
def Sgn (l : List Nat) (sg : Int) (r : List Nat) : Prop := (l.take 1 = [45] ∧ sg = -1 ∧ r = l.drop 1) ∨ (l.take 1 ≠ [45] ∧ sg = 1 ∧ r = l)
theorem sgn_ex (l : List Nat) : ∃ sg r, Sgn l sg r := by
  by_cases h : l.take 1 = [45]
  · exact ⟨_, _, .inl ⟨h, rfl, rfl⟩⟩
  · exact ⟨_, _, .inr ⟨h, rfl, rfl⟩⟩
theorem Sgn.len {l r : List Nat} {sg : Int} (h : Sgn l sg r) : r.length ≤ l.length := by
  rcases h with ⟨_, _, rfl⟩ | ⟨_, _, rfl⟩
  · rw [List.length_drop]; omega
  · exact Nat.le_refl _
theorem Sgn.one {l r : List Nat} {sg : Int} (h : Sgn l sg r) : sg.natAbs = 1 := by
  rcases h with ⟨_, rfl, _⟩ | ⟨_, rfl, _⟩ <;> rfl
theorem s_minus : Str.ofString "-" = sL [45] := by decide +kernel
theorem s_slash : Str.ofString "/" = sL [47] := by decide +kernel
theorem s_empty : Str.ofString "" = sL [] := by decide +kernel
theorem dg_small {l : List Nat} (h : isD l = true) : dgV l < 10 ^ 20 := by
  simp only [isD, Bool.and_eq_true, decide_eq_true_eq] at h
  exact dgV_lt' h.2.2 h.2.1
theorem isD_no47 {l : List Nat} (h : isD l = true) : 47 ∉ l := fun m => by
  simp only [isD, Bool.and_eq_true, decide_eq_true_eq] at h
  have := List.all_eq_true.mp h.2.2 47 m
  simp [isDg] at this
theorem isD_ne {l : List Nat} (h : isD l = true) : l ≠ [] ∧ l.length ≤ 640 ∧ l.all isDg = true := by
  simp only [isD, Bool.and_eq_true, decide_eq_true_eq] at h
  exact ⟨fun e => by rw [e] at h; simp at h, by omega, h.2.2⟩
theorem sgMul {sg : Int} (h : sg.natAbs = 1) {n : Nat} (hn : n < 10 ^ 20) : MulOk sg n ∧ (sg * n).natAbs < 2 ^ 200 := by
  have b : (10 : Nat) ^ 20 < 2 ^ 200 := by decide
  refine ⟨mulOk_of (by omega) (by simp only [Int.natAbs_natCast]; omega), ?_⟩
  rw [Int.natAbs_mul, h, Int.natAbs_natCast]
  omega
/-- the first two statements of parse_ratio -/
theorem parse_head {l r : List Nat} {sg : Int} (h : Sgn l sg r) (hl : l.length ≤ 1000) :
    sIf (bOf (rOf (eBin fEqq (rOf (eSl (rVar 0) oNone (oSome (rOf (eC (.int 1)))))) (rOf (eC (.str (Str.ofString "-"))))))) (sSeq (sAsg 1 (eUn fNeg (rOf (eC (.int 1)))))
  (sAsg 0 (eSl (rVar 0) (oSome (rOf (eC (.int 1)))) oNone))) sNil [.val (.str (sL l)), .val (.int 1), .non, .non, .non, .non] = .ok (.nx [.val (.str (sL r)), .val (.int sg), .non, .non, .non, .non]) := by
  have e1 := sl_take l 1 (by omega)
  have e2 := sl_drop l 1 (by omega)
  rcases h with ⟨h1, rfl, rfl⟩ | ⟨h1, rfl, rfl⟩
  · rw [Int.natCast_one] at e1 e2
    simp [e1, e2, h1, s_minus]
  · rw [Int.natCast_one] at e1 e2
    simp [e1, e2, h1, s_minus]
theorem parse_no {l r : List Nat} {sg : Int} (h : Sgn l sg r) (hl : l.length ≤ 1000) (hr : 47 ∉ r) :
    g_parse_ratio [.str (sL l)] = .ok (.val (if isD r = true then .tuple [.int (sg * dgV r), .int 1] else .none)) := by
  have hl' := h.len
  unfold g_parse_ratio m_parse_ratio
  refine run_fin rfl (fin_seq [.val (.str (sL l)), .val (.int 1), .non, .non, .non, .non] (by simp) (fin_seq _ (parse_head h hl) ?_))
  refine fin_seq [.val (.str (sL r)), .val (.int sg), .val (.int (-1)), .non, .non, .non] (by simp [s_slash, fFind, find_no hr]) ?_
  have dv := digits_val r (by omega)
  by_cases hd : isD r = true
  · have M := (sgMul h.one (dg_small hd)).1
    refine fin_out [.val (.str (sL r)), .val (.int sg), .val (.int (-1)), .val (.int (dgV r : Nat)), .non, .non] ?_
    simp [dv, digV, hd, M, le_line, isNon]
  · refine fin_out [.val (.str (sL r)), .val (.int sg), .val (.int (-1)), .val .none, .non, .non] ?_
    simp [dv, digV, hd, isNon]
theorem parse_at {l a b : List Nat} {sg : Int} (h : Sgn l sg (a ++ 47 :: b)) (hl : l.length ≤ 1000) (ha : 47 ∉ a) :
    g_parse_ratio [.str (sL l)] = .ok (.val (if isD a = true ∧ isD b = true ∧ dgV b ≠ 0 then lowD (sg * dgV a) (dgV b : Nat) else .none)) := by
  have hl' := h.len
  have hab : a.length + (b.length + 1) ≤ 1000 := by
    rw [List.length_append, List.length_cons] at hl'
    omega
  unfold g_parse_ratio m_parse_ratio
  refine run_fin rfl (fin_seq [.val (.str (sL l)), .val (.int 1), .non, .non, .non, .non] (by simp) (fin_seq _ (parse_head h hl) ?_))
  refine fin_seq [.val (.str (sL (a ++ 47 :: b))), .val (.int sg), .val (.int (a.length : Nat)), .non, .non, .non] (by simp [s_slash, fFind, find_at ha]) ?_
  refine fin_seq [.val (.str (sL (a ++ 47 :: b))), .val (.int sg), .val (.int (a.length : Nat)), .non, .non, .non] (by
    have : ¬ ((a.length : Int) < 0) := by omega
    simp [this]) ?_
  have e1 := sl_take (a ++ 47 :: b) a.length (by simp; omega)
  have e2 := sl_drop (a ++ 47 :: b) (a.length + 1) (by simp; omega)
  rw [List.take_left] at e1
  rw [show (a ++ 47 :: b).drop (a.length + 1) = b by rw [List.drop_append]; simp] at e2
  have dv := digits_val a (by omega)
  have dw := digits_val b (by omega)
  rw [Int.natCast_add, Int.natCast_one] at e2
  refine fin_seq [.val (.str (sL (a ++ 47 :: b))), .val (.int sg), .val (.int (a.length : Nat)), .non, .val (digV a), .non] (by simp [e1, dv]) ?_
  refine fin_seq [.val (.str (sL (a ++ 47 :: b))), .val (.int sg), .val (.int (a.length : Nat)), .non, .val (digV a), .val (digV b)] (by simp [e2, dw]) ?_
  by_cases h1 : isD a = true
  · by_cases h2 : isD b = true
    · have ea : digV a = .int (dgV a : Nat) := by rw [digV, if_pos h1]
      have eb : digV b = .int (dgV b : Nat) := by rw [digV, if_pos h2]
      rw [ea, eb]
      by_cases h3 : dgV b = 0
      · refine fin_out [.val (.str (sL (a ++ 47 :: b))), .val (.int sg), .val (.int (a.length : Nat)), .non, .val (.int (dgV a : Nat)), .val (.int (dgV b : Nat))] ?_
        simp [isNon, h3]
      · rw [if_pos ⟨h1, h2, h3⟩]
        have M := sgMul h.one (dg_small h1)
        have B : dgV b < 2 ^ 200 := Nat.lt_trans (dg_small h2) (by decide)
        refine fin_seq [.val (.str (sL (a ++ 47 :: b))), .val (.int sg), .val (.int (a.length : Nat)), .non, .val (.int (dgV a : Nat)), .val (.int (dgV b : Nat))] (by simp [isNon, h3]) ?_
        have R := ratio_val (sg * dgV a) (dgV b : Nat) (by omega) M.2 (by simpa using B)
        rw [Int.sign_eq_one_of_pos (by omega), Int.mul_one, Int.natAbs_natCast] at R
        simp [M.1, R, lowD]
    · have eb : digV b = .none := by rw [digV, if_neg h2]
      rw [eb, if_neg (fun z => h2 z.2.1)]
      by_cases z : isNon (digV a) = true <;>
        simp [z, isNon]
  · have ea : digV a = .none := by rw [digV, if_neg h1]
    rw [ea, if_neg (fun z => h1 z.1)]
    simp [isNon]
theorem due_head {l r : List Nat} {sg : Int} (h : Sgn l sg r) (hl : l.length ≤ 1000) :
    sIf (bOf (rOf (eBin fEqq (rOf (eSl (rVar 0) oNone (oSome (rOf (eC (.int 1)))))) (rOf (eC (.str (Str.ofString "-"))))))) (sSeq (sAsg 1 (eBin fSub (rOf (eC (.int 0))) (rOf (eC (.int 1)))))
  (sAsg 2 (eSl (rVar 0) (oSome (rOf (eC (.int 1)))) oNone))) sNil [.val (.str (sL l)), .val (.int 1), .val (.str (sL l)), .non, .non, .non] = .ok (.nx [.val (.str (sL l)), .val (.int sg), .val (.str (sL r)), .non, .non, .non]) := by
  have e1 := sl_take l 1 (by omega)
  have e2 := sl_drop l 1 (by omega)
  rcases h with ⟨h1, rfl, rfl⟩ | ⟨h1, rfl, rfl⟩
  · rw [Int.natCast_one] at e1 e2
    simp [e1, e2, h1, s_minus]
  · rw [Int.natCast_one] at e1 e2
    simp [e1, e2, h1, s_minus]
def badD : D → Bool
  | .str x => !isD x.cps.toList
  | _ => false
theorem bad_parts (e0 : Cell) (e1 : Cell) (e2 : Cell) (e3 : Cell) (e4 : Cell) (ls : List (List Nat)) (h : ∀ l ∈ ls, l.length ≤ 1000) :
    compR (gV 5) (bNot (bOf (rOf (eCall g__law_digits (aCons (eVar 5) aNil))))) (eVar 5) (ls.map fun l => .str (sL l)) [e0, e1, e2, e3, e4, .non] = .ok ((ls.map fun l => PyData.str (sL l)).filter badD) := by
  have e := compR_filter (f := gV 5) (t := bNot (bOf (rOf (eCall g__law_digits (aCons (eVar 5) aNil))))) (m := eVar 5) (env := [e0, e1, e2, e3, e4, .non]) (ds := ls.map fun l => .str (sL l)) badD id (by
    intro d hd
    obtain ⟨l, hl, rfl⟩ := List.mem_map.mp hd
    refine ⟨[e0, e1, e2, e3, e4, .val (.str (sL l))], by simp, ?_, fun _ => ⟨_, rfl, rfl⟩⟩
    simp [ldigits_val l (h l hl), badD, tl_sL])
  rwa [List.map_id] at e
theorem split_ok (r : List Nat) (h : r.length ≤ 1000) : SplitOk (sL r) (sL [47]) := by
  refine ⟨rfl, ?_⟩
  rw [sL_len]
  exact le_line (by omega)
theorem due_no {l r : List Nat} {sg : Int} (h : Sgn l sg r) (hl : l.length ≤ 1000) (hr : 47 ∉ r) :
    g__law_due [.str (sL l)] = .ok (.val (if isD r = true then .tuple [.int (sg * dgV r), .int 1] else .none)) := by
  have hl' := h.len
  have q : (1 : Nat) ≤ sizeLine := le_line (by decide)
  have q' : (1 : Nat) < sizeLine := lt_line' (by decide)
  unfold g__law_due m__law_due
  refine run_fin rfl (fin_seq [.val (.str (sL l)), .val (.int 1), .non, .non, .non, .non] (by simp) (fin_seq [.val (.str (sL l)), .val (.int 1), .val (.str (sL l)), .non, .non, .non] (by simp) (fin_seq _ (due_head h hl) ?_)))
  refine fin_seq [.val (.str (sL l)), .val (.int sg), .val (.str (sL r)), .own (.list [.str (sL r)]), .non, .non] (by simp [s_slash, fSplit, split_ok r (by omega), split_no (by decide) hr]) ?_
  have bp := bad_parts (.val (.str (sL l))) (.val (.int sg)) (.val (.str (sL r))) (.own (.list [.str (sL r)])) .non [r] (by simp; omega)
  simp only [List.map_cons, List.map_nil] at bp
  by_cases hd : isD r = true
  · have eb : badD (.str (sL r)) = false := by simp [badD, tl_sL, hd]
    rw [List.filter_cons_of_neg (by simp [eb])] at bp
    refine fin_seq [.val (.str (sL l)), .val (.int sg), .val (.str (sL r)), .own (.list [.str (sL r)]), .non, .non] (by simp [bp, q']) ?_
    refine fin_seq [.val (.str (sL l)), .val (.int sg), .val (.str (sL r)), .own (.list [.str (sL r)]), .val (.int 1), .non] (by simp) ?_
    refine fin_seq [.val (.str (sL l)), .val (.int sg), .val (.str (sL r)), .own (.list [.str (sL r)]), .val (.int 1), .non] (by simp) ?_
    have M := sgMul h.one (dg_small hd)
    have I := int_dg (isD_ne hd).2.2 (isD_ne hd).1 (isD_ne hd).2.1
    have L := low_val (sg * dgV r) 1 (by decide) (by decide)
    have ai : atI [PyData.str (sL r)] 0 = some (.str (sL r)) := rfl
    simp [ai, I, M.1, L, hd]
  · have eb : badD (.str (sL r)) = true := by simp [badD, tl_sL, hd]
    rw [List.filter_cons_of_pos eb] at bp
    refine fin_out [.val (.str (sL l)), .val (.int sg), .val (.str (sL r)), .own (.list [.str (sL r)]), .non, .non] ?_
    simp [bp, q', hd]
theorem due_at {l a b : List Nat} {sg : Int} (h : Sgn l sg (a ++ 47 :: b)) (hl : l.length ≤ 1000) (ha : 47 ∉ a) :
    g__law_due [.str (sL l)] = .ok (.val (if isD a = true ∧ isD b = true ∧ dgV b ≠ 0 then lowD (sg * dgV a) (dgV b : Nat) else .none)) := by
  have hl' := h.len
  have hab : a.length + (b.length + 1) ≤ 1000 := by
    rw [List.length_append, List.length_cons] at hl'
    omega
  have q' : (2 : Nat) < sizeLine := lt_line' (by decide)
  unfold g__law_due m__law_due
  refine run_fin rfl (fin_seq [.val (.str (sL l)), .val (.int 1), .non, .non, .non, .non] (by simp) (fin_seq [.val (.str (sL l)), .val (.int 1), .val (.str (sL l)), .non, .non, .non] (by simp) (fin_seq _ (due_head h hl) ?_)))
  by_cases hb : 47 ∈ b
  · obtain ⟨b1, b2, rfl, hb1⟩ := first_split hb
    obtain ⟨p, ps, hp⟩ : ∃ p ps, Txt.split (sL b2) (sL [47]) = p :: ps := by
      cases hs : Txt.split (sL b2) (sL [47]) with
      | nil => exact absurd hs (split_ne b2 (by decide))
      | cons p ps => exact ⟨p, ps, rfl⟩
    have es : Txt.split (sL (a ++ 47 :: (b1 ++ 47 :: b2))) (sL [47]) = sL a :: sL b1 :: p :: ps := by
      rw [split_at (by decide) ha, split_at (by decide) hb1, hp]
    refine fin_seq [.val (.str (sL l)), .val (.int sg), .val (.str (sL (a ++ 47 :: (b1 ++ 47 :: b2)))), .own (.list (.str (sL a) :: .str (sL b1) :: .str p :: ps.map .str)), .non, .non] (by
      have := split_ok (a ++ 47 :: (b1 ++ 47 :: b2)) (by rw [List.length_append, List.length_cons]; omega)
      simp [s_slash, fSplit, this, es]) ?_
    refine fin_out [.val (.str (sL l)), .val (.int sg), .val (.str (sL (a ++ 47 :: (b1 ++ 47 :: b2)))), .own (.list (.str (sL a) :: .str (sL b1) :: .str p :: ps.map .str)), .non, .non] ?_
    have nb : ¬ isD (b1 ++ 47 :: b2) = true := fun z => isD_no47 z hb
    have : (2 : Int) < (ps.length : Int) + 1 + 1 + 1 := by omega
    simp [this, nb]
  · have es : Txt.split (sL (a ++ 47 :: b)) (sL [47]) = [sL a, sL b] := by
      rw [split_at (by decide) ha, split_no (by decide) hb]
    refine fin_seq [.val (.str (sL l)), .val (.int sg), .val (.str (sL (a ++ 47 :: b))), .own (.list [.str (sL a), .str (sL b)]), .non, .non] (by
      have := split_ok (a ++ 47 :: b) (by rw [List.length_append, List.length_cons]; omega)
      simp [s_slash, fSplit, this, es]) ?_
    have bp := bad_parts (.val (.str (sL l))) (.val (.int sg)) (.val (.str (sL (a ++ 47 :: b)))) (.own (.list [.str (sL a), .str (sL b)])) .non [a, b] (by
      intro x hx
      simp at hx
      rcases hx with rfl | rfl <;> omega)
    simp only [List.map_cons, List.map_nil] at bp
    have ea : badD (.str (sL a)) = !isD a := rfl
    have eb : badD (.str (sL b)) = !isD b := rfl
    by_cases h1 : isD a = true
    · by_cases h2 : isD b = true
      · rw [List.filter_cons_of_neg (by simp [ea, h1]), List.filter_cons_of_neg (by simp [eb, h2])] at bp
        refine fin_seq [.val (.str (sL l)), .val (.int sg), .val (.str (sL (a ++ 47 :: b))), .own (.list [.str (sL a), .str (sL b)]), .non, .non] (by simp [bp, q']) ?_
        refine fin_seq [.val (.str (sL l)), .val (.int sg), .val (.str (sL (a ++ 47 :: b))), .own (.list [.str (sL a), .str (sL b)]), .val (.int 1), .non] (by simp) ?_
        have I1 := int_dg (isD_ne h1).2.2 (isD_ne h1).1 (isD_ne h1).2.1
        have I2 := int_dg (isD_ne h2).2.2 (isD_ne h2).1 (isD_ne h2).2.1
        have a0 : atI [PyData.str (sL a), PyData.str (sL b)] 0 = some (.str (sL a)) := rfl
        have a1 : atI [PyData.str (sL a), PyData.str (sL b)] 1 = some (.str (sL b)) := rfl
        refine fin_seq [.val (.str (sL l)), .val (.int sg), .val (.str (sL (a ++ 47 :: b))), .own (.list [.str (sL a), .str (sL b)]), .val (.int (dgV b : Nat)), .non] (by simp [a1, I2]) ?_
        by_cases h3 : dgV b = 0
        · simp [h3]
        · have M := sgMul h.one (dg_small h1)
          have B : dgV b < 2 ^ 200 := Nat.lt_trans (dg_small h2) (by decide)
          have L := low_val (sg * dgV a) (dgV b : Nat) (by omega) (by simpa using B)
          rw [if_pos ⟨h1, h2, h3⟩]
          simp [h3, a0, I1, M.1, L, lowD]
      · rw [List.filter_cons_of_neg (by simp [ea, h1]), List.filter_cons_of_pos (by simp [eb, h2])] at bp
        refine fin_out [.val (.str (sL l)), .val (.int sg), .val (.str (sL (a ++ 47 :: b))), .own (.list [.str (sL a), .str (sL b)]), .non, .non] ?_
        simp [bp, q', h2]
    · rw [List.filter_cons_of_pos (by simp [ea, h1])] at bp
      refine fin_out [.val (.str (sL l)), .val (.int sg), .val (.str (sL (a ++ 47 :: b))), .own (.list [.str (sL a), .str (sL b)]), .non, .non] ?_
      have : (0 : Int) < ((List.filter badD [PyData.str (sL b)]).length : Int) + 1 := by omega
      simp [bp, q', h1, this]
/-- alike -/
inductive Flat : D → Prop
  | non : Flat .none
  | pair (i j : Int) : Flat (.tuple [.int i, .int j])
  | str (x : Str) : Flat (.str x)
theorem due_eq (l : List Nat) (hl : l.length ≤ 1000) : ∃ d, Flat d ∧ g_parse_ratio [.str (sL l)] = .ok (.val d) ∧ g__law_due [.str (sL l)] = .ok (.val d) := by
  obtain ⟨sg, r, h⟩ := sgn_ex l
  by_cases hr : 47 ∈ r
  · obtain ⟨a, b, rfl, ha⟩ := first_split hr
    refine ⟨_, ?_, parse_at h hl ha, due_at h hl ha⟩
    split
    · exact .pair _ _
    · exact .non
  · refine ⟨_, ?_, parse_no h hl hr, due_no h hl hr⟩
    split
    · exact .pair _ _
    · exact .non
theorem alike_int (n : Nat) (i : Int) : g__law_alike (n + 1) [.int i, .int i] = .ok (dB true) := by
  rw [g__law_alike]
  unfold m__law_alike
  simp
theorem alike_none (n : Nat) : g__law_alike (n + 1) [.none, .none] = .ok (dB true) := by
  rw [g__law_alike]
  unfold m__law_alike
  simp
theorem alike_str (n : Nat) (x : Str) : g__law_alike (n + 1) [.str x, .str x] = .ok (dB true) := by
  rw [g__law_alike]
  unfold m__law_alike
  simp
theorem alike_pair (n : Nat) (i j : Int) : g__law_alike (n + 2) [.tuple [.int i, .int j], .tuple [.int i, .int j]] = .ok (dB true) := by
  rw [g__law_alike]
  unfold m__law_alike
  have r2 : Rg 2 := by decide
  have r : rangeD 0 2 = [.int 0, .int 1] := rfl
  have a0 : atI [PyData.int i, PyData.int j] 0 = some (.int i) := rfl
  have a1 : atI [PyData.int i, PyData.int j] 1 = some (.int j) := rfl
  have e1 := alike_int n i
  have e2 := alike_int n j
  simp [r2, r]
  rw [forR_nx (e1 := [.val (.tuple [.int i, .int j]), .val (.tuple [.int i, .int j]), .val (.int 0)]) (e := [.val (.tuple [.int i, .int j]), .val (.tuple [.int i, .int j]), .val (.int 0)]) (by simp) (by simp [a0, e1])]
  simp
  rw [forR_nx (e1 := [.val (.tuple [.int i, .int j]), .val (.tuple [.int i, .int j]), .val (.int 1)]) (e := [.val (.tuple [.int i, .int j]), .val (.tuple [.int i, .int j]), .val (.int 1)]) (by simp) (by simp [a1, e2])]
  simp
  rfl
theorem Flat.alike {d : D} (h : Flat d) (n : Nat) : g__law_alike (n + 2) [d, d] = .ok (dB true) := by
  cases h with
  | non => exact alike_none _
  | pair i j => exact alike_pair _ _ _
  | str x => exact alike_str _ _
/-! the second half: a ratio's text -/
def txtL (a b : Int) : List Nat := if b = 1 then numS a else numS a ++ 47 :: numS b
theorem numS_sgn (a : Int) (tail : List Nat) : Sgn (numS a ++ tail) (if a < 0 then -1 else 1) (TL.numL a.natAbs ++ tail) := by
  unfold numS
  by_cases h : a < 0
  · rw [if_pos h, if_pos h]
    exact .inl ⟨rfl, rfl, rfl⟩
  · rw [if_neg h, if_neg h]
    refine .inr ⟨?_, rfl, rfl⟩
    cases e : TL.numL a.natAbs with
    | nil => exact absurd e (TL.numL_ne _)
    | cons c r =>
      have := TL.numL_digits a.natAbs c (by rw [e]; simp)
      intro z
      simp at z
      omega
theorem sgn_abs (a : Int) : (if a < 0 then (-1 : Int) else 1) * (a.natAbs : Nat) = a := by
  by_cases h : a < 0
  · rw [if_pos h]; omega
  · rw [if_neg h]; omega
theorem numL_isD {n : Nat} (h : n < 10 ^ 20) : isD (TL.numL n) = true := by
  have h1 := TL.numL_len (n := n) (k := 20) (by decide) h
  have h2 : 0 < (TL.numL n).length := List.length_pos_iff.mpr (TL.numL_ne n)
  unfold isD
  rw [decide_eq_true (show 1 ≤ (TL.numL n).length from h2), decide_eq_true h1, numL_dg]
  rfl
theorem numS_len {a : Int} (h : a.natAbs < 10 ^ 20) : (numS a).length ≤ 21 := by
  have h1 := TL.numL_len (n := a.natAbs) (k := 20) (by decide) h
  unfold numS
  split
  · rw [List.length_cons]; omega
  · omega
theorem read_back {a b : Int} (ha : a.natAbs < 10 ^ 20) (hb : b.natAbs < 10 ^ 20) (pb : 0 < b) (g : Int.gcd a b = 1) :
    g_parse_ratio [.str (sL (txtL a b))] = .ok (.val (.tuple [.int a, .int b])) := by
  have l1 := numS_len ha
  have l2 := numS_len hb
  have d1 := numL_isD ha
  have d2 := numL_isD hb
  unfold txtL
  by_cases h : b = 1
  · rw [if_pos h]
    have s := numS_sgn a []
    rw [List.append_nil, List.append_nil] at s
    rw [parse_no s (by omega) (isD_no47 d1), if_pos d1, numL_dgV, sgn_abs, h]
  · rw [if_neg h]
    have eb : numS b = TL.numL b.natAbs := by unfold numS; rw [if_neg (by omega)]
    rw [parse_at (numS_sgn a (47 :: numS b)) (by rw [List.length_append, List.length_cons]; omega) (isD_no47 d1), eb, if_pos ⟨d1, d2, by rw [numL_dgV]; omega⟩, numL_dgV, numL_dgV, sgn_abs]
    have e : ((b.natAbs : Nat) : Int) = b := by omega
    rw [e, lowD, g]
    simp
theorem str_ok {a : Int} (h : a.natAbs < 10 ^ 20) : a.natAbs.log2 < 1920 := Nat.lt_trans (log2_lt_of (k := 200) (Nat.lt_trans h (by decide)) (by decide)) (by decide)
theorem print_val {a b : Int} (ha : a.natAbs < 10 ^ 20) (hb : b.natAbs < 10 ^ 20) : g_print_ratio [.tuple [.int a, .int b]] = .ok (.val (.str (sL (txtL a b)))) := by
  have l1 := numS_len ha
  have l2 := numS_len hb
  have a0 : atI [PyData.int a, PyData.int b] 0 = some (.int a) := rfl
  have a1 : atI [PyData.int a, PyData.int b] 1 = some (.int b) := rfl
  have f1 : fStr [.int a] = .ok (.val (.str (sL (numS a)))) := by rw [fStr, if_pos (str_ok ha), str_num]
  have f2 : fStr [.int b] = .ok (.val (.str (sL (numS b)))) := by rw [fStr, if_pos (str_ok hb), str_num]
  have g1 : fAdd (.str (sL (numS a))) (.str (sL [47])) = .ok (.val (.str (sL (numS a ++ [47])))) := by
    rw [fAdd, if_pos (show small _ from le_line (by simp; omega)), sL_app]
  have g2 : fAdd (.str (sL (numS a ++ [47]))) (.str (sL (numS b))) = .ok (.val (.str (sL (numS a ++ [47] ++ numS b)))) := by
    rw [fAdd, if_pos (show small _ from le_line (by simp; omega)), sL_app]
  unfold g_print_ratio m_print_ratio
  refine run_fin rfl ?_
  by_cases h : b = 1
  · refine fin_out [.val (.tuple [.int a, .int b])] ?_
    subst h
    simp [a0, a1, f1, txtL]
  · refine fin_seq [.val (.tuple [.int a, .int b])] (by simp [a1, h]) ?_
    simp [a0, a1, f1, f2, txtL, h, s_slash, g1, g2]
end K66


namespace K66
open PySem PySem.Spec PyProof.Rows L2 Evl Lw
def pcs : List Str := [Str.ofString "-", Str.ofString "0", Str.ofString "7", Str.ofString "12", Str.ofString "/", Str.ofString "/", Str.ofString " ", Str.ofString "+", Str.ofString "x", Str.ofString "000", Str.ofString "12345678901234567890", Str.ofString "123456789012345678901", Str.ofString "4", Str.ofString "\n", Str.ofString "_", Str.ofString "\t"]
theorem pcs_len : ∀ p ∈ pcs, p.cps.toList.length ≤ 21 := by decide +kernel
theorem pcs_at {x : Int} (h0 : 0 ≤ x) (h1 : x < 16) : ∃ p : List Nat, p.length ≤ 21 ∧ atI (pcs.map PyData.str) x = some (.str (sL p)) := by
  obtain ⟨n, rfl⟩ : ∃ n : Nat, x = n := ⟨x.toNat, by omega⟩
  have hn : n < pcs.length := by
    show n < 16
    omega
  refine ⟨pcs[n].cps.toList, pcs_len _ (List.getElem_mem hn), ?_⟩
  rw [sL_tl]
  exact atI_nat (by rw [List.getElem?_map, List.getElem?_eq_getElem hn]; rfl)
theorem strsOf_map : ∀ l : List Str, strsOf (l.map PyData.str) = .ok l
  | [] => rfl
  | x :: l => by
    show (strsOf (l.map PyData.str) >>= _) = _
    rw [strsOf_map l]
    rfl
theorem joinL_len : ∀ ls : List (List Nat), (∀ l ∈ ls, l.length ≤ 21) → (TL.joinL [] ls).length ≤ 21 * ls.length
  | [], _ => Nat.zero_le _
  | [p], h => by
    have := h p (by simp)
    show p.length ≤ 21 * 1
    omega
  | p :: q :: r, h => by
    have h1 := h p (by simp)
    have h2 := joinL_len (q :: r) fun l hl => h l (List.mem_cons_of_mem _ hl)
    show (p ++ ([] ++ TL.joinL [] (q :: r))).length ≤ _
    rw [List.length_append, List.nil_append, List.length_cons]
    omega
theorem add_str (a b : List Nat) (h : a.length + b.length ≤ 1000) : fAdd (.str (sL a)) (.str (sL b)) = .ok (.val (.str (sL (a ++ b)))) := by
  rw [fAdd, if_pos (show small _ from le_line (by simp; omega)), sL_app]
theorem sum_len : ∀ ls : List (List Nat), (∀ l ∈ ls, l.length ≤ 21) → ((ls.map sL).map (·.length)).sum ≤ 21 * ls.length
  | [], _ => Nat.zero_le _
  | p :: r, h => by
    have h1 := h p (by simp)
    have h2 := sum_len r fun l hl => h l (List.mem_cons_of_mem _ hl)
    simp only [List.map_cons, List.sum_cons, sL_len, List.length_cons] at h2 ⊢
    omega
theorem join_ok (ls : List (List Nat)) (h : ∀ l ∈ ls, l.length ≤ 21) (hn : ls.length ≤ 20) : ∃ t : List Nat, t.length ≤ 420 ∧ fJoin (sL []) (.list (ls.map fun l => .str (sL l))) = .ok (.val (.str (sL t))) := by
  refine ⟨TL.joinL [] ls, Nat.le_trans (joinL_len ls h) (by omega), ?_⟩
  have e : (ls.map fun l => PyData.str (sL l)) = (ls.map sL).map PyData.str := by rw [List.map_map]; rfl
  rw [e]
  show (strsOf _ >>= _) = _
  rw [strsOf_map]
  have j : Lw.JoinOk (sL []) (ls.map sL) := by
    show _ ≤ _
    have := sum_len ls h
    rw [sL_len, List.length_nil, Nat.mul_zero]
    omega
  show (if Lw.JoinOk (sL []) (ls.map sL) then _ else _) = _
  rw [if_pos j]
  refine congrArg (fun z => R.ok (Cell.val (.str z))) (TL.ext_tl ?_)
  rw [TL.join_eq, TL.tl_join, List.map_map]
  show TL.joinL [] (ls.map fun l => l) = _
  rw [List.map_id']
  rfl
def drw (xs : List Int) : D := .list (xs.map .int)
theorem drw_at {xs ss : List Int} (h : Fit xs ss) (i : Nat) (hi : i < ss.length) : ∃ x, atI (xs.map PyData.int) (i : Int) = some (.int x) ∧ 0 ≤ x ∧ x < ss.getD i 0 := by
  obtain ⟨x, e, b⟩ := h.get i hi
  exact ⟨x, atI_nat (by rw [List.getElem?_map, e]; rfl), b⟩
theorem text_one (ns : List Int) (xs : List Int) (h : Fit xs [7, 16, 16, 16, 16, 16, 16, 3]) : ∃ t : List Nat, t.length ≤ 420 ∧
    sAsg 3 (eM1 fJoin (rOf (eC (.str (Str.ofString "")))) (rOf (eLc [7] (iRa1 (arCons (rOf (eBin fIx (rVar 2) (rOf (eC (.int 0))))) aNil)) (gV 7) bYes (eBin fIx (rVar 1) (rOf (eBin fIx (rVar 2) (rOf (eBin fAdd (rOf (eC (.int 1))) (rVar 7)))))))))
      [.val (scrD ns), .own (.list (pcs.map .str)), .own (drw xs), .non, .non, .non, .non, .non] = .ok (.nx [.val (scrD ns), .own (.list (pcs.map .str)), .own (drw xs), .val (.str (sL t)), .non, .non, .non, .non]) := by
  obtain ⟨x0, e0, b0, c0⟩ := drw_at h 0 (by decide)
  rw [show ([7, 16, 16, 16, 16, 16, 16, 3] : List Int).getD 0 0 = 7 from rfl] at c0
  have hp : ∀ j : Nat, ∃ p : List Nat, p.length ≤ 21 ∧ (j < x0.toNat → fIx (drw xs) (.int (1 + (j : Int))) >>= Cell.get = .ok (.int ((xs.getD (1 + j) 0))) ∧ atI (pcs.map PyData.str) (xs.getD (1 + j) 0) = some (.str (sL p))) := by
    intro j
    by_cases hj : j < x0.toNat
    · obtain ⟨x, e, b, c⟩ := drw_at h (1 + j) (by simp; omega)
      have c' : x < 16 := by
        have : j = 0 ∨ j = 1 ∨ j = 2 ∨ j = 3 ∨ j = 4 ∨ j = 5 := by omega
        rcases this with rfl | rfl | rfl | rfl | rfl | rfl <;> exact c
      obtain ⟨p, hp, ep⟩ := pcs_at b c'
      have ex : xs.getD (1 + j) 0 = x := by
        obtain ⟨y, e1, _⟩ := h.get (1 + j) (by simp; omega)
        have e2 : atI (xs.map PyData.int) ((1 + j : Nat) : Int) = some (.int y) := atI_nat (by rw [List.getElem?_map, e1]; rfl)
        rw [e2] at e
        cases e
        rw [List.getD_eq_getElem?_getD, e1]
        rfl
      refine ⟨p, hp, fun _ => ⟨?_, by rw [ex]; exact ep⟩⟩
      rw [ex]
      rw [Int.natCast_add, Int.natCast_one] at e
      show (fIx (.list (xs.map .int)) _ >>= _) = _
      rw [v_ix_l, e]
      rfl
    · exact ⟨[], by decide, fun z => absurd z hj⟩
  let k : Nat → List Nat := fun j => Classical.choose (hp j)
  have hk : ∀ j, _ := fun j => Classical.choose_spec (hp j)
  have hc := compR_map (f := gV 7) (t := bYes) (m := eBin fIx (rVar 1) (rOf (eBin fIx (rVar 2) (rOf (eBin fAdd (rOf (eC (.int 1))) (rVar 7))))))
    (env := [.val (scrD ns), .own (.list (pcs.map .str)), .own (drw xs), .non, .non, .non, .non, .non]) (ds := (List.range x0.toNat).map fun i : Nat => .int (i : Nat)) (fun d => match d with | .int j => .str (sL (k j.toNat)) | d => d) (by
      intro d hd
      obtain ⟨j, hj, rfl⟩ := List.mem_map.mp hd
      have q := (hk j).2 (List.mem_range.mp hj)
      have q1 := q.1
      refine ⟨[.val (scrD ns), .own (.list (pcs.map .str)), .own (drw xs), .non, .non, .non, .non, .val (.int j)], by simp, rfl, .val (.str (sL (k j))), ?_, rfl⟩
      have q3 : eBin fIx (rVar 2) (rOf (eBin fAdd (rOf (eC (.int 1))) (rVar 7))) [.val (scrD ns), .own (.list (pcs.map .str)), .own (drw xs), .non, .non, .non, .non, .val (.int j)] = fIx (drw xs) (.int (1 + (j : Int))) := by simp
      have q2 : atI (pcs.map PyData.str) (xs.getD (1 + j) 0) = some (.str (sL (k j))) := q.2
      rw [v_eBin, v_rOf, q3, q1]
      simp only [v_rVarS, v_rVar0, Cell.get, R.ok_bind, v_ix_l, q2])
  obtain ⟨t, ht, et⟩ := join_ok ((List.range x0.toNat).map k) (by
    intro l hl
    obtain ⟨j, _, rfl⟩ := List.mem_map.mp hl
    exact (hk j).1) (by simp; omega)
  refine ⟨t, ht, ?_⟩
  rw [List.map_map] at hc et
  have e1 : iRa1 (arCons (rOf (eBin fIx (rVar 2) (rOf (eC (.int 0))))) aNil) [.val (scrD ns), .own (.list (pcs.map .str)), .own (drw xs), .non, .non, .non, .non, .non] = .ok ((List.range x0.toNat).map fun i : Nat => .int (i : Nat)) := by
    have e0' : atI (xs.map PyData.int) 0 = some (.int x0) := e0
    have r : Rg x0 := by constructor <;> omega
    simp [drw, e0', r, rangeD_0]
  have w : wipeE [7] [.val (scrD ns), .own (.list (pcs.map .str)), .own (drw xs), .non, .non, .non, .non, .non] = .ok [.val (scrD ns), .own (.list (pcs.map .str)), .own (drw xs), .non, .non, .non, .non, .non] := rfl
  have e2 : eLc [7] (iRa1 (arCons (rOf (eBin fIx (rVar 2) (rOf (eC (.int 0))))) aNil)) (gV 7) bYes (eBin fIx (rVar 1) (rOf (eBin fIx (rVar 2) (rOf (eBin fAdd (rOf (eC (.int 1))) (rVar 7)))))) [.val (scrD ns), .own (.list (pcs.map .str)), .own (drw xs), .non, .non, .non, .non, .non] = .ok (.own (.list ((List.range x0.toNat).map fun j => .str (sL (k j))))) := by
    rw [v_eLc, e1, R.ok_bind, w, R.ok_bind, hc, pur_ok, R.ok_bind, if_pos (by rw [List.length_map, List.length_range]; exact lt_line' (by omega))]
    rfl
  rw [v_sAsg, v_eM1, v_rOf, v_rOf, e2, s_empty]
  simp only [v_eC, R.ok_bind, Cell.get]
  have et' : fJoin (sL []) (.list ((List.range x0.toNat).map fun j => .str (sL (k j)))) = .ok (.val (.str (sL t))) := et
  rw [et']
  simp
theorem two_at {x : Int} (h0 : 0 ≤ x) (h1 : x < 2) : ∃ p : List Nat, p.length ≤ 21 ∧ atI [PyData.str (sL []), PyData.str (sL [45])] x = some (.str (sL p)) := by
  have : x = 0 ∨ x = 1 := by omega
  rcases this with rfl | rfl
  · exact ⟨[], by decide, rfl⟩
  · exact ⟨[45], by decide, rfl⟩
theorem text_two (ns : List Int) (xs : List Int) (h : Fit xs [7, 16, 16, 16, 16, 16, 16, 3]) (t0 : List Nat) (ht0 : t0.length ≤ 420) : ∃ t : List Nat, t.length ≤ 420 ∧
    sIf (bOf (rOf (eBin fEqq (rOf (eBin fIx (rVar 2) (rOf (eC (.int 7))))) (rOf (eC (.int 1)))))) (sAsg 3 (eBin fAdd (rOf (eBin fAdd (rOf (eBin fAdd (rOf (eBin fAdd (rOf (eBin fIx (rOf (eLst (aCons (eC (.str (Str.ofString ""))) (aCons (eC (.str (Str.ofString "-"))) aNil)))) (rOf (eBin fMod (rOf (eBin fIx (rVar 2) (rOf (eC (.int 1))))) (rOf (eC (.int 2))))))) (rOf (eBin fIx (rVar 1) (rOf (eBin fAdd (rOf (eC (.int 1))) (rOf (eBin fMod (rOf (eBin fIx (rVar 2) (rOf (eC (.int 2))))) (rOf (eC (.int 3))))))))))) (rOf (eC (.str (Str.ofString "/")))))) (rOf (eBin fIx (rVar 1) (rOf (eBin fAdd (rOf (eC (.int 1))) (rOf (eBin fMod (rOf (eBin fIx (rVar 2) (rOf (eC (.int 3))))) (rOf (eC (.int 3))))))))))) (rOf (eBin fIx (rVar 1) (rOf (eBin fAdd (rOf (eC (.int 1))) (rOf (eBin fMod (rOf (eBin fIx (rVar 2) (rOf (eC (.int 4))))) (rOf (eC (.int 3))))))))))) sNil
      [.val (scrD ns), .own (.list (pcs.map .str)), .own (drw xs), .val (.str (sL t0)), .non, .non, .non, .non] = .ok (.nx [.val (scrD ns), .own (.list (pcs.map .str)), .own (drw xs), .val (.str (sL t)), .non, .non, .non, .non]) := by
  obtain ⟨x1, e1, b1, c1⟩ := drw_at h 1 (by decide)
  obtain ⟨x2, e2, b2, c2⟩ := drw_at h 2 (by decide)
  obtain ⟨x3, e3, b3, c3⟩ := drw_at h 3 (by decide)
  obtain ⟨x4, e4, b4, c4⟩ := drw_at h 4 (by decide)
  obtain ⟨x7, e7, b7, c7⟩ := drw_at h 7 (by decide)
  have e1' : atI (xs.map PyData.int) 1 = some (.int x1) := e1
  have e2' : atI (xs.map PyData.int) 2 = some (.int x2) := e2
  have e3' : atI (xs.map PyData.int) 3 = some (.int x3) := e3
  have e4' : atI (xs.map PyData.int) 4 = some (.int x4) := e4
  have e7' : atI (xs.map PyData.int) 7 = some (.int x7) := e7
  by_cases h7 : x7 = 1
  · obtain ⟨p1, l1, q1⟩ := two_at (mod_bnd x1 (n := 2) (by decide)).1 (mod_bnd x1 (by decide)).2
    have m2 := mod_bnd x2 (n := 3) (by decide)
    have m3 := mod_bnd x3 (n := 3) (by decide)
    have m4 := mod_bnd x4 (n := 3) (by decide)
    obtain ⟨p2, l2, q2⟩ := pcs_at (x := 1 + x2 % 3) (by omega) (by omega)
    obtain ⟨p3, l3, q3⟩ := pcs_at (x := 1 + x3 % 3) (by omega) (by omega)
    obtain ⟨p4, l4, q4⟩ := pcs_at (x := 1 + x4 % 3) (by omega) (by omega)
    refine ⟨p1 ++ p2 ++ [47] ++ p3 ++ p4, by simp; omega, ?_⟩
    have a1 := add_str p1 p2 (by omega)
    have a2 := add_str (p1 ++ p2) [47] (by simp; omega)
    have a3 := add_str (p1 ++ p2 ++ [47]) p3 (by simp; omega)
    have a4 := add_str (p1 ++ p2 ++ [47] ++ p3) p4 (by simp; omega)
    have sm : (2 : Nat) ≤ sizeLine := le_line (by decide)
    simp only [drw, v_sIf, v_bOf, v_rOf, v_eBin, v_rVarS, v_rVar0, Cell.get, v_eC, R.ok_bind, v_ix_l, e1', e2', e3', e4', e7', h7, v_eqI, decide_true, v_dB_get, if_true, v_sAsg, v_eLst, v_aCons, v_aNil, s_empty, s_minus, s_slash, v_small, List.length_cons, List.length_nil, sm, v_mod_int, v_add_int, q1, q2, q3, q4, a1, a2, a3, a4, v_setCS, v_setC0_val,
      if_pos (show (0 : Int) < 2 by decide), if_pos (show (0 : Int) < 3 by decide)]
    rfl
  · exact ⟨t0, ht0, by simp [drw, e7', h7]⟩
theorem law_true (ns : List Int) (hns : ns.length ≤ 63) : g_law [scrD ns] = .ok (.val (.bool true)) := by
  obtain ⟨xs, ex, fx⟩ := draw_val ns 0 [7, 16, 16, 16, 16, 16, 16, 3] (by decide) (by decide) (by decide)
  obtain ⟨ys, ey, fy⟩ := draw_val ns 1 [2000001, 500, 3] (by decide) (by decide) (by decide)
  obtain ⟨t0, h0, e0⟩ := text_one ns xs fx
  obtain ⟨t, ht, e1⟩ := text_two ns xs fx t0 h0
  obtain ⟨d, fd, p1, p2⟩ := due_eq t (by omega)
  obtain ⟨y0, q0, b0, c0⟩ := drw_at fy 0 (by decide)
  obtain ⟨y1, q1, b1, c1⟩ := drw_at fy 1 (by decide)
  obtain ⟨y2, q2, b2, c2⟩ := drw_at fy 2 (by decide)
  have c0 : y0 < 2000001 := c0
  have c1 : y1 < 500 := c1
  have c2 : y2 < 3 := c2
  have q0 : atI (ys.map PyData.int) 0 = some (.int y0) := q0
  have q1 : atI (ys.map PyData.int) 1 = some (.int y1) := q1
  have q2 : atI (ys.map PyData.int) 2 = some (.int y2) := q2
  have ex : g__law_draw [scrD ns, .int 0, .list [.int 7, .int 16, .int 16, .int 16, .int 16, .int 16, .int 16, .int 3]] = .ok (.own (.list (xs.map .int))) := ex
  have ey : g__law_draw [scrD ns, .int 1, .list [.int 2000001, .int 500, .int 3]] = .ok (.own (.list (ys.map .int))) := ey
  have sm : (16 : Nat) ≤ sizeLine := le_line (by decide)
  have sm8 : (8 : Nat) ≤ sizeLine := le_line (by decide)
  have sm3 : (3 : Nat) ≤ sizeLine := le_line (by decide)
  obtain ⟨A, B, vA, vB, hA, hB, pB⟩ : ∃ A B : Int, (∃ m : Int, atI [PyData.int 1, PyData.int 1000000000, PyData.int 1] y2 = some (.int m) ∧ Lw.MulOk (y0 - 1000000) m ∧ (y0 - 1000000) * m = A) ∧ (∃ m : Int, atI [PyData.int 1, PyData.int 1, PyData.int 0] y2 = some (.int m) ∧ Lw.MulOk y1 m ∧ 1 + y1 * m = B) ∧ A.natAbs < 10 ^ 19 ∧ B.natAbs < 10 ^ 19 ∧ 0 < B := by
    have z : y2 = 0 ∨ y2 = 1 ∨ y2 = 2 := by omega
    rcases z with rfl | rfl | rfl
    · exact ⟨_, _, ⟨1, rfl, mulOk_of (by omega) (by decide), rfl⟩, ⟨1, rfl, mulOk_of (by omega) (by decide), rfl⟩, by omega, by omega, by omega⟩
    · exact ⟨_, _, ⟨1000000000, rfl, mulOk_of (by omega) (by decide), rfl⟩, ⟨1, rfl, mulOk_of (by omega) (by decide), rfl⟩, by omega, by omega, by omega⟩
    · exact ⟨_, _, ⟨1, rfl, mulOk_of (by omega) (by decide), rfl⟩, ⟨0, rfl, mulOk_of (by omega) (by decide), rfl⟩, by omega, by omega, by omega⟩
  obtain ⟨m1, w1, w2, w3⟩ := vA
  obtain ⟨m2, w4, w5, w6⟩ := vB
  have lv := low_val A B pB (by omega)
  have g0 : 0 < Int.gcd A B := Int.gcd_pos_of_ne_zero_right A (by omega)
  obtain ⟨a, ha⟩ : ∃ a, a = A / Int.gcd A B := ⟨_, rfl⟩
  obtain ⟨b, hb⟩ : ∃ b, b = B / Int.gcd A B := ⟨_, rfl⟩
  have hg : Int.gcd a b = 1 := by
    rw [ha, hb]
    exact Int.gcd_ediv_gcd_ediv_gcd g0
  have da : A = a * Int.gcd A B := by rw [ha]; exact (Int.ediv_mul_cancel (Int.gcd_dvd_left ..)).symm
  have db : B = b * Int.gcd A B := by rw [hb]; exact (Int.ediv_mul_cancel (Int.gcd_dvd_right ..)).symm
  have na : a.natAbs < 10 ^ 20 := by
    have := congrArg Int.natAbs da
    rw [Int.natAbs_mul, Int.natAbs_natCast] at this
    have := Nat.le_mul_of_pos_right a.natAbs g0
    omega
  have nb : b.natAbs < 10 ^ 20 := by
    have := congrArg Int.natAbs db
    rw [Int.natAbs_mul, Int.natAbs_natCast] at this
    have := Nat.le_mul_of_pos_right b.natAbs g0
    omega
  have pb : 0 < b := by
    refine Int.pos_of_mul_pos_left (b := (Int.gcd A B : Int)) ?_ (by omega)
    rw [← db]; exact pB
  rw [← ha, ← hb] at lv
  have rb := read_back na nb pb hg
  have pv := print_val na nb
  have l1 := numS_len na
  have l2 := numS_len nb
  have i0 : atI [PyData.int a, PyData.int b] 0 = some (.int a) := rfl
  have i1 : atI [PyData.int a, PyData.int b] 1 = some (.int b) := rfl
  have f1 : fStr [.int a] = .ok (.val (.str (sL (numS a)))) := by rw [fStr, if_pos (str_ok na), str_num]
  have f2 : fStr [.int b] = .ok (.val (.str (sL (numS b)))) := by rw [fStr, if_pos (str_ok nb), str_num]
  have g1 := add_str (numS a) [47] (by simp; omega)
  have g2 := add_str (numS a ++ [47]) (numS b) (by simp; omega)
  have al := fd.alike 6
  have al2 := alike_str 7 (sL (txtL a b))
  have al3 := alike_pair 6 a b
  unfold g_law m_law
  refine run_fin rfl ?_
  refine fin_seq [.val (scrD ns), .own (.list (pcs.map .str)), .non, .non, .non, .non, .non, .non] (by simp [sm, pcs]) ?_
  refine fin_seq [.val (scrD ns), .own (.list (pcs.map .str)), .own (drw xs), .non, .non, .non, .non, .non] (by simp [sm8, ex, drw]) ?_
  refine fin_seq _ e0 (fin_seq _ e1 ?_)
  refine fin_seq [.val (scrD ns), .own (.list (pcs.map .str)), .own (drw xs), .val (.str (sL t)), .non, .non, .non, .non] (by
    simp [p1, p2, al]) ?_
  refine fin_seq [.val (scrD ns), .own (.list (pcs.map .str)), .own (drw xs), .val (.str (sL t)), .own (drw ys), .non, .non, .non] (by simp [sm3, ey, drw]) ?_
  have P : PowOk 10 9 := by decide
  refine fin_seq [.val (scrD ns), .own (.list (pcs.map .str)), .own (drw xs), .val (.str (sL t)), .own (drw ys), .val (.tuple [.int a, .int b]), .non, .non] (by
    simp [drw, q0, q1, q2, P, sm3, w1, w2, w3, w4, w5, w6, lv]) ?_
  refine fin_seq [.val (scrD ns), .own (.list (pcs.map .str)), .own (drw xs), .val (.str (sL t)), .own (drw ys), .val (.tuple [.int a, .int b]), .val (.str (sL (numS a))), .non] (by
    simp [i0, f1]) ?_
  refine fin_seq [.val (scrD ns), .own (.list (pcs.map .str)), .own (drw xs), .val (.str (sL t)), .own (drw ys), .val (.tuple [.int a, .int b]), .val (.str (sL (txtL a b))), .non] (by
    by_cases h : b = 1
    · have i1' : atI [PyData.int a, PyData.int 1] 1 = some (.int 1) := rfl
      simp [i1', h, txtL]
    · simp [i1, h, txtL, s_slash, g1, g2, f2]) ?_
  simp [pv, rb, al2, al3]
  rfl
end K66


namespace K66
open PySem PySem.Spec PyProof.Rows L2 Evl Lw

section
def d_gcd_of : He.DefD := ⟨("gcd_of", none), "gcd_of", "gcd_of", defArgs s_gcd_of, defBody s_gcd_of, defScope s_gcd_of, [], []⟩
def d_ratio : He.DefD := ⟨("ratio", none), "ratio", "ratio", defArgs s_ratio, defBody s_ratio, defScope s_ratio, [], []⟩
def d_print_ratio : He.DefD := ⟨("print_ratio", none), "print_ratio", "print_ratio", defArgs s_print_ratio, defBody s_print_ratio, defScope s_print_ratio, [], []⟩
def d_digits_of : He.DefD := ⟨("digits_of", none), "digits_of", "digits_of", defArgs s_digits_of, defBody s_digits_of, defScope s_digits_of, [], []⟩
def d_parse_ratio : He.DefD := ⟨("parse_ratio", none), "parse_ratio", "parse_ratio", defArgs s_parse_ratio, defBody s_parse_ratio, defScope s_parse_ratio, [], []⟩
def d__law_low : He.DefD := ⟨("_law_low", none), "_law_low", "_law_low", defArgs s__law_low, defBody s__law_low, defScope s__law_low, [], []⟩
def d__law_cell : He.DefD := ⟨("_law_cell", none), "_law_cell", "_law_cell", defArgs s__law_cell, defBody s__law_cell, defScope s__law_cell, [], []⟩
def d__law_draw : He.DefD := ⟨("_law_draw", none), "_law_draw", "_law_draw", defArgs s__law_draw, defBody s__law_draw, defScope s__law_draw, [], []⟩
def d__law_alike : He.DefD := ⟨("_law_alike", none), "_law_alike", "_law_alike", defArgs s__law_alike, defBody s__law_alike, defScope s__law_alike, [], []⟩
def d__law_digits : He.DefD := ⟨("_law_digits", none), "_law_digits", "_law_digits", defArgs s__law_digits, defBody s__law_digits, defScope s__law_digits, [], []⟩
def d__law_due : He.DefD := ⟨("_law_due", none), "_law_due", "_law_due", defArgs s__law_due, defBody s__law_due, defScope s__law_due, [], []⟩
def d_law : He.DefD := ⟨("law", none), "law", "law", defArgs s_law, defBody s_law, defScope s_law, [], []⟩
def fn_0 : List He.DefD := [d_gcd_of, d_ratio, d_print_ratio, d_digits_of, d_parse_ratio, d__law_low, d__law_cell, d__law_draw, d__law_alike, d__law_digits, d__law_due, d_law]
def fn : List He.DefD := fn_0
def fa_0 : List He.Fa := [.glo "gcd_of", .glo "ratio", .glo "print_ratio", .glo "digits_of", .glo "parse_ratio", .glo "_law_low", .glo "_law_cell", .glo "_law_draw", .glo "_law_alike", .glo "_law_digits", .glo "_law_due", .glo "law", .free "abs", .free "bool", .free "int", .free "isinstance", .free "len", .free "list", .free "range", .free "str", .free "tuple"]
def fa : List He.Fa := fa_0
def loose_0 : List PySem.Str := ["gcd_of", "ratio", "print_ratio", "digits_of", "parse_ratio", "_law_low", "_law_cell", "_law_draw", "_law_alike", "_law_digits", "_law_due"]
def loose : List PySem.Str := loose_0
abbrev R0 : PySem.W.OpenRow := PySem.W.OpenLaw.row PySem.Challenge.rw_wardenworks_k66_texts_of_ratios
abbrev hk : PySem.W.Hook := He.hookD 4 fa fn
def ob (s : PySem.W.SharedT) : He.AlD := He.obsDG 4 fa fn (HandSHeadRun.getT s)
theorem ob_eq (s : PySem.W.SharedT) : ob s = hk.obs s.abs := He.obsDG_eq (HandSHeadRun.getT_eq s)
theorem run (w : World) : HandSHeadRun.RunEq R0 (PySem.W.view R0.prog [13]) hk ob 620 loose w := by
  intro os
  kernel_rfl
theorem facts {P : Program} {w : World} {K : PySem.W.Frag} {h : Heap} {mg : Str → Option Value} {f : Addr} (X : K.In h) (G0 : h.Ns mainGlobals mg) (hfa : mg ("law" : Str) = some (.ref f)) (c : He.SaysD fa fn K) :
    ∃ fd : FuncData, (∀ (s : Shared) (v : Value), BindsTo s fd ⟨[v], []⟩ [("script", v)]) ∧ ∀ base : Heap, K.In base → base.Ns mainGlobals mg → FnOk P w K mg base CX0 9 f fd ["script"] (spD ⟨P, w, K, mg, base⟩ 1 g_law) := by
  obtain ⟨fd_gcd_of, F_gcd_of⟩ := c.def_ 0 (d := d_gcd_of) rfl
  have m_gcd_of := He.glo_ok X G0 (c.fact 0 (f := .glo "gcd_of") rfl)
  obtain ⟨fd_ratio, F_ratio⟩ := c.def_ 1 (d := d_ratio) rfl
  have m_ratio := He.glo_ok X G0 (c.fact 1 (f := .glo "ratio") rfl)
  obtain ⟨fd_print_ratio, F_print_ratio⟩ := c.def_ 2 (d := d_print_ratio) rfl
  have m_print_ratio := He.glo_ok X G0 (c.fact 2 (f := .glo "print_ratio") rfl)
  obtain ⟨fd_digits_of, F_digits_of⟩ := c.def_ 3 (d := d_digits_of) rfl
  have m_digits_of := He.glo_ok X G0 (c.fact 3 (f := .glo "digits_of") rfl)
  obtain ⟨fd_parse_ratio, F_parse_ratio⟩ := c.def_ 4 (d := d_parse_ratio) rfl
  have m_parse_ratio := He.glo_ok X G0 (c.fact 4 (f := .glo "parse_ratio") rfl)
  obtain ⟨fd__law_low, F__law_low⟩ := c.def_ 5 (d := d__law_low) rfl
  have m__law_low := He.glo_ok X G0 (c.fact 5 (f := .glo "_law_low") rfl)
  obtain ⟨fd__law_cell, F__law_cell⟩ := c.def_ 6 (d := d__law_cell) rfl
  have m__law_cell := He.glo_ok X G0 (c.fact 6 (f := .glo "_law_cell") rfl)
  obtain ⟨fd__law_draw, F__law_draw⟩ := c.def_ 7 (d := d__law_draw) rfl
  have m__law_draw := He.glo_ok X G0 (c.fact 7 (f := .glo "_law_draw") rfl)
  obtain ⟨fd__law_alike, F__law_alike⟩ := c.def_ 8 (d := d__law_alike) rfl
  have m__law_alike := He.glo_ok X G0 (c.fact 8 (f := .glo "_law_alike") rfl)
  obtain ⟨fd__law_digits, F__law_digits⟩ := c.def_ 9 (d := d__law_digits) rfl
  have m__law_digits := He.glo_ok X G0 (c.fact 9 (f := .glo "_law_digits") rfl)
  obtain ⟨fd__law_due, F__law_due⟩ := c.def_ 10 (d := d__law_due) rfl
  have m__law_due := He.glo_ok X G0 (c.fact 10 (f := .glo "_law_due") rfl)
  obtain ⟨fd_law, F_law⟩ := c.def_ 11 (d := d_law) rfl
  have e := hfa.symm.trans (He.glo_ok X G0 (c.fact 11 (f := .glo "law") rfl))
  cases e
  have B : Bt mg := ⟨He.free_ok X G0 (c.fact 12 (f := .free "abs") rfl), He.free_ok X G0 (c.fact 13 (f := .free "bool") rfl), He.free_ok X G0 (c.fact 14 (f := .free "int") rfl), He.free_ok X G0 (c.fact 15 (f := .free "isinstance") rfl), He.free_ok X G0 (c.fact 16 (f := .free "len") rfl), He.free_ok X G0 (c.fact 17 (f := .free "list") rfl), He.free_ok X G0 (c.fact 18 (f := .free "range") rfl), He.free_ok X G0 (c.fact 19 (f := .free "str") rfl), He.free_ok X G0 (c.fact 20 (f := .free "tuple") rfl)⟩
  have C : Ct mg := ⟨trivial⟩
  have b_gcd_of : Binds K fd_gcd_of ["left", "right"] [] := FunD.bindsN (ps := ["left", "right"]) F_gcd_of fun _ _ _ _ _ _ us hl => match us, hl with | [_, _], _ => rfl
  have b_ratio : Binds K fd_ratio ["top", "bottom"] [] := FunD.bindsN (ps := ["top", "bottom"]) F_ratio fun _ _ _ _ _ _ us hl => match us, hl with | [_, _], _ => rfl
  have b_print_ratio : Binds K fd_print_ratio ["value"] [] := FunD.bindsN (ps := ["value"]) F_print_ratio fun _ _ _ _ _ _ us hl => match us, hl with | [_], _ => rfl
  have b_digits_of : Binds K fd_digits_of ["text"] [] := FunD.bindsN (ps := ["text"]) F_digits_of fun _ _ _ _ _ _ us hl => match us, hl with | [_], _ => rfl
  have b_parse_ratio : Binds K fd_parse_ratio ["text"] [] := FunD.bindsN (ps := ["text"]) F_parse_ratio fun _ _ _ _ _ _ us hl => match us, hl with | [_], _ => rfl
  have b__law_low : Binds K fd__law_low ["top", "bottom"] [] := FunD.bindsN (ps := ["top", "bottom"]) F__law_low fun _ _ _ _ _ _ us hl => match us, hl with | [_, _], _ => rfl
  have b__law_cell : Binds K fd__law_cell ["script", "k"] [] := FunD.bindsN (ps := ["script", "k"]) F__law_cell fun _ _ _ _ _ _ us hl => match us, hl with | [_, _], _ => rfl
  have b__law_draw : Binds K fd__law_draw ["script", "k", "sizes"] [] := FunD.bindsN (ps := ["script", "k", "sizes"]) F__law_draw fun _ _ _ _ _ _ us hl => match us, hl with | [_, _, _], _ => rfl
  have b__law_alike : Binds K fd__law_alike ["actual", "expected"] [] := FunD.bindsN (ps := ["actual", "expected"]) F__law_alike fun _ _ _ _ _ _ us hl => match us, hl with | [_, _], _ => rfl
  have b__law_digits : Binds K fd__law_digits ["text"] [] := FunD.bindsN (ps := ["text"]) F__law_digits fun _ _ _ _ _ _ us hl => match us, hl with | [_], _ => rfl
  have b__law_due : Binds K fd__law_due ["text"] [] := FunD.bindsN (ps := ["text"]) F__law_due fun _ _ _ _ _ _ us hl => match us, hl with | [_], _ => rfl
  have bA := FunD.bindsA (ps := ["script"]) F_law fun _ _ _ _ _ _ us hl => match us, hl with | [_], _ => rfl
  refine ⟨fd_law, fun s v => bA s [v] rfl, fun base _ _ => ?_⟩
  have c_gcd_of := ok_gcd_of (g := ⟨P, w, K, mg, base⟩) B C  F_gcd_of m_gcd_of b_gcd_of
  have c_ratio := ok_ratio (g := ⟨P, w, K, mg, base⟩) B C c_gcd_of F_ratio m_ratio b_ratio
  have c_print_ratio := ok_print_ratio (g := ⟨P, w, K, mg, base⟩) B C  F_print_ratio m_print_ratio b_print_ratio
  have c_digits_of := ok_digits_of (g := ⟨P, w, K, mg, base⟩) B C  F_digits_of m_digits_of b_digits_of
  have c_parse_ratio := ok_parse_ratio (g := ⟨P, w, K, mg, base⟩) B C c_digits_of c_ratio F_parse_ratio m_parse_ratio b_parse_ratio
  have c__law_low := ok__law_low (g := ⟨P, w, K, mg, base⟩) B C  F__law_low m__law_low b__law_low
  have c__law_cell := ok__law_cell (g := ⟨P, w, K, mg, base⟩) B C  F__law_cell m__law_cell b__law_cell
  have c__law_draw := ok__law_draw (g := ⟨P, w, K, mg, base⟩) B C c__law_cell F__law_draw m__law_draw b__law_draw
  have c__law_alike := ok__law_alike (g := ⟨P, w, K, mg, base⟩) B C  F__law_alike m__law_alike b__law_alike n__law_alike
  have c__law_digits := ok__law_digits (g := ⟨P, w, K, mg, base⟩) B C  F__law_digits m__law_digits b__law_digits
  have c__law_due := ok__law_due (g := ⟨P, w, K, mg, base⟩) B C c__law_low c__law_digits F__law_due m__law_due b__law_due
  exact okF_law (g := ⟨P, w, K, mg, base⟩) B C c__law_draw c__law_low c__law_alike c_parse_ratio c__law_due c_print_ratio F_law
end
end K66
open PySem PySem.W PySem.Calls PyProof.Rows
set_option maxHeartbeats 0 in
theorem PySem.Challenge.cw_wardenworks_k66_texts_of_ratios_holds : PySem.Challenge.rw_wardenworks_k66_texts_of_ratios.Holds := by
  w_on; o_law
  refine HandSHeadRun.head_any (r := OpenLaw.row PySem.Challenge.rw_wardenworks_k66_texts_of_ratios) (q := view (OpenLaw.row PySem.Challenge.rw_wardenworks_k66_texts_of_ratios).prog [13]) (H := K66.hk) (ob := K66.ob) (M := 620) (loose := K66.loose) (d := HandSHeadRun.topDef (OpenLaw.row PySem.Challenge.rw_wardenworks_k66_texts_of_ratios).prog 13) (kwd := []) K66.ob_eq
    (by kernel_rfl) (fun s => by kernel_rfl) K66.run (by kernel_rfl) (by kernel_rfl) (by kernel_rfl) (by rfl) (by first | assumption | decide +kernel) (by decide +kernel) ⟨rfl, rfl, rfl, rfl, rfl, by decide +kernel⟩ ?hw ?hc
  case hw => w_witness2
  case hc =>
    refine L2.walk_ofE (l := PySem.Challenge.rw_wardenworks_k66_texts_of_ratios) (n := 63) (k := 9) (x := "script") (CX := L2.CX0) rfl (by decide) (by kernel_rfl) ⟨rfl, by decide, by decide⟩ ?F (fun _ _ _ _ z => z)
    intro w mg fa h Y G hmg0
    obtain ⟨K, KX, c⟩ := Y
    have hmg : mg ("law" : PySem.Str) = some (.ref fa) := by
      have e : (HandSHeadRun.topDef (OpenLaw.row PySem.Challenge.rw_wardenworks_k66_texts_of_ratios).prog 13).name = ("law" : PySem.Str) := by kernel_rfl
      rw [← e]
      exact hmg0
    obtain ⟨fd, hb, hF⟩ := K66.facts (P := (PySem.Challenge.rw_wardenworks_k66_texts_of_ratios).prog) (w := w) KX G hmg c
    exact Lw.law_end KX hb K66.law_true hF


