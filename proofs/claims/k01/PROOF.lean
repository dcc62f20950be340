import PyProof.Rows.All
import Wide.All
import OpenK.AllK
import Wide.FinOn
import HandS.Base
import HandS.Call
import HandS.List
import HandS.Comp
import HandS.Ends
import HandS.Dict
import HandS.Iter
import HandS.Words
import HandS.WordsList
import HandS.TupAny
import HandS.Style
import HandS.Gcd
import HandS.TupMul
import HandS.HeadHook4
import HandS.HeadWalk
import HandS.ExcIs
import KE.KExcIs
import HandS.ExcField
import HandS.Exc
import HandS.ExcOwn
import HandS.ExcInit
import HandS.IsInst
import HandS.Wide
import KE.KStateDown
import HandS.Head0
import HandS.Head1
import HandS.Head2
import HandS.Head3
import PySem.Challenge.RW_oneplus_k01_errors_as_told
set_option Elab.async false
set_option linter.all false
set_option maxRecDepth 100000
set_option maxHeartbeats 4000000
/-! Mir, part 1: pure values, how they lie in a heap, a frame's state. -/
namespace Mir
open PySem PySem.Spec PyProof.Rows L2

/-- a pure value -/
inductive PV where
  | non | bl (b : Bool) | int (i : Int) | str (x : Str)
  | tup (xs : List PV) | lst (xs : List PV)
  | dic (kvs : List (Key × PV))
  | ins (c : Nat) (fs : List (Str × PV))
  | fn (f : Nat)

/-- what is fixed through a law: the program, the world, the written part, the module's names; where its defs and classes stand -/
structure Wd where
  P : Program
  wd : World
  K : PySem.W.Frag
  mg : Str → Option Value
  base : Heap
  fa : Nat → Addr
  ca : Nat → Addr

section
variable (w : Wd) (G : Hp)
mutual
def Rep : PV → V → Prop
  | .non, v => v = .non
  | .bl b, v => v = .bl b
  | .int i, v => v = .int i
  | .str x, v => v = .str x
  | .tup xs, v => ∃ a vs, v = .ref a ∧ SqT w.K G a vs ∧ RepL xs vs
  | .lst xs, v => ∃ a vs, v = .ref a ∧ G a = some (.lst vs) ∧ RepL xs vs
  | .dic kvs, v => ∃ a ws, v = .ref a ∧ G a = some (.dK ws) ∧ RepK kvs ws
  | .ins c fs, v => ∃ a dx ws, v = .ref a ∧ G a = some (.ins (w.ca c) dx ws) ∧ RepF fs ws
  | .fn f, v => v = .ref (w.fa f)
def RepL : List PV → List V → Prop
  | [], vs => vs = []
  | x :: xs, vs => ∃ v ws, vs = v :: ws ∧ Rep x v ∧ RepL xs ws
def RepK : List (Key × PV) → List (Key × V) → Prop
  | [], vs => vs = []
  | (k, x) :: xs, vs => ∃ v ws, vs = (k, v) :: ws ∧ Rep x v ∧ RepK xs ws
def RepF : List (Str × PV) → List (Str × V) → Prop
  | [], vs => vs = []
  | (k, x) :: xs, vs => ∃ v ws, vs = (k, v) :: ws ∧ Rep x v ∧ RepF xs ws
end
end

/-- all stays -/
abbrev Sub (G G' : Hp) : Prop := ∀ a o, G a = some o → G' a = some o
theorem Sub.refl (G : Hp) : Sub G G := fun _ _ h => h
theorem Sub.trans {A B C : Hp} (h : Sub A B) (k : Sub B C) : Sub A C := fun a o e => k a o (h a o e)
theorem Sub.rd {G G' : Hp} {a : Addr} {u : HO} (e : Sub G G') (h : Rd G a u) : Rd G' a u := by
  rcases h with h | ⟨o, h⟩
  · exact .inl (e a _ h)
  · exact .inr ⟨o, e a _ h⟩
theorem Sub.sqL {K : PySem.W.Frag} {G G' : Hp} {a : Addr} {xs : List V} (e : Sub G G') (h : SqL K G a xs) : SqL K G' a xs := by
  rcases h with h | h
  · exact .inl (e.rd h)
  · exact .inr h
theorem Sub.sqT {K : PySem.W.Frag} {G G' : Hp} {a : Addr} {xs : List V} (e : Sub G G') (h : SqT K G a xs) : SqT K G' a xs := by
  rcases h with h | h
  · exact .inl (e.rd h)
  · exact .inr h
theorem Sub.new {G : Hp} {p : Addr} {o : HO} (h : G p = none) : Sub G (upd G p o) := fun a u e => by
  rw [upd_ne (ne_of_none e h)]
  exact e

section
variable {w : Wd} {G G' : Hp}
mutual
theorem Rep.mono (e : Sub G G') : ∀ (x : PV) (v : V), Rep w G x v → Rep w G' x v
  | .non, v, h => h
  | .bl _, v, h => h
  | .int _, v, h => h
  | .str _, v, h => h
  | .tup xs, v, ⟨a, vs, h1, h2, h3⟩ => ⟨a, vs, h1, e.sqT h2, RepL.mono e xs vs h3⟩
  | .lst xs, v, ⟨a, vs, h1, h2, h3⟩ => ⟨a, vs, h1, e _ _ h2, RepL.mono e xs vs h3⟩
  | .dic xs, v, ⟨a, vs, h1, h2, h3⟩ => ⟨a, vs, h1, e _ _ h2, RepK.mono e xs vs h3⟩
  | .ins c xs, v, ⟨a, dx, vs, h1, h2, h3⟩ => ⟨a, dx, vs, h1, e _ _ h2, RepF.mono e xs vs h3⟩
  | .fn _, v, h => h
theorem RepL.mono (e : Sub G G') : ∀ (x : List PV) (v : List V), RepL w G x v → RepL w G' x v
  | [], _, h => h
  | x :: xs, _, ⟨v, ws, h1, h2, h3⟩ => ⟨v, ws, h1, Rep.mono e x v h2, RepL.mono e xs ws h3⟩
theorem RepK.mono (e : Sub G G') : ∀ (x : List (Key × PV)) (v : List (Key × V)), RepK w G x v → RepK w G' x v
  | [], _, h => h
  | (k, x) :: xs, _, ⟨v, ws, h1, h2, h3⟩ => ⟨v, ws, h1, Rep.mono e x v h2, RepK.mono e xs ws h3⟩
theorem RepF.mono (e : Sub G G') : ∀ (x : List (Str × PV)) (v : List (Str × V)), RepF w G x v → RepF w G' x v
  | [], _, h => h
  | (k, x) :: xs, _, ⟨v, ws, h1, h2, h3⟩ => ⟨v, ws, h1, Rep.mono e x v h2, RepF.mono e xs ws h3⟩
end
theorem RepL.length : ∀ {xs : List PV} {vs : List V}, RepL w G xs vs → vs.length = xs.length
  | [], _, h => by cases h; rfl
  | x :: xs, _, ⟨v, ws, h1, _, h3⟩ => by subst h1; simp [RepL.length h3]
theorem RepL.get : ∀ {xs : List PV} {vs : List V} {i : Nat} {v : V}, RepL w G xs vs → vs[i]? = some v → ∃ x, xs[i]? = some x ∧ Rep w G x v
  | [], _, i, v, h, e => by cases h; simp at e
  | x :: xs, _, 0, v, ⟨v', ws, h1, h2, h3⟩, e => by subst h1; simp at e; subst e; exact ⟨x, rfl, h2⟩
  | x :: xs, _, i + 1, v, ⟨v', ws, h1, h2, h3⟩, e => by
    subst h1
    obtain ⟨y, e1, e2⟩ := RepL.get (i := i) (v := v) h3 (by simpa using e)
    exact ⟨y, by simpa using e1, e2⟩
theorem RepL.at : ∀ {xs : List PV} {vs : List V} {i : Nat} {x : PV}, RepL w G xs vs → xs[i]? = some x → ∃ v, vs[i]? = some v ∧ Rep w G x v
  | [], _, i, v, h, e => by simp at e
  | x :: xs, _, 0, v, ⟨v', ws, h1, h2, h3⟩, e => by subst h1; simp at e; subst e; exact ⟨v', rfl, h2⟩
  | x :: xs, _, i + 1, v, ⟨v', ws, h1, h2, h3⟩, e => by
    subst h1
    obtain ⟨y, e1, e2⟩ := RepL.at (i := i) (x := v) h3 (by simpa using e)
    exact ⟨y, by simpa using e1, e2⟩
theorem RepL.append : ∀ {xs ys : List PV} {vs us : List V}, RepL w G xs vs → RepL w G ys us → RepL w G (xs ++ ys) (vs ++ us)
  | [], _, _, _, h, k => by cases h; exact k
  | x :: xs, _, _, _, ⟨v', ws, h1, h2, h3⟩, k => by subst h1; exact ⟨v', ws ++ _, rfl, h2, RepL.append h3 k⟩
theorem RepL.one {x : PV} {v : V} (h : Rep w G x v) : RepL w G [x] [v] := ⟨v, [], rfl, h, rfl⟩
theorem RepL.set : ∀ {xs : List PV} {vs : List V} {x : PV} {v : V} (i : Nat), RepL w G xs vs → Rep w G x v → RepL w G (xs.set i x) (vs.set i v)
  | [], _, _, _, _, h, _ => by cases h; rfl
  | y :: xs, _, x, v, 0, ⟨v', ws, h1, h2, h3⟩, k => by subst h1; exact ⟨v, ws, rfl, k, h3⟩
  | y :: xs, _, x, v, i + 1, ⟨v', ws, h1, h2, h3⟩, k => by subst h1; exact ⟨v', ws.set i v, rfl, h2, RepL.set i h3 k⟩
theorem RepL.take : ∀ {xs : List PV} {vs : List V} (n : Nat), RepL w G xs vs → RepL w G (xs.take n) (vs.take n)
  | [], _, n, h => by cases h; simp [RepL]
  | x :: xs, _, 0, h => rfl
  | x :: xs, _, n + 1, ⟨v', ws, h1, h2, h3⟩ => by subst h1; exact ⟨v', ws.take n, rfl, h2, RepL.take n h3⟩
theorem RepL.drop : ∀ {xs : List PV} {vs : List V} (n : Nat), RepL w G xs vs → RepL w G (xs.drop n) (vs.drop n)
  | [], _, n, h => by cases h; simp [RepL]
  | x :: xs, _, 0, h => h
  | x :: xs, _, n + 1, ⟨v', ws, h1, h2, h3⟩ => by subst h1; exact RepL.drop n h3
theorem RepL.ints {ns : List Int} : RepL w G (ns.map PV.int) (ns.map V.int) := by
  induction ns with
  | nil => rfl
  | cons n r ih => exact ⟨_, _, rfl, rfl, ih⟩
theorem RepF.lookup : ∀ {xs : List (Str × PV)} {vs : List (Str × V)} {f : Str} {x : PV}, RepF w G xs vs → xs.lookup f = some x → ∃ v, vs.lookup f = some v ∧ Rep w G x v
  | [], _, _, _, _, e => by cases e
  | (k, y) :: xs, _, f, x, ⟨v, ws, h1, h2, h3⟩, e => by
    subst h1
    by_cases hf : f = k
    · subst hf
      simp [List.lookup] at e ⊢
      subst e
      exact h2
    · have hb : (f == k) = false := by simpa using hf
      simp [List.lookup, hb] at e ⊢
      exact RepF.lookup h3 e
end

/-! ### the source of draws -/
structure Pen where
  cells : List Int
  at_ : Nat
  digits : Int
  count : Int
  fold : Int
def Pen.Ok (s : Pen) : Prop := s.at_ ≤ s.cells.length ∧ s.cells.length ≤ 1000 ∧ 0 ≤ s.digits
def penKs (l : Addr) (s : Pen) : List (Key × V) :=
  [(.inr "cells", .ref l), (.inr "at", .int s.at_), (.inr "digits", .int s.digits), (.inr "count", .int s.count), (.inr "fold", .int s.fold)]
def PenAt (K : PySem.W.Frag) (G H : Hp) (p : Addr) (s : Pen) : Prop :=
  ∃ l, H p = some (.dK (penKs l s)) ∧ SqL K G l (s.cells.map V.int) ∧ s.Ok
theorem PenAt.there {K : PySem.W.Frag} {G H : Hp} {p : Addr} {s : Pen} (h : PenAt K G H p s) : H p ≠ none := by
  obtain ⟨l, e, _⟩ := h
  rw [e]; simp

/-! ### what a run may do to the heap: G the frozen part, H the whole -/
structure Grow (p : Addr) (G H G' H' : Hp) : Prop where
  g : Sub G G'
  n : ∀ a o, G' a = some o → G a = some o ∨ H a = none
  k : ∀ a o, a ≠ p → H a = some o → H' a = some o
  d : ∀ a, H a ≠ none → H' a ≠ none
theorem Grow.refl (p : Addr) (G H : Hp) : Grow p G H G H := ⟨Sub.refl G, fun _ _ h => .inl h, fun _ _ _ h => h, fun _ h => h⟩
theorem Grow.trans {p : Addr} {G H G1 H1 G2 H2 : Hp} (a : Grow p G H G1 H1) (b : Grow p G1 H1 G2 H2) : Grow p G H G2 H2 :=
  ⟨a.g.trans b.g, fun x o e => by
    rcases b.n x o e with e1 | e1
    · exact a.n x o e1
    · refine .inr ?_
      cases q : H x with
      | none => rfl
      | some u => exact absurd e1 (a.d x (by rw [q]; simp)),
   fun x o ne e => b.k x o ne (a.k x o ne e), fun x ne => b.d x (a.d x ne)⟩
/-- what is new stands apart -/
theorem Grow.fresh {p : Addr} {G H G' H' : Hp} {a : Addr} {o : HO} (g : Grow p G H G' H') (h1 : G a = none) (h2 : H a = some o) : G' a = none := by
  cases q : G' a with
  | none => rfl
  | some u =>
    rcases g.n a u q with e | e
    · rw [h1] at e; cases e
    · rw [h2] at e; cases e
/-- a new object is laid, frozen -/
theorem Grow.laid {p : Addr} {G H : Hp} {a : Addr} {o : HO} (hg : G a = none) (hh : H a = none) : Grow p G H (upd G a o) (upd H a o) where
  g := Sub.new hg
  n := fun x u e => by
    by_cases hx : x = a
    · subst hx; exact .inr hh
    · rw [upd_ne hx] at e; exact .inl e
  k := fun x u _ e => by rw [upd_ne (ne_of_none e hh)]; exact e
  d := fun x ne => by
    by_cases hx : x = a
    · subst hx; exact absurd hh ne
    · rw [upd_ne hx]; exact ne
/-- a new object is laid, not frozen -/
theorem Grow.held {p : Addr} {G H : Hp} {a : Addr} {o : HO} (hh : H a = none) : Grow p G H G (upd H a o) where
  g := Sub.refl G
  n := fun x u e => .inl e
  k := fun x u _ e => by rw [upd_ne (ne_of_none e hh)]; exact e
  d := fun x ne => by
    by_cases hx : x = a
    · subst hx; exact absurd hh ne
    · rw [upd_ne hx]; exact ne

/-- something new is frozen -/
theorem Grow.frz {p : Addr} {G H G' H' : Hp} {a : Addr} {o : HO} (g : Grow p G H G' H') (h : H a = none) (hg : G' a = none) : Grow p G H (upd G' a o) H' where
  g := g.g.trans (Sub.new hg)
  n := fun x u e => by
    by_cases hx : x = a
    · subst hx; exact .inr h
    · rw [upd_ne hx] at e; exact g.n x u e
  k := g.k
  d := g.d

/-! ### a frame -/
/-- what a name holds: a pure value, the pen, a caught exception, a list of one's own -/
inductive SV where
  | pv (x : PV)
  | pen
  | err (c : Nat) (fs : List (Str × PV))
  | ol (xs : List PV)
abbrev Env := List (Option SV)
/-- the caught exceptions: where, of which class, its dict -/
abbrev Ex := List (Addr × Value × Option Addr)
/-- the entry of a def's run -/
structure Fr0 where
  p : Addr
  G0 : Hp
  H0 : Hp
/-- the fields of an exception -/
def XdR (w : Wd) (G : Hp) (fs : List (Str × PV)) (d : Option Addr) : Prop :=
  (fs = [] ∧ d = none) ∨ ∃ dd ws, d = some dd ∧ G dd = some (.xd ws) ∧ ∀ f x, fs.lookup f = some x → ∃ v, ws.lookup f = some v ∧ Rep w G x v
theorem XdR.mono {w : Wd} {G G' : Hp} {fs : List (Str × PV)} {d : Option Addr} (e : Sub G G') (h : XdR w G fs d) : XdR w G' fs d := by
  rcases h with h | ⟨dd, ws, h1, h2, h3⟩
  · exact .inl h
  · exact .inr ⟨dd, ws, h1, e _ _ h2, fun f x hx => let ⟨v, e1, e2⟩ := h3 f x hx; ⟨v, e1, Rep.mono e x v e2⟩⟩
def Sr (w : Wd) (ex : Ex) (p : Addr) (O : Nat → Addr) (i : Nat) (G H : Hp) : Option SV → Option V → Prop
  | none, _ => True
  | some (.pv x), s => ∃ v, s = some v ∧ Rep w G x v
  | some .pen, s => s = some (.ref p)
  | some (.err c fs), s => ∃ a d, s = some (.ref a) ∧ (a, Value.ref (w.ca c), d) ∈ ex ∧ XdR w G fs d
  | some (.ol xs), s => ∃ vs, s = some (.ref (O i)) ∧ H (O i) = some (.lst vs) ∧ RepL w G xs vs
structure Bd (w : Wd) (ex : Ex) (F : Fr0) (env : Env) (O : Nat → Addr) (σ : L2.St) (G H : Hp) (st : Pen) : Prop where
  sub : Sub G H
  np : G F.p = none
  pen : PenAt w.K G H F.p st
  gr : Grow F.p F.G0 F.H0 G H
  len : σ.length = env.length
  sl : ∀ i, Sr w ex F.p O i G H (env.getD i none) (σ.getD i none)
  ow : ∀ i xs, env.getD i none = some (.ol xs) → G (O i) = none ∧ F.H0 (O i) = none ∧ O i ≠ F.p
  inj : ∀ i j xs ys, env.getD i none = some (.ol xs) → env.getD j none = some (.ol ys) → O i = O j → i = j

/-! ### results -/
inductive Res (α : Type) where
  | ok (a : α) (st : Pen)
  | exn (c : Nat) (fs : List (Str × PV)) (st : Pen)
  | bad
inductive RS where
  | nx (env : Env) (st : Pen)
  | rt (r : PV) (st : Pen)
  | bk (env : Env) (st : Pen)
  | ct (env : Env) (st : Pen)
  | exn (c : Nat) (fs : List (Str × PV)) (env : Env) (st : Pen)
  | bad
def Res.bind {α β : Type} (r : Res α) (f : α → Pen → Res β) : Res β := match r with
  | .ok a st => f a st
  | .exn c fs st => .exn c fs st
  | .bad => .bad
abbrev ME := Env → Pen → Res PV
abbrev MA := Env → Pen → Res (List PV)
abbrev MT := Env → Pen → Res Bool
abbrev MS := Env → Pen → RS
end Mir

/-! Mir, part 2: what an expression's run is worth; frames' lemmas. -/
namespace Mir
open PySem PySem.Spec PyProof.Rows L2

structure CC where
  sc : Scope
  N : List Str
  hot : Bool
  fnAll : Bool

/-- room to run, whatever is handled -/
structure RoomH (k : Nat) (A : Around) : Prop where
  dp : A.depth + 3 * k + 5 < recursionLimit
  un : A.units + 16 * k + 200 < cLine
  gd : A.guards = some []
theorem RoomH.mono {j k : Nat} {A : Around} (r : RoomH k A) (h : j ≤ k) : RoomH j A := ⟨by have := r.dp; omega, by have := r.un; omega, r.gd⟩
theorem RoomH.units {k : Nat} {A : Around} (r : RoomH k A) : A.units + 64 < cLine := by have := r.un; omega

structure CtxOk (w : Wd) (cc : CC) (n : Nat) (ex : Ex) (W : WX) (X : Cx) : Prop where
  P : X.prog = w.P
  wd : X.w = w.wd
  K : X.K = w.K
  mg : X.mg = w.mg
  base : X.base = w.base
  sc : X.env.scope = cc.sc
  N : X.N = cc.N
  nd : cc.N.Nodup
  kind : cc.sc.kind = .function
  calm : cc.hot = false → X.calm = true ∧ ex = []
  fn : cc.fnAll = true → ∀ x, X.fn x = true
  room : RoomH n X.A
  tk : Takes X W
  ex : ∀ q ∈ ex, ∃ oe, (q.1, oe) ∈ X.pn ∧ Zc q.2.1 q.2.2 oe ∧ ∃ vs, oe.data = .fields vs

/-- the end of a run of an expression -/
def Good (w : Wd) (ex : Ex) (F : Fr0) (env : Env) (O : Nat → Addr) (σ : L2.St) (W : WX) (G H : Hp) {α : Type} (k : α → Pen → Hp → Hp → Prop) : Res α → Prop
  | .ok a st => ∀ G' H', Bd w ex F env O σ G' H' st → Grow F.p G H G' H' → k a st G' H'
  | .exn c fs st => ∀ G' H' d, Bd w ex F env O σ G' H' st → Sub G G' → XdR w G' fs d → W (.ref (w.ca c)) d σ H'
  | .bad => False

section
variable {w : Wd} {ex : Ex} {F : Fr0} {env : Env} {O : Nat → Addr} {σ : L2.St} {W : WX} {G H G1 H1 : Hp} {st : Pen} {α β : Type}
theorem Good.imp {k k' : α → Pen → Hp → Hp → Prop} {r : Res α} (f : ∀ a st G' H', Bd w ex F env O σ G' H' st → Grow F.p G H G' H' → k a st G' H' → k' a st G' H') (h : Good w ex F env O σ W G H k r) : Good w ex F env O σ W G H k' r := by
  cases r with
  | ok a st => exact fun G' H' b g => f a st G' H' b g (h G' H' b g)
  | exn c fs st => exact h
  | bad => exact h
/-- from a later place -/
theorem Good.later {k : α → Pen → Hp → Hp → Prop} {r : Res α} (gr : Grow F.p G H G1 H1) (h : Good w ex F env O σ W G H k r) : Good w ex F env O σ W G1 H1 k r := by
  cases r with
  | ok a st => exact fun G' H' b g => h G' H' b (gr.trans g)
  | exn c fs st => exact fun G' H' d b g => h G' H' d b (gr.g.trans g)
  | bad => exact h
theorem Good.bind {k : β → Pen → Hp → Hp → Prop} {r : Res α} {f : α → Pen → Res β} (h : Good w ex F env O σ W G H k (r.bind f)) :
    Good w ex F env O σ W G H (fun a st1 G1 H1 => Good w ex F env O σ W G1 H1 k (f a st1)) r := by
  cases r with
  | ok a st => exact fun G' H' b g => Good.later g h
  | exn c fs st => exact h
  | bad => exact h
theorem Good.bind0 {k : β → Pen → Hp → Hp → Prop} {r : Res α} {f : α → Pen → Res β} (h : Good w ex F env O σ W G H k (r.bind f)) :
    Good w ex F env O σ W G H (fun a st1 G1 H1 => Good w ex F env O σ W G H k (f a st1)) r := by
  cases r with
  | ok a st => exact fun G' H' b g => h
  | exn c fs st => exact h
  | bad => exact h
theorem Good.here {k : α → Pen → Hp → Hp → Prop} {a : α} (h : Good w ex F env O σ W G H k (.ok a st)) (b : Bd w ex F env O σ G H st) : k a st G H := h G H b (Grow.refl _ _ _)

/-! ### frames -/
theorem Bd.free {a : Addr} (b : Bd w ex F env O σ G H st) (h : H a = none) : G a = none := by
  cases q : G a with
  | none => rfl
  | some u => rw [b.sub a u q] at h; cases h
theorem Bd.nep {a : Addr} (b : Bd w ex F env O σ G H st) (h : H a = none) : a ≠ F.p := fun e => b.pen.there (e ▸ h)
theorem Bd.h0 {a : Addr} (b : Bd w ex F env O σ G H st) (h : H a = none) : F.H0 a = none := by
  cases q : F.H0 a with
  | none => rfl
  | some u => exact absurd h (b.gr.d a (by rw [q]; simp))
theorem Bd.own {i : Nat} {xs : List PV} (b : Bd w ex F env O σ G H st) (e : env.getD i none = some (.ol xs)) : ∃ vs, H (O i) = some (.lst vs) ∧ σ.getD i none = some (.ref (O i)) ∧ RepL w G xs vs := by
  have h := b.sl i
  rw [e] at h
  obtain ⟨vs, h1, h2, h3⟩ := h
  exact ⟨vs, h2, h1, h3⟩
theorem Sr.mono {p : Addr} {i : Nat} {G' H' : Hp} {s : Option SV} {v : Option V} (e : Sub G G') (hO : ∀ xs, s = some (.ol xs) → H' (O i) = H (O i)) (h : Sr w ex p O i G H s v) : Sr w ex p O i G' H' s v := by
  cases s with
  | none => trivial
  | some s =>
    cases s with
    | pv x => obtain ⟨v, h1, h2⟩ := h; exact ⟨v, h1, Rep.mono e x v h2⟩
    | pen => exact h
    | err c fs => obtain ⟨a, d, h1, h2, h3⟩ := h; exact ⟨a, d, h1, h2, h3.mono e⟩
    | ol xs => obtain ⟨vs, h1, h2, h3⟩ := h; exact ⟨vs, h1, (hO xs rfl).trans h2, RepL.mono e xs vs h3⟩
theorem PenAt.mono {K : PySem.W.Frag} {G' H' : Hp} {p : Addr} (e : Sub G G') (hp : H' p = H p) (h : PenAt K G H p st) : PenAt K G' H' p st := by
  obtain ⟨l, h1, h2, h3⟩ := h
  exact ⟨l, hp.trans h1, e.sqL h2, h3⟩
/-- a new object, frozen -/
theorem Bd.laid {a : Addr} {o : HO} (b : Bd w ex F env O σ G H st) (h : H a = none) : Bd w ex F env O σ (upd G a o) (upd H a o) st where
  sub := fun x u e => by
    by_cases hx : x = a
    · subst hx; rw [upd_same] at e ⊢; exact e
    · rw [upd_ne hx] at e ⊢; exact b.sub x u e
  np := by rw [upd_ne (b.nep h).symm]; exact b.np
  pen := b.pen.mono (Sub.new (b.free h)) (upd_ne (b.nep h).symm)
  gr := b.gr.trans (Grow.laid (b.free h) h)
  len := b.len
  sl := fun i => (b.sl i).mono (Sub.new (b.free h)) fun xs e => by
    obtain ⟨vs, h1, _⟩ := b.own e
    exact upd_ne (ne_of_none h1 h)
  ow := fun i xs e => by
    obtain ⟨vs, h1, _⟩ := b.own e
    obtain ⟨k1, k2, k3⟩ := b.ow i xs e
    exact ⟨by rw [upd_ne (ne_of_none h1 h)]; exact k1, k2, k3⟩
  inj := b.inj
/-- a new object, not frozen -/
theorem Bd.held {a : Addr} {o : HO} (b : Bd w ex F env O σ G H st) (h : H a = none) : Bd w ex F env O σ G (upd H a o) st where
  sub := fun x u e => by
    have hx : x ≠ a := fun z => by subst z; rw [b.free h] at e; cases e
    rw [upd_ne hx]; exact b.sub x u e
  np := b.np
  pen := b.pen.mono (Sub.refl G) (upd_ne (b.nep h).symm)
  gr := b.gr.trans (Grow.held h)
  len := b.len
  sl := fun i => (b.sl i).mono (Sub.refl G) fun xs e => by
    obtain ⟨vs, h1, _⟩ := b.own e
    exact upd_ne (ne_of_none h1 h)
  ow := b.ow
  inj := b.inj
/-- an object that stands, not of ours, is frozen -/
theorem Bd.freeze {a : Addr} {o : HO} (b : Bd w ex F env O σ G H st) (ha : H a = some o) (h0 : F.H0 a = none) (hp : a ≠ F.p) (hO : ∀ i xs, env.getD i none = some (.ol xs) → O i ≠ a) (hg : G a = none) : Bd w ex F env O σ (upd G a o) H st where
  sub := fun x u e => by
    by_cases hx : x = a
    · subst hx; rw [upd_same] at e; rw [ha]; exact e
    · rw [upd_ne hx] at e; exact b.sub x u e
  np := by rw [upd_ne hp.symm]; exact b.np
  pen := b.pen.mono (Sub.new hg) rfl
  gr := ⟨b.gr.g.trans (Sub.new hg), fun x u e => by
    by_cases hx : x = a
    · subst hx; exact .inr h0
    · rw [upd_ne hx] at e; exact b.gr.n x u e, b.gr.k, b.gr.d⟩
  len := b.len
  sl := fun i => (b.sl i).mono (Sub.new hg) fun xs e => rfl
  ow := fun i xs e => by
    obtain ⟨k1, k2, k3⟩ := b.ow i xs e
    exact ⟨by rw [upd_ne (hO i xs e)]; exact k1, k2, k3⟩
  inj := b.inj
theorem getD_some {α : Type} {l : List (Option α)} {i : Nat} {x : α} (h : l.getD i none = some x) : l[i]? = some (some x) := by
  rw [List.getD_eq_getElem?_getD] at h
  cases q : l[i]? with
  | none => rw [q] at h; cases h
  | some y => rw [q] at h; simp at h; rw [h]
end

/-! ### the judgements -/
/-- an expression -/
def SE (w : Wd) (cc : CC) (n : Nat) (ex : Ex) (W : WX) (e : Expr) (m : ME) : Prop :=
  ∃ t : TE, (∀ X, CtxOk w cc n ex W X → PE X e t) ∧ ∀ (F : Fr0) (env : Env) (O : Nat → Addr) (σ : L2.St) (G H : Hp) (st : Pen), Bd w ex F env O σ G H st → ∀ Q : VK,
    Good w ex F env O σ W G H (fun r _ G' H' => ∀ v, Rep w G' r v → Q v H') (m env st) → t σ H Q
/-- an expression whose value is a new list -/
def SL (w : Wd) (cc : CC) (n : Nat) (ex : Ex) (W : WX) (e : Expr) (m : MA) : Prop :=
  ∃ t : TE, (∀ X, CtxOk w cc n ex W X → PE X e t) ∧ ∀ (F : Fr0) (env : Env) (O : Nat → Addr) (σ : L2.St) (G H : Hp) (st : Pen), Bd w ex F env O σ G H st → ∀ Q : VK,
    Good w ex F env O σ W G H (fun xs _ G' H' => ∀ a vs, H' a = some (.lst vs) → H a = none → RepL w G' xs vs → G' a = none → Q (.ref a) H') (m env st) → t σ H Q
/-- an argument: a value, the pen, a caught exception -/
def SvR (w : Wd) (ex : Ex) (p : Addr) (G : Hp) : SV → V → Prop
  | .pv x, v => Rep w G x v
  | .pen, v => v = .ref p
  | .err c fs, v => ∃ a d, v = .ref a ∧ (a, Value.ref (w.ca c), d) ∈ ex ∧ XdR w G fs d
  | .ol _, _ => False
def SvL (w : Wd) (ex : Ex) (p : Addr) (G : Hp) : List SV → List V → Prop
  | [], vs => vs = []
  | s :: ss, vs => ∃ v ws, vs = v :: ws ∧ SvR w ex p G s v ∧ SvL w ex p G ss ws
theorem SvR.mono {w : Wd} {ex : Ex} {p : Addr} {G G' : Hp} (e : Sub G G') : ∀ {s : SV} {v : V}, SvR w ex p G s v → SvR w ex p G' s v
  | .pv x, v, h => Rep.mono e x v h
  | .pen, v, h => h
  | .err c fs, v, ⟨a, d, h1, h2, h3⟩ => ⟨a, d, h1, h2, h3.mono e⟩
  | .ol _, _, h => h
theorem SvL.mono {w : Wd} {ex : Ex} {p : Addr} {G G' : Hp} (e : Sub G G') : ∀ {s : List SV} {v : List V}, SvL w ex p G s v → SvL w ex p G' s v
  | [], _, h => h
  | s :: ss, _, ⟨v, ws, h1, h2, h3⟩ => ⟨v, ws, h1, h2.mono e, SvL.mono e h3⟩
theorem SvL.length {w : Wd} {ex : Ex} {p : Addr} {G : Hp} : ∀ {s : List SV} {v : List V}, SvL w ex p G s v → v.length = s.length
  | [], _, h => by cases h; rfl
  | s :: ss, _, ⟨v, ws, h1, h2, h3⟩ => by subst h1; simp [SvL.length h3]
/-- the plain ones -/
def plains : List SV → Option (List PV)
  | [] => some []
  | .pv x :: ss => (plains ss).map (x :: ·)
  | _ :: _ => none
theorem SvL.plain {w : Wd} {ex : Ex} {p : Addr} {G : Hp} : ∀ {s : List SV} {v : List V} {xs : List PV}, SvL w ex p G s v → plains s = some xs → RepL w G xs v
  | [], _, _, h, e => by cases e; exact h
  | .pv x :: ss, _, xs, ⟨v, ws, h1, h2, h3⟩, e => by
    cases q : plains ss with
    | none => simp [plains, q] at e
    | some ys =>
      simp [plains, q] at e
      subst e
      exact ⟨v, ws, h1, h2, SvL.plain h3 q⟩
  | .pen :: _, _, _, _, e => by simp [plains] at e
  | .err _ _ :: _, _, _, _, e => by simp [plains] at e
  | .ol _ :: _, _, _, _, e => by simp [plains] at e
abbrev MSv := Env → Pen → Res (List SV)
abbrev MV := Env → Pen → Res SV
/-- an argument -/
def SV1 (w : Wd) (cc : CC) (n : Nat) (ex : Ex) (W : WX) (e : Expr) (m : MV) : Prop :=
  ∃ t : TE, (∀ X, CtxOk w cc n ex W X → PE X e t) ∧ ∀ (F : Fr0) (env : Env) (O : Nat → Addr) (σ : L2.St) (G H : Hp) (st : Pen), Bd w ex F env O σ G H st → ∀ Q : VK,
    Good w ex F env O σ W G H (fun r _ G' H' => ∀ v, SvR w ex F.p G' r v → Q v H') (m env st) → t σ H Q
/-- arguments -/
def SA (w : Wd) (cc : CC) (n : Nat) (ex : Ex) (W : WX) (es : List Expr) (m : MSv) : Prop :=
  ∃ t : TA, (∀ X, CtxOk w cc n ex W X → PA X es t) ∧ ∀ (F : Fr0) (env : Env) (O : Nat → Addr) (σ : L2.St) (G H : Hp) (st : Pen), Bd w ex F env O σ G H st → ∀ Q : List V → Hp → Prop,
    Good w ex F env O σ W G H (fun r _ G' H' => ∀ vs, SvL w ex F.p G' r vs → Q vs H') (m env st) → t σ H Q
/-- a test -/
def ST (w : Wd) (cc : CC) (n : Nat) (ex : Ex) (W : WX) (e : Expr) (m : MT) : Prop :=
  ∃ t : TT, (∀ X, CtxOk w cc n ex W X → PT X e t) ∧ ∀ (F : Fr0) (env : Env) (O : Nat → Addr) (σ : L2.St) (G H : Hp) (st : Pen), Bd w ex F env O σ G H st → ∀ Q : Bool → Hp → Prop,
    Good w ex F env O σ W G H (fun r _ G' H' => Q r H') (m env st) → t σ H Q

/-! ### syntax facts -/
def star? : Expr → Bool
  | .Starred _ _ => true
  | _ => false
theorem starEach_cons {e : Expr} {es : List Expr} {env : PySem.Env} (h : star? e = false) : starEach (e :: es) env = (false, eval e env) :: starEach es env := by
  cases e <;> first | rfl | (simp [star?] at h)
theorem plain_args {pos : Pos} {env : PySem.Env} : ∀ {es : List Expr}, es.all (fun e => !star? e) = true → (backTo pos (starEach es env)).any (·.1) = false
  | [], _ => rfl
  | e :: es, h => by
    simp only [List.all_cons, Bool.and_eq_true, Bool.not_eq_true'] at h
    have ih := plain_args (pos := pos) (env := env) h.2
    rw [starEach_cons h.1]
    show (false || (backTo pos (starEach es env)).any (·.1)) = false
    rw [ih]; rfl
end Mir

/-! Mir, part 3: expressions without calls of the text's own. -/
namespace Mir
open PySem PySem.Spec PyProof.Rows L2

/-- a value that is looked at: as it is, or a list that may change later -/
def RepX (w : Wd) (G H : Hp) (x : PV) (v : V) : Prop := match x with
  | .lst xs => ∃ a vs, v = .ref a ∧ H a = some (.lst vs) ∧ RepL w G xs vs
  | x => Rep w G x v
def RepXL (w : Wd) (G H : Hp) : List PV → List V → Prop
  | [], vs => vs = []
  | x :: xs, vs => ∃ v ws, vs = v :: ws ∧ RepX w G H x v ∧ RepXL w G H xs ws
section
variable {w : Wd} {ex : Ex} {F : Fr0} {env : Env} {O : Nat → Addr} {σ : L2.St} {W : WX} {G H G1 H1 : Hp} {st : Pen}
theorem Rep.x {x : PV} {v : V} (s : Sub G H) (h : Rep w G x v) : RepX w G H x v := by
  cases x with
  | lst xs => obtain ⟨a, vs, h1, h2, h3⟩ := h; exact ⟨a, vs, h1, s _ _ h2, h3⟩
  | _ => exact h
theorem PenAt.nolist {K : PySem.W.Frag} {p : Addr} {a : Addr} {vs : List V} (h : PenAt K G H p st) (e : H a = some (.lst vs)) : a ≠ p := by
  obtain ⟨l, h1, _⟩ := h
  intro z; subst z
  rw [h1] at e; cases e
theorem RepX.later {x : PV} {v : V} {p : Addr} (g : Grow p G H G1 H1) (hp : PenAt w.K G H p st) (h : RepX w G H x v) : RepX w G1 H1 x v := by
  cases x with
  | lst xs => obtain ⟨a, vs, h1, h2, h3⟩ := h; exact ⟨a, vs, h1, g.k _ _ (hp.nolist h2) h2, RepL.mono g.g _ _ h3⟩
  | _ => exact Rep.mono g.g _ _ h
theorem RepXL.later {p : Addr} (g : Grow p G H G1 H1) (hp : PenAt w.K G H p st) : ∀ {x : List PV} {v : List V}, RepXL w G H x v → RepXL w G1 H1 x v
  | [], _, h => h
  | x :: xs, _, ⟨v, ws, h1, h2, h3⟩ => ⟨v, ws, h1, h2.later g hp, RepXL.later g hp h3⟩
end
/-- an expression whose value is looked at -/
def SX (w : Wd) (cc : CC) (n : Nat) (ex : Ex) (W : WX) (e : Expr) (m : ME) : Prop :=
  ∃ t : TE, (∀ X, CtxOk w cc n ex W X → PE X e t) ∧ ∀ (F : Fr0) (env : Env) (O : Nat → Addr) (σ : L2.St) (G H : Hp) (st : Pen), Bd w ex F env O σ G H st → ∀ Q : VK,
    Good w ex F env O σ W G H (fun r _ G' H' => ∀ v, RepX w G' H' r v → Q v H') (m env st) → t σ H Q
def mV (m : ME) : MV := fun env st => (m env st).bind fun x st => .ok (.pv x) st
def mLE (m : MA) : ME := fun env st => (m env st).bind fun x st => .ok (.lst x) st
def SXA (w : Wd) (cc : CC) (n : Nat) (ex : Ex) (W : WX) (es : List Expr) (m : MA) : Prop :=
  ∃ t : TA, (∀ X, CtxOk w cc n ex W X → PA X es t) ∧ ∀ (F : Fr0) (env : Env) (O : Nat → Addr) (σ : L2.St) (G H : Hp) (st : Pen), Bd w ex F env O σ G H st → ∀ Q : List V → Hp → Prop,
    Good w ex F env O σ W G H (fun r _ G' H' => ∀ vs, RepXL w G' H' r vs → Q vs H') (m env st) → t σ H Q

section
variable {w : Wd} {cc : CC} {n : Nat} {ex : Ex} {W : WX} {xe ye ze : Expr} {es : List Expr} {pos : Pos}
theorem SE.x {m : ME} (h : SE w cc n ex W xe m) : SX w cc n ex W xe m := by
  obtain ⟨t, h1, h2⟩ := h
  exact ⟨t, h1, fun F env O σ G H st bd Q hg => h2 F env O σ G H st bd Q (hg.imp fun a st G' H' b g k v r => k v (r.x b.sub))⟩
theorem SE.v {m : ME} (h : SE w cc n ex W xe m) : SV1 w cc n ex W xe (mV m) := by
  obtain ⟨t, h1, h2⟩ := h
  exact ⟨t, h1, fun F env O σ G H st bd Q hg => h2 F env O σ G H st bd Q (Good.imp (fun a st G' H' b g k v r => k.here b v r) hg.bind)⟩
/-- a new list is a value -/
theorem SL.e {m : MA} (h : SL w cc n ex W xe m) : SE w cc n ex W xe (mLE m) := by
  obtain ⟨t, h1, h2⟩ := h
  refine ⟨t, h1, fun F env O σ G H st bd Q hg => h2 F env O σ G H st bd Q (Good.imp (fun xs st G' H' b g k a vs ha hn hr hg' => ?_) hg.bind0)⟩
  have b' : Bd w ex F env O σ (upd G' a (.lst vs)) H' st := b.freeze ha (bd.h0 hn) (bd.nep hn) (fun i ys e z => by
    obtain ⟨us, q, _⟩ := bd.own e
    rw [z, hn] at q; cases q) hg'
  exact k _ _ b' (g.frz hn hg') (.ref a) ⟨a, vs, rfl, upd_same, RepL.mono (Sub.new hg') _ _ hr⟩
theorem SL.x {m : MA} (h : SL w cc n ex W xe m) : SX w cc n ex W xe (mLE m) := by
  obtain ⟨t, h1, h2⟩ := h
  refine ⟨t, h1, fun F env O σ G H st bd Q hg => h2 F env O σ G H st bd Q (Good.imp (fun xs st G' H' b g k a vs ha hn hr hg' => ?_) hg.bind0)⟩
  exact k _ _ b g (.ref a) ⟨a, vs, rfl, ha, hr⟩

/-! ### names, constants -/
def visB (sc : Scope) (x : Str) : Bool := match sc.names.lookup x with
  | some .local => true
  | some .cell => true
  | some .free => true
  | _ => false
theorem vis_of {sc : Scope} {x : Str} (h : visB sc x = true) : Vis sc x := by
  unfold visB at h
  split at h
  · exact .inl (by assumption)
  · exact .inr (.inl (by assumption))
  · exact .inr (.inr (by assumption))
  · cases h
def okName (x : Str) : Bool := !(x == ("__debug__" : Str)) && !(x == ("__classdict__" : Str)) && !(x == ("__name__" : Str))
theorem okN_d {x : Str} (h : okName x = true) : (x == ("__debug__" : Str)) = false := by
  unfold okName at h; simp only [Bool.and_eq_true, Bool.not_eq_true'] at h; exact h.1.1
theorem okN_c {x : Str} (h : okName x = true) : (x == ("__classdict__" : Str)) = false := by
  unfold okName at h; simp only [Bool.and_eq_true, Bool.not_eq_true'] at h; exact h.1.2
theorem okN_n {x : Str} (h : okName x = true) : x ≠ ("__name__" : Str) := by
  unfold okName at h; simp only [Bool.and_eq_true, Bool.not_eq_true'] at h; exact beq_eq_false_iff_ne.mp h.2
def varOk (cc : CC) (i : Nat) (s : Str) : Bool := decide (cc.N[i]? = some s) && visB cc.sc s && okName s
theorem pe_varM {s : Str} {i : Nat} {p : Pos} (h : varOk cc i s = true) : ∀ X, CtxOk w cc n ex W X → PE X (.Name s p) (tVar i) := fun X hX => by
  unfold varOk at h
  simp only [Bool.and_eq_true, decide_eq_true_eq] at h
  exact pe_var (by rw [hX.N]; exact h.1.1) (by rw [hX.sc]; exact vis_of h.1.2) (okN_d h.2) (okN_c h.2)
def mVar (i : Nat) : ME := fun env st => match env.getD i none with
  | some (.pv x) => .ok x st
  | _ => .bad
def mVarX (i : Nat) : ME := fun env st => match env.getD i none with
  | some (.pv x) => .ok x st
  | some (.ol xs) => .ok (.lst xs) st
  | _ => .bad
def mVarV (i : Nat) : MV := fun env st => match env.getD i none with
  | some (.ol _) => .bad
  | some s => .ok s st
  | none => .bad
theorem se_var {s : Str} {i : Nat} {p : Pos} (h : varOk cc i s = true) : SE w cc n ex W (.Name s p) (mVar i) := by
  refine ⟨tVar i, pe_varM h, fun F env O σ G H st bd Q hg => ?_⟩
  have hs := bd.sl i
  unfold mVar at hg
  cases e : env.getD i none with
  | none => rw [e] at hg; exact hg.elim
  | some sv =>
    rw [e] at hg hs
    cases sv with
    | pv x => obtain ⟨v, h1, h2⟩ := hs; exact ⟨v, getD_some h1, hg.here bd v h2⟩
    | _ => exact hg.elim
theorem sx_var {s : Str} {i : Nat} {p : Pos} (h : varOk cc i s = true) : SX w cc n ex W (.Name s p) (mVarX i) := by
  refine ⟨tVar i, pe_varM h, fun F env O σ G H st bd Q hg => ?_⟩
  have hs := bd.sl i
  unfold mVarX at hg
  cases e : env.getD i none with
  | none => rw [e] at hg; exact hg.elim
  | some sv =>
    rw [e] at hg hs
    cases sv with
    | pv x => obtain ⟨v, h1, h2⟩ := hs; exact ⟨v, getD_some h1, hg.here bd v (h2.x bd.sub)⟩
    | ol xs => obtain ⟨vs, h1, h2, h3⟩ := hs; exact ⟨_, getD_some h1, hg.here bd _ ⟨_, vs, rfl, h2, h3⟩⟩
    | _ => exact hg.elim
theorem sv_var {s : Str} {i : Nat} {p : Pos} (h : varOk cc i s = true) : SV1 w cc n ex W (.Name s p) (mVarV i) := by
  refine ⟨tVar i, pe_varM h, fun F env O σ G H st bd Q hg => ?_⟩
  have hs := bd.sl i
  unfold mVarV at hg
  cases e : env.getD i none with
  | none => rw [e] at hg; exact hg.elim
  | some sv =>
    rw [e] at hg hs
    cases sv with
    | pv x => obtain ⟨v, h1, h2⟩ := hs; exact ⟨v, getD_some h1, hg.here bd v h2⟩
    | pen => exact ⟨_, getD_some hs, hg.here bd _ rfl⟩
    | err c fs => obtain ⟨a, d, h1, h2, h3⟩ := hs; exact ⟨_, getD_some h1, hg.here bd _ ⟨a, d, rfl, h2, h3⟩⟩
    | ol xs => exact hg.elim
def mC (x : PV) : ME := fun _ st => .ok x st
theorem se_int {z : Int} {j : Nat} : SE w cc n ex W (.Constant (.int z) j pos) (mC (.int z)) := ⟨tC (.int z), fun X _ => pe_int, fun F env O σ G H st bd Q hg => hg.here bd _ rfl⟩
theorem se_bl {z : Bool} {j : Nat} : SE w cc n ex W (.Constant (.bool z) j pos) (mC (.bl z)) := ⟨tC (.bl z), fun X _ => pe_bl, fun F env O σ G H st bd Q hg => hg.here bd _ rfl⟩
theorem se_non {j : Nat} : SE w cc n ex W (.Constant .none j pos) (mC .non) := ⟨tC .non, fun X _ => pe_non, fun F env O σ G H st bd Q hg => hg.here bd _ rfl⟩
theorem se_str {z : Str} {j : Nat} : SE w cc n ex W (.Constant (.str z) j pos) (mC (.str z)) := ⟨tC (.str z), fun X _ => pe_str, fun F env O σ G H st bd Q hg => hg.here bd _ rfl⟩

/-! ### arguments, tuples, lists -/
def mNil : MSv := fun _ st => .ok [] st
def mCons (m1 : MV) (m2 : MSv) : MSv := fun env st => (m1 env st).bind fun a st => (m2 env st).bind fun as st => .ok (a :: as) st
def mNilX : MA := fun _ st => .ok [] st
def mConsX (m1 : ME) (m2 : MA) : MA := fun env st => (m1 env st).bind fun a st => (m2 env st).bind fun as st => .ok (a :: as) st
theorem sa_nil : SA w cc n ex W [] mNil := ⟨tNil, fun X _ => pa_nil, fun F env O σ G H st bd Q hg => hg.here bd _ rfl⟩
theorem sa_cons {m1 : MV} {m2 : MSv} (hs : star? xe = false) (h1 : SV1 w cc n ex W xe m1) (h2 : SA w cc n ex W es m2) :
    SA w cc n ex W (xe :: es) (mCons m1 m2) := by
  obtain ⟨t1, p1, q1⟩ := h1
  obtain ⟨t2, p2, q2⟩ := h2
  refine ⟨tCons t1 t2, fun X hX => pa_cons (p1 X hX) (p2 X hX) (starEach_cons hs), fun F env O σ G H st bd Q hg => ?_⟩
  refine q1 F env O σ G H st bd _ (Good.imp (fun a st1 G1 H1 b1 g1 k1 v r1 => ?_) hg.bind)
  refine q2 F env O σ G1 H1 st1 b1 _ (Good.imp (fun as st2 G2 H2 b2 g2 k2 vs r2 => ?_) k1.bind)
  exact k2.here b2 _ ⟨v, vs, rfl, r1.mono g2.g, r2⟩
theorem sxa_nil : SXA w cc n ex W [] mNilX := ⟨tNil, fun X _ => pa_nil, fun F env O σ G H st bd Q hg => hg.here bd _ rfl⟩
theorem sxa_cons {m1 : ME} {m2 : MA} (hs : star? xe = false) (h1 : SX w cc n ex W xe m1) (h2 : SXA w cc n ex W es m2) :
    SXA w cc n ex W (xe :: es) (mConsX m1 m2) := by
  obtain ⟨t1, p1, q1⟩ := h1
  obtain ⟨t2, p2, q2⟩ := h2
  refine ⟨tCons t1 t2, fun X hX => pa_cons (p1 X hX) (p2 X hX) (starEach_cons hs), fun F env O σ G H st bd Q hg => ?_⟩
  refine q1 F env O σ G H st bd _ (Good.imp (fun a st1 G1 H1 b1 g1 k1 v r1 => ?_) hg.bind)
  refine q2 F env O σ G1 H1 st1 b1 _ (Good.imp (fun as st2 G2 H2 b2 g2 k2 vs r2 => ?_) k1.bind)
  exact k2.here b2 _ ⟨v, vs, rfl, r1.later g2 b1.pen, r2⟩
theorem small {k : Nat} (h : k ≤ 100000) : k ≤ sizeLine := Nat.le_trans h (by decide)
def mTup (m : MSv) : ME := fun env st => (m env st).bind fun as st => match plains as with
  | some xs => if xs.length ≤ 100000 then .ok (.tup xs) st else .bad
  | none => .bad
theorem se_tup {m : MSv} {k : Nat} (h : SA w cc n ex W es m) : SE w cc n ex W (.Tuple es k pos) (mTup m) := by
  obtain ⟨t, h1, h2⟩ := h
  refine ⟨tTup t, fun X hX => pe_tup (h1 X hX), fun F env O σ G H st bd Q hg => ?_⟩
  refine h2 F env O σ G H st bd _ (Good.imp (fun as st1 G1 H1 b1 g1 k1 vs r1 => ?_) hg.bind)
  cases e : plains as with
  | none => rw [e] at k1; exact k1.elim
  | some xs =>
    rw [e] at k1
    have r2 := r1.plain e
    by_cases hz : xs.length ≤ 100000
    · simp only [hz, if_true] at k1
      refine ⟨by rw [r2.length]; exact small hz, fun p hp => ?_⟩
      exact k1 _ _ (b1.laid hp) (Grow.laid (b1.free hp) hp) (.ref p) ⟨p, vs, rfl, .of upd_same, RepL.mono (Sub.new (b1.free hp)) _ _ r2⟩
    · simp only [hz, if_false] at k1; exact k1.elim
def mLst (m : MSv) : MA := fun env st => (m env st).bind fun as st => match plains as with
  | some xs => if xs.length ≤ 100000 then .ok xs st else .bad
  | none => .bad
theorem sl_lst {m : MSv} (h : SA w cc n ex W es m) : SL w cc n ex W (.List es pos) (mLst m) := by
  obtain ⟨t, h1, h2⟩ := h
  refine ⟨tLst t, fun X hX => pe_lst (h1 X hX), fun F env O σ G H st bd Q hg => ?_⟩
  refine h2 F env O σ G H st bd _ (Good.imp (fun as st1 G1 H1 b1 g1 k1 vs r1 => ?_) hg.bind0)
  cases e : plains as with
  | none => rw [e] at k1; exact k1.elim
  | some xs =>
    rw [e] at k1
    have r2 := r1.plain e
    by_cases hz : xs.length ≤ 100000
    · simp only [hz, if_true] at k1
      refine ⟨by rw [r2.length]; exact small hz, fun p hp => ?_⟩
      have hn : H p = none := by
        cases q : H p with
        | none => rfl
        | some u => exact absurd hp (g1.d p (by rw [q]; simp))
      exact k1 _ _ (b1.held hp) (g1.trans (Grow.held hp)) p vs upd_same hn r2 (b1.free hp)
    · simp only [hz, if_false] at k1; exact k1.elim
end
end Mir

/-! Mir, part 4: operators, comparisons, tests. -/
namespace Mir
open PySem PySem.Spec PyProof.Rows L2

/-- a two-place operation by values: what it is worth -/
def OpS (w : Wd) (r : R2) (f : PV → PV → Option PV) : Prop :=
  ∀ (ex : Ex) (F : Fr0) (env : Env) (O : Nat → Addr) (σ : L2.St) (G H : Hp) (st : Pen), Bd w ex F env O σ G H st → ∀ (x y z : PV) (u v : V), RepX w G H x u → RepX w G H y v → f x y = some z → ∀ Q : VK,
    (∀ G' H' q, Bd w ex F env O σ G' H' st → Grow F.p G H G' H' → Rep w G' z q → Q q H') → r u v H Q
def mOp (f : PV → PV → Option PV) (m1 m2 : ME) : ME := fun env st => (m1 env st).bind fun a st => (m2 env st).bind fun b st => match f a b with
  | some z => .ok z st
  | none => .bad
/-- reads by X.K are reads by w.K -/
theorem OpR.eqv {X : Cx} {f : Value → Value → Sem Value} {r r' : R2} (h : OpR X f r) (e : r = r') : OpR X f r' := e ▸ h
section
variable {w : Wd} {cc : CC} {n : Nat} {ex : Ex} {W : WX} {xe ye ze : Expr} {es : List Expr} {pos : Pos}
/-- the two operands, then the operation -/
theorem op_run {r : R2} {f : PV → PV → Option PV} (hs : OpS w r f) {m1 m2 : ME} {t1 t2 : TE}
    (q1 : ∀ (F : Fr0) (env : Env) (O : Nat → Addr) (σ : L2.St) (G H : Hp) (st : Pen), Bd w ex F env O σ G H st → ∀ Q : VK, Good w ex F env O σ W G H (fun r _ G' H' => ∀ v, RepX w G' H' r v → Q v H') (m1 env st) → t1 σ H Q)
    (q2 : ∀ (F : Fr0) (env : Env) (O : Nat → Addr) (σ : L2.St) (G H : Hp) (st : Pen), Bd w ex F env O σ G H st → ∀ Q : VK, Good w ex F env O σ W G H (fun r _ G' H' => ∀ v, RepX w G' H' r v → Q v H') (m2 env st) → t2 σ H Q)
    (F : Fr0) (env : Env) (O : Nat → Addr) (σ : L2.St) (G H : Hp) (st : Pen) (bd : Bd w ex F env O σ G H st) (Q : VK) (hg : Good w ex F env O σ W G H (fun r _ G' H' => ∀ v, Rep w G' r v → Q v H') (mOp f m1 m2 env st)) : tOp r t1 t2 σ H Q := by
  refine q1 F env O σ G H st bd _ (Good.imp (fun a st1 G1 H1 b1 g1 k1 v r1 => ?_) hg.bind)
  refine q2 F env O σ G1 H1 st1 b1 _ (Good.imp (fun b st2 G2 H2 b2 g2 k2 u r2 => ?_) k1.bind)
  cases e : f a b with
  | none => rw [e] at k2; exact k2.elim
  | some z =>
    rw [e] at k2
    exact hs ex F env O σ G2 H2 st2 b2 a b z v u (r1.later g2 b1.pen) r2 e Q fun G' H' q b' g' rq => k2 _ _ b' g' q rq
theorem se_bin {o : Operator} {r : R2} {f : PV → PV → Option PV} {m1 m2 : ME} (ho : ∀ X, CtxOk w cc n ex W X → OpR X (binaryOp o) r) (hs : OpS w r f) (h1 : SX w cc n ex W xe m1) (h2 : SX w cc n ex W ye m2) :
    SE w cc n ex W (.BinOp xe o ye pos) (mOp f m1 m2) := by
  obtain ⟨t1, p1, q1⟩ := h1
  obtain ⟨t2, p2, q2⟩ := h2
  exact ⟨tOp r t1 t2, fun X hX => pe_op (ho X hX) (p1 X hX) (p2 X hX), fun F env O σ G H st bd Q hg => op_run hs q1 q2 F env O σ G H st bd Q hg⟩
theorem se_cmp {o : CmpOp} {r : R2} {f : PV → PV → Option PV} {m1 m2 : ME} (ho : ∀ X, CtxOk w cc n ex W X → OpR X (compareOp o) r) (hs : OpS w r f) (hm : behindInMarks o ye = false) (h1 : SX w cc n ex W xe m1) (h2 : SX w cc n ex W ye m2) :
    SE w cc n ex W (.Compare xe [o] [ye] pos) (mOp f m1 m2) := by
  obtain ⟨t1, p1, q1⟩ := h1
  obtain ⟨t2, p2, q2⟩ := h2
  exact ⟨tOp r t1 t2, fun X hX => pe_cmpR (ho X hX) (p1 X hX) (p2 X hX) hm, fun F env O σ G H st bd Q hg => op_run hs q1 q2 F env O σ G H st bd Q hg⟩
def boolOf (m : ME) : MT := fun env st => (m env st).bind fun a st => match a with
  | .bl b => .ok b st
  | _ => .bad
theorem st_cmp {o : CmpOp} {r : R2} {f : PV → PV → Option PV} {m1 m2 : ME} (ho : ∀ X, CtxOk w cc n ex W X → OpR X (compareOp o) r) (hs : OpS w r f) (hm : behindInMarks o ye = false) (h1 : SX w cc n ex W xe m1) (h2 : SX w cc n ex W ye m2) :
    ST w cc n ex W (.Compare xe [o] [ye] pos) (boolOf (mOp f m1 m2)) := by
  obtain ⟨t1, p1, q1⟩ := h1
  obtain ⟨t2, p2, q2⟩ := h2
  refine ⟨tTest (tOp r t1 t2), fun X hX => pt_cmpR (ho X hX) (p1 X hX) (p2 X hX) hm, fun F env O σ G H st bd Q hg => ?_⟩
  refine op_run hs q1 q2 F env O σ G H st bd _ (Good.imp (fun a st1 G1 H1 b1 g1 k1 v r1 => ?_) hg.bind)
  cases a with
  | bl b => cases r1; exact ⟨b, rfl, k1.here b1⟩
  | _ => exact k1.elim
def tstB : Expr → Bool
  | .UnaryOp .Not _ _ => false
  | .BoolOp _ _ _ => false
  | .IfExp _ _ _ _ => false
  | .Compare _ _ _ _ => false
  | _ => true
theorem tst_ok {e : Expr} {env : PySem.Env} (h : tstB e = true) : ∀ whole, isTrue e env whole = (do let v ← whole; standAt e.pos; holding [v] (truthy v)) := by
  intro whole
  cases e with
  | UnaryOp o x p => cases o <;> first | rfl | (simp [tstB] at h)
  | BoolOp _ _ _ => simp [tstB] at h
  | IfExp _ _ _ _ => simp [tstB] at h
  | Compare _ _ _ _ => simp [tstB] at h
  | _ => rfl
theorem SE.t {m : ME} (hb : tstB xe = true) (h : SE w cc n ex W xe m) : ST w cc n ex W xe (boolOf m) := by
  obtain ⟨t1, p1, q1⟩ := h
  refine ⟨tB t1, fun X hX => pt_val (p1 X hX) (tst_ok hb), fun F env O σ G H st bd Q hg => ?_⟩
  refine q1 F env O σ G H st bd _ (Good.imp (fun a st1 G1 H1 b1 g1 k1 v r1 => ?_) hg.bind)
  cases a with
  | bl b => cases r1; exact ⟨b, rfl, k1.here b1⟩
  | _ => exact k1.elim

/-! ### and, or, not, if -/
def mNotT (m : MT) : MT := fun env st => (m env st).bind fun b st => .ok (!b) st
theorem st_not {m : MT} (h : ST w cc n ex W xe m) : ST w cc n ex W (.UnaryOp .Not xe pos) (mNotT m) := by
  obtain ⟨t1, p1, q1⟩ := h
  refine ⟨tNot t1, fun X hX => pt_not (p1 X hX), fun F env O σ G H st bd Q hg => ?_⟩
  exact q1 F env O σ G H st bd _ (Good.imp (fun a st1 G1 H1 b1 g1 k1 => k1.here b1) hg.bind)
def mNotV (m : ME) : ME := fun env st => (m env st).bind fun a st => match a with
  | .bl b => .ok (.bl !b) st
  | _ => .bad
theorem se_not {m : ME} (h : SE w cc n ex W xe m) : SE w cc n ex W (.UnaryOp .Not xe pos) (mNotV m) := by
  obtain ⟨t1, p1, q1⟩ := h
  refine ⟨tNotV t1, fun X hX => pe_not (p1 X hX), fun F env O σ G H st bd Q hg => ?_⟩
  refine q1 F env O σ G H st bd _ (Good.imp (fun a st1 G1 H1 b1 g1 k1 v r1 => ?_) hg.bind)
  cases a with
  | bl b => cases r1; exact ⟨b, rfl, k1.here b1 _ rfl⟩
  | _ => exact k1.elim
/-- a chain of and, of or: as a test (whatever is around), as a value -/
def SW (w : Wd) (cc : CC) (n : Nat) (ex : Ex) (W : WX) (o : BoolOp) (es : List Expr) (m : MT) : Prop :=
  ∃ t : TT, (∀ X, CtxOk w cc n ex W X → ∀ pos, PW X (.BoolOp o es pos) t) ∧ ∀ (F : Fr0) (env : Env) (O : Nat → Addr) (σ : L2.St) (G H : Hp) (st : Pen), Bd w ex F env O σ G H st → ∀ Q : Bool → Hp → Prop,
    Good w ex F env O σ W G H (fun r _ G' H' => Q r H') (m env st) → t σ H Q
def SWV (w : Wd) (cc : CC) (n : Nat) (ex : Ex) (W : WX) (o : BoolOp) (es : List Expr) (m : ME) : Prop :=
  ∃ t : TE, (∀ X, CtxOk w cc n ex W X → ∀ pos, PE X (.BoolOp o es pos) t) ∧ ∀ (F : Fr0) (env : Env) (O : Nat → Addr) (σ : L2.St) (G H : Hp) (st : Pen), Bd w ex F env O σ G H st → ∀ Q : VK,
    Good w ex F env O σ W G H (fun r _ G' H' => ∀ v, Rep w G' r v → Q v H') (m env st) → t σ H Q
def mAndT (m1 m2 : MT) : MT := fun env st => (m1 env st).bind fun b st => if b = true then m2 env st else .ok false st
def mOrT (m1 m2 : MT) : MT := fun env st => (m1 env st).bind fun b st => if b = true then .ok true st else m2 env st
theorem sw_one {o : BoolOp} {m : MT} (h : ST w cc n ex W xe m) : SW w cc n ex W o [xe] m := by
  obtain ⟨t1, p1, q1⟩ := h
  exact ⟨t1, fun X hX pos => by cases o; exact pw_and1 (p1 X hX); exact pw_or1 (p1 X hX), q1⟩
theorem sw_and {m1 m2 : MT} (h1 : ST w cc n ex W xe m1) (h2 : SW w cc n ex W .And (ye :: es) m2) : SW w cc n ex W .And (xe :: ye :: es) (mAndT m1 m2) := by
  obtain ⟨t1, p1, q1⟩ := h1
  obtain ⟨t2, p2, q2⟩ := h2
  refine ⟨tAnd t1 t2, fun X hX pos => pw_and (p1 X hX) (p2 X hX pos), fun F env O σ G H st bd Q hg => ?_⟩
  refine q1 F env O σ G H st bd _ (Good.imp (fun b st1 G1 H1 b1 g1 k1 => ?_) hg.bind)
  cases b with
  | true => exact q2 F env O σ G1 H1 st1 b1 Q k1
  | false => exact k1.here b1
theorem sw_or {m1 m2 : MT} (h1 : ST w cc n ex W xe m1) (h2 : SW w cc n ex W .Or (ye :: es) m2) : SW w cc n ex W .Or (xe :: ye :: es) (mOrT m1 m2) := by
  obtain ⟨t1, p1, q1⟩ := h1
  obtain ⟨t2, p2, q2⟩ := h2
  refine ⟨tOr t1 t2, fun X hX pos => pw_or (p1 X hX) (p2 X hX pos), fun F env O σ G H st bd Q hg => ?_⟩
  refine q1 F env O σ G H st bd _ (Good.imp (fun b st1 G1 H1 b1 g1 k1 => ?_) hg.bind)
  cases b with
  | false => exact q2 F env O σ G1 H1 st1 b1 Q k1
  | true => exact k1.here b1
theorem SW.t {o : BoolOp} {m : MT} (h : SW w cc n ex W o es m) : ST w cc n ex W (.BoolOp o es pos) m := by
  obtain ⟨t1, p1, q1⟩ := h
  exact ⟨t1, fun X hX => (p1 X hX pos).pt, q1⟩
def mAndV (m1 m2 : ME) : ME := fun env st => (m1 env st).bind fun b st => match b with
  | .bl true => m2 env st
  | .bl false => .ok (.bl false) st
  | _ => .bad
def mOrV (m1 m2 : ME) : ME := fun env st => (m1 env st).bind fun b st => match b with
  | .bl true => .ok (.bl true) st
  | .bl false => m2 env st
  | _ => .bad
theorem swv_one {o : BoolOp} {m : ME} (h : SE w cc n ex W xe m) : SWV w cc n ex W o [xe] m := by
  obtain ⟨t1, p1, q1⟩ := h
  exact ⟨t1, fun X hX pos => pe_one (p1 X hX), q1⟩
theorem swv_and {m1 m2 : ME} (h1 : SE w cc n ex W xe m1) (h2 : SWV w cc n ex W .And (ye :: es) m2) : SWV w cc n ex W .And (xe :: ye :: es) (mAndV m1 m2) := by
  obtain ⟨t1, p1, q1⟩ := h1
  obtain ⟨t2, p2, q2⟩ := h2
  refine ⟨tAndV t1 t2, fun X hX pos => pe_and (p1 X hX) (p2 X hX pos), fun F env O σ G H st bd Q hg => ?_⟩
  refine q1 F env O σ G H st bd _ (Good.imp (fun b st1 G1 H1 b1 g1 k1 v r1 => ?_) hg.bind)
  cases b with
  | bl b =>
    cases r1
    cases b with
    | true => exact ⟨true, rfl, q2 F env O σ G1 H1 st1 b1 Q k1⟩
    | false => exact ⟨false, rfl, k1.here b1 _ rfl⟩
  | _ => exact k1.elim
theorem swv_or {m1 m2 : ME} (h1 : SE w cc n ex W xe m1) (h2 : SWV w cc n ex W .Or (ye :: es) m2) : SWV w cc n ex W .Or (xe :: ye :: es) (mOrV m1 m2) := by
  obtain ⟨t1, p1, q1⟩ := h1
  obtain ⟨t2, p2, q2⟩ := h2
  refine ⟨tOrV t1 t2, fun X hX pos => pe_or (p1 X hX) (p2 X hX pos), fun F env O σ G H st bd Q hg => ?_⟩
  refine q1 F env O σ G H st bd _ (Good.imp (fun b st1 G1 H1 b1 g1 k1 v r1 => ?_) hg.bind)
  cases b with
  | bl b =>
    cases r1
    cases b with
    | true => exact ⟨true, rfl, k1.here b1 _ rfl⟩
    | false => exact ⟨false, rfl, q2 F env O σ G1 H1 st1 b1 Q k1⟩
  | _ => exact k1.elim
theorem SWV.e {o : BoolOp} {m : ME} (h : SWV w cc n ex W o es m) : SE w cc n ex W (.BoolOp o es pos) m := by
  obtain ⟨t1, p1, q1⟩ := h
  exact ⟨t1, fun X hX => p1 X hX pos, q1⟩
def mIte (c : MT) (m1 m2 : ME) : ME := fun env st => (c env st).bind fun b st => if b = true then m1 env st else m2 env st
theorem se_ite {c : MT} {m1 m2 : ME} (hc : ST w cc n ex W xe c) (h1 : SE w cc n ex W ye m1) (h2 : SE w cc n ex W ze m2) : SE w cc n ex W (.IfExp xe ye ze pos) (mIte c m1 m2) := by
  obtain ⟨t0, p0, q0⟩ := hc
  obtain ⟨t1, p1, q1⟩ := h1
  obtain ⟨t2, p2, q2⟩ := h2
  refine ⟨tIf t0 t1 t2, fun X hX => pe_ifExp (p0 X hX) (p1 X hX) (p2 X hX), fun F env O σ G H st bd Q hg => ?_⟩
  refine q0 F env O σ G H st bd _ (Good.imp (fun b st1 G1 H1 b1 g1 k1 => ?_) hg.bind)
  cases b with
  | true => exact q1 F env O σ G1 H1 st1 b1 Q k1
  | false => exact q2 F env O σ G1 H1 st1 b1 Q k1
theorem sx_ite {c : MT} {m1 m2 : ME} (hc : ST w cc n ex W xe c) (h1 : SX w cc n ex W ye m1) (h2 : SX w cc n ex W ze m2) : SX w cc n ex W (.IfExp xe ye ze pos) (mIte c m1 m2) := by
  obtain ⟨t0, p0, q0⟩ := hc
  obtain ⟨t1, p1, q1⟩ := h1
  obtain ⟨t2, p2, q2⟩ := h2
  refine ⟨tIf t0 t1 t2, fun X hX => pe_ifExp (p0 X hX) (p1 X hX) (p2 X hX), fun F env O σ G H st bd Q hg => ?_⟩
  refine q0 F env O σ G H st bd _ (Good.imp (fun b st1 G1 H1 b1 g1 k1 => ?_) hg.bind)
  cases b with
  | true => exact q1 F env O σ G1 H1 st1 b1 Q k1
  | false => exact q2 F env O σ G1 H1 st1 b1 Q k1
/-! ### is None -/
def isNon : PV → Bool
  | .non => true
  | _ => false
theorem Rep.isNon {G H : Hp} {x : PV} {v : V} (h : RepX w G H x v) : decide (v = .non) = isNon x := by
  cases x with
  | non => cases h; rfl
  | bl b => cases h; rfl
  | int b => cases h; rfl
  | str b => cases h; rfl
  | tup b => obtain ⟨a, vs, rfl, _⟩ := h; rfl
  | lst b => obtain ⟨a, vs, rfl, _⟩ := h; rfl
  | dic b => obtain ⟨a, vs, rfl, _⟩ := h; rfl
  | ins c b => obtain ⟨a, _, vs, rfl, _⟩ := h; rfl
  | fn b => cases h; rfl
def mIsN (ng : Bool) (m : ME) : ME := fun env st => (m env st).bind fun a st => .ok (.bl (xor ng (isNon a))) st
theorem se_isN {j : Nat} {p : Pos} {m : ME} (h : SX w cc n ex W xe m) : SE w cc n ex W (.Compare xe [.Is] [.Constant .none j p] pos) (mIsN false m) := by
  obtain ⟨t1, p1, q1⟩ := h
  refine ⟨tIsN t1, fun X hX => pe_cmp (pc_isN (p1 X hX)) rfl, fun F env O σ G H st bd Q hg => ?_⟩
  refine q1 F env O σ G H st bd _ (Good.imp (fun a st1 G1 H1 b1 g1 k1 v r1 => ?_) hg.bind)
  rw [Rep.isNon r1]
  exact k1.here b1 _ (by simp [Rep])
theorem se_notN {j : Nat} {p : Pos} {m : ME} (h : SX w cc n ex W xe m) : SE w cc n ex W (.Compare xe [.IsNot] [.Constant .none j p] pos) (mIsN true m) := by
  obtain ⟨t1, p1, q1⟩ := h
  refine ⟨tNotN t1, fun X hX => pe_cmp (pc_notN (p1 X hX)) rfl, fun F env O σ G H st bd Q hg => ?_⟩
  refine q1 F env O σ G H st bd _ (Good.imp (fun a st1 G1 H1 b1 g1 k1 v r1 => ?_) hg.bind)
  rw [Rep.isNon r1]
  exact k1.here b1 _ (by simp [Rep])
theorem st_isN {j : Nat} {p : Pos} {m : ME} (h : SX w cc n ex W xe m) : ST w cc n ex W (.Compare xe [.Is] [.Constant .none j p] pos) (boolOf (mIsN false m)) := by
  obtain ⟨t1, p1, q1⟩ := h
  refine ⟨tB (tIsN t1), fun X hX => pt_cmp (pc_isN (p1 X hX)) rfl, fun F env O σ G H st bd Q hg => ?_⟩
  refine q1 F env O σ G H st bd _ (Good.imp (fun a st1 G1 H1 b1 g1 k1 v r1 => ?_) hg.bind.bind)
  rw [Rep.isNon r1]
  exact ⟨_, rfl, by simpa using (k1.here b1).here b1⟩
theorem st_notN {j : Nat} {p : Pos} {m : ME} (h : SX w cc n ex W xe m) : ST w cc n ex W (.Compare xe [.IsNot] [.Constant .none j p] pos) (boolOf (mIsN true m)) := by
  obtain ⟨t1, p1, q1⟩ := h
  refine ⟨tB (tNotN t1), fun X hX => pt_cmp (pc_notN (p1 X hX)) rfl, fun F env O σ G H st bd Q hg => ?_⟩
  refine q1 F env O σ G H st bd _ (Good.imp (fun a st1 G1 H1 b1 g1 k1 v r1 => ?_) hg.bind.bind)
  rw [Rep.isNon r1]
  exact ⟨_, rfl, by simpa using (k1.here b1).here b1⟩
end
end Mir

/-! Mir, part 5: what the operators are worth. -/
namespace Mir
open PySem PySem.Spec PyProof.Rows L2

/-! ### data -/
mutual
def toD : PV → PyData
  | .non => .none
  | .bl b => .bool b
  | .int i => .int i
  | .str x => .str x
  | .tup xs => .tuple (toDs xs)
  | .lst xs => .list (toDs xs)
  | .dic kvs => .dict (toDk kvs)
  | .ins _ _ => .none
  | .fn _ => .none
def toDs : List PV → List PyData
  | [] => []
  | x :: xs => toD x :: toDs xs
def toDk : List (Key × PV) → List (PyData × PyData)
  | [] => []
  | (.inl i, x) :: xs => (.int i, toD x) :: toDk xs
  | (.inr s, x) :: xs => (.str s, toD x) :: toDk xs
end
/-! no dict, no object in it -/
mutual
def flatD : PV → Bool
  | .non | .bl _ | .int _ | .str _ => true
  | .tup xs => flatDs xs
  | .lst xs => flatDs xs
  | .dic _ => false
  | .ins _ _ => false
  | .fn _ => false
def flatDs : List PV → Bool
  | [] => true
  | x :: xs => flatD x && flatDs xs
end
section
variable {w : Wd} {G H : Hp}
mutual
theorem Rep.dp (s : Sub G H) : ∀ (x : PV) (v : V), Rep w G x v → flatD x = true → Dp w.K H v (toD x)
  | .non, v, h, _ => by cases h; rw [toD]; exact .non
  | .bl _, v, h, _ => by cases h; rw [toD]; exact .bl _
  | .int _, v, h, _ => by cases h; rw [toD]; exact .int _
  | .str _, v, h, _ => by cases h; rw [toD]; exact .str _
  | .tup xs, v, ⟨a, vs, h1, h2, h3⟩, f => by subst h1; rw [toD]; exact .tup (s.sqT h2) (RepL.dp s xs vs h3 (by simpa [flatD] using f))
  | .lst xs, v, ⟨a, vs, h1, h2, h3⟩, f => by subst h1; rw [toD]; exact .lst (.of (s _ _ h2)) (RepL.dp s xs vs h3 (by simpa [flatD] using f))
  | .dic _, v, h, f => by simp [flatD] at f
  | .ins _ _, v, h, f => by simp [flatD] at f
  | .fn _, v, h, f => by simp [flatD] at f
theorem RepL.dp (s : Sub G H) : ∀ (x : List PV) (v : List V), RepL w G x v → flatDs x = true → DpAll w.K H v (toDs x)
  | [], v, h, _ => by cases h; rw [toDs]; exact .nil
  | x :: xs, _, ⟨v, ws, h1, h2, h3⟩, f => by
    subst h1
    simp only [flatDs, Bool.and_eq_true] at f
    rw [toDs]
    exact .cons (Rep.dp s x v h2 f.1) (RepL.dp s xs ws h3 f.2)
end
theorem RepX.dp (s : Sub G H) {x : PV} {v : V} (h : RepX w G H x v) (f : flatD x = true) : Dp w.K H v (toD x) := by
  cases x with
  | lst xs => obtain ⟨a, vs, h1, h2, h3⟩ := h; subst h1; rw [toD]; exact .lst (.of h2) (RepL.dp s xs vs h3 (by simpa [flatD] using f))
  | _ => exact Rep.dp s _ _ h f
end

/-! ### + - * // % ** -/
def addPV : PV → PV → Option PV
  | .int i, .int j => some (.int (i + j))
  | .str x, .str y => if x.length + y.length ≤ 100000 then some (.str (x ++ y)) else none
  | .tup xs, .tup ys => if xs.length + ys.length ≤ 100000 then some (.tup (xs ++ ys)) else none
  | .lst xs, .lst ys => if xs.length + ys.length ≤ 100000 then some (.lst (xs ++ ys)) else none
  | _, _ => none
def rAddS : R2 := fun x y H Q => ∃ i j, x = .str i ∧ y = .str j ∧ i.length + j.length ≤ sizeLine ∧ Q (.str (i ++ j)) H
def rAddM (K : PySem.W.Frag) : R2 := fun x y H Q => (rI0 (fun i j => .int (i + j)) x y H Q ∨ rAddS x y H Q) ∨ (rCatA K x y H Q ∨ rCat x y H Q)
theorem op_addM {w : Wd} {cc : CC} {n : Nat} {ex : Ex} {W : WX} : ∀ X, CtxOk w cc n ex W X → OpR X (binaryOp .Add) (rAddM w.K) := fun X hX => by
  have h := ((op_add (X := X)).or op_add_str).or ((op_catA (X := X)).or op_cat)
  rw [hX.K] at h
  exact h
theorem Rep.str_of {w : Wd} {G H : Hp} {x : Str} {v : V} (h : RepX w G H (.str x) v) : v = .str x := h
theorem add_s {w : Wd} : OpS w (rAddM w.K) addPV := by
  intro ex F env O σ G H st bd x y z u v ru rv e Q k
  unfold addPV at e
  split at e
  · cases e; cases ru; cases rv
    exact .inl (.inl ⟨_, _, rfl, rfl, k G H _ bd (Grow.refl _ _ _) rfl⟩)
  · split at e
    · rename_i hz
      cases e; cases ru; cases rv
      exact .inl (.inr ⟨_, _, rfl, rfl, small hz, k G H _ bd (Grow.refl _ _ _) rfl⟩)
    · cases e
  · split at e
    · rename_i xs ys hz
      cases e
      obtain ⟨a, vs, rfl, h2, h3⟩ := ru
      obtain ⟨b, us, rfl, k2, k3⟩ := rv
      refine .inr (.inl ⟨a, b, vs, us, rfl, rfl, bd.sub.sqT h2, bd.sub.sqT k2, by rw [h3.length, k3.length]; exact small hz, fun e => ?_, fun _ e => ?_, fun _ _ p hp => ?_⟩)
      · subst e
        cases xs with
        | nil => exact k G H _ bd (Grow.refl _ _ _) ⟨b, us, rfl, k2, k3⟩
        | cons x xs => obtain ⟨_, _, q, _⟩ := h3; cases q
      · subst e
        cases ys with
        | nil => rw [List.append_nil] at k; exact k G H _ bd (Grow.refl _ _ _) ⟨a, vs, rfl, h2, h3⟩
        | cons x xs => obtain ⟨_, _, q, _⟩ := k3; cases q
      · exact k _ _ _ (bd.laid hp) (Grow.laid (bd.free hp) hp) ⟨p, _, rfl, .of upd_same, (RepL.mono (Sub.new (bd.free hp)) _ _ (h3.append k3))⟩
    · cases e
  · split at e
    · rename_i xs ys hz
      cases e
      obtain ⟨a, vs, rfl, h2, h3⟩ := ru
      obtain ⟨b, us, rfl, k2, k3⟩ := rv
      refine .inr (.inr ⟨a, b, vs, us, rfl, rfl, h2, k2, by rw [h3.length, k3.length]; exact small hz, fun p hp => ?_⟩)
      exact k _ _ _ (bd.laid hp) (Grow.laid (bd.free hp) hp) ⟨p, _, rfl, upd_same, (RepL.mono (Sub.new (bd.free hp)) _ _ (h3.append k3))⟩
    · cases e
  · cases e
/-- an operation of two ints -/
def intPV (c : Int → Int → Bool) (g : Int → Int → Int) : PV → PV → Option PV
  | .int i, .int j => if c i j = true then some (.int (g i j)) else none
  | _, _ => none
theorem int_s {w : Wd} {c : Int → Int → Bool} {C : Int → Int → Prop} {g : Int → Int → Int} (hc : ∀ i j, c i j = true → C i j) : OpS w (rI C fun i j => .int (g i j)) (intPV c g) := by
  intro ex F env O σ G H st bd x y z u v ru rv e Q k
  unfold intPV at e
  split at e
  · split at e
    · rename_i h
      cases e; cases ru; cases rv
      exact ⟨_, _, rfl, rfl, hc _ _ h, k G H _ bd (Grow.refl _ _ _) rfl⟩
    · cases e
  · cases e
def subPV : PV → PV → Option PV := intPV (fun _ _ => true) (· - ·)
def mulB (i j : Int) : Bool := decide (i.natAbs.log2 + j.natAbs.log2 < 100000000)
def CMulM (i j : Int) : Prop := i.natAbs.log2 + j.natAbs.log2 < 100000000
theorem CMulM.ok {i j : Int} (h : CMulM i j) : IntMulOk i j := by
  have b : ∀ x : Int, Builtin.Int.intBits x ≤ x.natAbs.log2 + 1 := fun x => by
    unfold Builtin.Int.intBits
    split <;> omega
  have h1 := b i
  have h2 := b j
  have h3 : i.natAbs.log2 + j.natAbs.log2 < 100000000 := h
  have e : bitsLine = 134217728 := by decide
  unfold IntMulOk
  intro z
  rw [Bool.and_eq_true] at z
  have z2 := z.2
  unfold Builtin.Int.intTooBig at z2
  have z3 := of_decide_eq_true z2
  rw [e] at z3
  omega
def mulPV : PV → PV → Option PV := intPV mulB (· * ·)
def divB (i j : Int) : Bool := decide (j ≠ 0) && decide (j.natAbs.log2 < 9000)
def CDivM (i j : Int) : Prop := j ≠ 0 ∧ j.natAbs.log2 < 9000
def divPV : PV → PV → Option PV := intPV divB Int.fdiv
def modPV : PV → PV → Option PV := intPV (fun _ j => decide (j ≠ 0)) Int.fmod
def powB (i j : Int) : Bool := decide (0 ≤ j) && decide (j ≤ 1000) && decide (i.natAbs < 2 ^ 64)
def powPV : PV → PV → Option PV := intPV powB fun i j => i ^ j.toNat
section
variable {w : Wd} {cc : CC} {n : Nat} {ex : Ex} {W : WX}
theorem op_subM : ∀ X, CtxOk w cc n ex W X → OpR X (binaryOp .Sub) (rI (fun _ _ => True) fun i j => .int (i - j)) := fun X hX => opI fun _ _ _ _ _ _ _ _ q => sub_int q
theorem sub_s : OpS w (rI (fun _ _ => True) fun i j => .int (i - j)) subPV := int_s fun _ _ _ => trivial
theorem op_mulM : ∀ X, CtxOk w cc n ex W X → OpR X (binaryOp .Mult) (rI CMulM fun i j => .int (i * j)) := fun X hX => opI fun _ _ _ _ _ _ _ hc q => mul_int q hc.ok
theorem mul_s : OpS w (rI CMulM fun i j => .int (i * j)) mulPV := int_s fun i j h => (of_decide_eq_true h : i.natAbs.log2 + j.natAbs.log2 < 100000000)
theorem op_divM : ∀ X, CtxOk w cc n ex W X → OpR X (binaryOp .FloorDiv) (rI CDivM fun i j => .int (i.fdiv j)) := fun X hX => opI fun _ _ _ _ _ _ _ hc q => floordiv_int hc.1 q (.inl (PyProof.noPylong_of_log2 hc.2))
theorem div_s : OpS w (rI CDivM fun i j => .int (i.fdiv j)) divPV := int_s fun _ _ h => by
  unfold divB at h
  simp only [Bool.and_eq_true, decide_eq_true_eq] at h
  exact h
theorem op_modM : ∀ X, CtxOk w cc n ex W X → OpR X (binaryOp .Mod) (rI (fun _ j => j ≠ 0) fun i j => .int (i.fmod j)) := fun X hX => op_modN
theorem mod_s : OpS w (rI (fun _ j => j ≠ 0) fun i j => .int (i.fmod j)) modPV := int_s fun _ _ h => of_decide_eq_true h
theorem op_powM : ∀ X, CtxOk w cc n ex W X → OpR X (binaryOp .Pow) (rI CPow fun i j => .int (i ^ j.toNat)) := fun X hX => op_pow
theorem pow_s : OpS w (rI CPow fun i j => .int (i ^ j.toNat)) powPV := int_s fun _ _ h => by
  unfold powB at h
  simp only [Bool.and_eq_true, decide_eq_true_eq] at h
  exact ⟨h.1.1, by omega, h.2⟩
end

/-! ### comparisons -/
def eqPV : PV → PV → Option Bool
  | .int i, .int j => some (decide (i = j))
  | .str x, .str y => some (decide (x = y))
  | .bl x, .bl y => some (x == y)
  | x, y => if flatD x && flatD y && SeqAt.shaped (toD x) && SeqAt.shaped (toD y) then some (PyData.eqv (toD x) (toD y)) else none
def rEqM (K : PySem.W.Frag) : R2 := fun x y H Q => rEq x y H Q ∨ rEqD K x y H Q
def rNeM (K : PySem.W.Frag) : R2 := fun x y H Q => rNe x y H Q ∨ rNeD K x y H Q
theorem op_eqM {w : Wd} {cc : CC} {n : Nat} {ex : Ex} {W : WX} : ∀ X, CtxOk w cc n ex W X → OpR X (compareOp .Eq) (rEqM w.K) := fun X hX => by
  have h := (op_eq (X := X)).or (op_eqD hX.room.units)
  rw [hX.K] at h
  exact h
theorem op_neM {w : Wd} {cc : CC} {n : Nat} {ex : Ex} {W : WX} : ∀ X, CtxOk w cc n ex W X → OpR X (compareOp .NotEq) (rNeM w.K) := fun X hX => by
  have h := (op_ne (X := X)).or (op_neD hX.room.units)
  rw [hX.K] at h
  exact h
theorem eq_pv {w : Wd} {G H : Hp} (s : Sub G H) {x y : PV} {u v : V} (ru : RepX w G H x u) (rv : RepX w G H y v) {b : Bool} (e : eqPV x y = some b) :
    (scal u v = true ∧ decide (u = v) = b) ∨ ∃ d d', Dp w.K H u d ∧ Dp w.K H v d' ∧ SeqAt.shaped d = true ∧ SeqAt.shaped d' = true ∧ PyData.eqv d d' = b := by
  have gen : (if flatD x && flatD y && SeqAt.shaped (toD x) && SeqAt.shaped (toD y) then some (PyData.eqv (toD x) (toD y)) else none) = some b →
      (scal u v = true ∧ decide (u = v) = b) ∨ ∃ d d', Dp w.K H u d ∧ Dp w.K H v d' ∧ SeqAt.shaped d = true ∧ SeqAt.shaped d' = true ∧ PyData.eqv d d' = b := fun q => by
    split at q
    · rename_i h
      cases q
      simp only [Bool.and_eq_true] at h
      exact .inr ⟨_, _, RepX.dp s ru h.1.1.1, RepX.dp s rv h.1.1.2, h.1.2, h.2, rfl⟩
    · cases q
  unfold eqPV at e
  split at e
  · cases e; cases ru; cases rv
    exact .inl ⟨rfl, by rw [dec_int, Bool.beq_eq_decide_eq]⟩
  · cases e; cases ru; cases rv
    exact .inl ⟨rfl, by rw [dec_str, Bool.beq_eq_decide_eq]⟩
  · cases e; cases ru; cases rv
    exact .inl ⟨rfl, dec_bl⟩
  · exact gen e
def eqOp (x y : PV) : Option PV := (eqPV x y).map .bl
def neOp (x y : PV) : Option PV := (eqPV x y).map fun b => .bl !b
theorem eq_s {w : Wd} : OpS w (rEqM w.K) eqOp := by
  intro ex F env O σ G H st bd x y z u v ru rv e Q k
  unfold eqOp at e
  cases q : eqPV x y with
  | none => rw [q] at e; cases e
  | some b =>
    rw [q] at e; cases e
    have kk := k G H (.bl b) bd (Grow.refl _ _ _) rfl
    rcases eq_pv bd.sub ru rv q with ⟨h1, h2⟩ | ⟨d, d', h1, h2, h3, h4, h5⟩
    · exact .inl ⟨h1, by rw [h2]; exact kk⟩
    · exact .inr ⟨d, d', h1, h2, h3, h4, by rw [h5]; exact kk⟩
theorem ne_s {w : Wd} : OpS w (rNeM w.K) neOp := by
  intro ex F env O σ G H st bd x y z u v ru rv e Q k
  unfold neOp at e
  cases q : eqPV x y with
  | none => rw [q] at e; cases e
  | some b =>
    rw [q] at e; cases e
    have kk := k G H (.bl !b) bd (Grow.refl _ _ _) rfl
    rcases eq_pv bd.sub ru rv q with ⟨h1, h2⟩ | ⟨d, d', h1, h2, h3, h4, h5⟩
    · exact .inl ⟨h1, by rw [h2]; exact kk⟩
    · exact .inr ⟨d, d', h1, h2, h3, h4, by rw [h5]; exact kk⟩
/-- < and its kin, of ints -/
def ordPV (p : Int → Int → Bool) : PV → PV → Option PV
  | .int i, .int j => some (.bl (p i j))
  | _, _ => none
theorem ord_s {w : Wd} {p : Int → Int → Bool} : OpS w (rI0 fun i j => .bl (p i j)) (ordPV p) := by
  intro ex F env O σ G H st bd x y z u v ru rv e Q k
  unfold ordPV at e
  split at e
  · cases e; cases ru; cases rv
    exact ⟨_, _, rfl, rfl, k G H _ bd (Grow.refl _ _ _) rfl⟩
  · cases e
/-- in, not in: flat things -/
def flatP : PV → Bool
  | .non | .bl _ | .int _ | .str _ => true
  | _ => false
def eqP : PV → PV → Bool
  | .non, .non => true
  | .bl a, .bl b => a == b
  | .bl a, .int b => (if a then 1 else 0) == b
  | .int a, .bl b => a == (if b then 1 else 0)
  | .int a, .int b => a == b
  | .str a, .str b => a == b
  | _, _ => false
def inPV (ng : Bool) (x : PV) : PV → Option PV
  | .tup xs => if flatP x && xs.all flatP then some (.bl (xor ng (xs.any fun y => eqP y x))) else none
  | .lst xs => if flatP x && xs.all flatP then some (.bl (xor ng (xs.any fun y => eqP y x))) else none
  | _ => none
theorem flat_rep {w : Wd} {G H : Hp} {x : PV} {v : V} (f : flatP x = true) (h : RepX w G H x v) : flatV v = true ∧ ∀ y u, flatP y = true → Rep w G y u → eqV u v = eqP y x := by
  cases x <;> simp [flatP] at f <;> cases h <;> refine ⟨rfl, fun y u fy ry => ?_⟩ <;> cases y <;> simp [flatP] at fy <;> cases ry <;> rfl
theorem flat_all {w : Wd} {G H : Hp} {x : PV} {v : V} (f : flatP x = true) (h : RepX w G H x v) : ∀ {xs : List PV} {vs : List V}, RepL w G xs vs → xs.all flatP = true → vs.all flatV = true ∧ inV v vs = xs.any fun y => eqP y x
  | [], _, r, _ => by cases r; exact ⟨rfl, rfl⟩
  | y :: xs, _, ⟨u, ws, e, r1, r2⟩, q => by
    subst e
    simp only [List.all_cons, Bool.and_eq_true] at q
    obtain ⟨h1, h2⟩ := flat_all f h r2 q.2
    have fu : flatV u = true := by
      have fy := q.1
      cases y <;> simp [flatP] at fy <;> cases r1 <;> rfl
    refine ⟨by simp [fu, h1], ?_⟩
    unfold inV at h2 ⊢
    simp only [List.any_cons]
    rw [h2, (flat_rep f h).2 y u q.1 r1]
theorem op_inM {w : Wd} {cc : CC} {n : Nat} {ex : Ex} {W : WX} : ∀ X, CtxOk w cc n ex W X → OpR X (compareOp .In) (rIn w.K false) := fun X hX => by
  have h := op_in_seq (X := X); rw [hX.K] at h; exact h
theorem op_niM {w : Wd} {cc : CC} {n : Nat} {ex : Ex} {W : WX} : ∀ X, CtxOk w cc n ex W X → OpR X (compareOp .NotIn) (rIn w.K true) := fun X hX => by
  have h := op_notIn_seq (X := X); rw [hX.K] at h; exact h
theorem in_s {w : Wd} {ng : Bool} : OpS w (rIn w.K ng) (inPV ng) := by
  intro ex F env O σ G H st bd x y z u v ru rv e Q k
  have fin : ∀ {p : Addr} {xs : List PV} {vs : List V}, v = .ref p → (SqL w.K H p vs ∨ SqT w.K H p vs) → RepL w G xs vs → (flatP x && xs.all flatP) = true → z = .bl (xor ng (xs.any fun y => eqP y x)) → rIn w.K ng u v H Q := fun {p xs vs} ev hq hr hf hz => by
    simp only [Bool.and_eq_true] at hf
    obtain ⟨h1, h2⟩ := flat_all hf.1 ru hr hf.2
    subst hz
    refine ⟨p, vs, ev, hq, (flat_rep hf.1 ru).1, h1, ?_⟩
    rw [h2]
    have kk := k G H _ bd (Grow.refl _ _ _) rfl
    cases ng <;> simpa using kk
  cases y with
  | tup xs =>
    simp only [inPV] at e
    split at e
    · rename_i hf
      cases e
      obtain ⟨a, vs, rfl, h2, h3⟩ := rv
      exact fin rfl (.inr (bd.sub.sqT h2)) h3 hf rfl
    · cases e
  | lst xs =>
    simp only [inPV] at e
    split at e
    · rename_i hf
      cases e
      obtain ⟨a, vs, rfl, h2, h3⟩ := rv
      exact fin rfl (.inl (.of h2)) h3 hf rfl
    · cases e
  | _ => simp [inPV] at e
end Mir

/-! Mir, part 6: places, built-ins, kinds, texts of values. -/
namespace Mir
open PySem PySem.Spec PyProof.Rows L2

/-! ### x[i] -/
def slice? : Expr → Bool
  | .Slice _ _ _ _ => true
  | _ => false
theorem plainIx {b : Expr} (h : slice? b = false) : PlainIx b := by
  intro o i
  cases b <;> first | rfl | (simp [slice?] at h)
def ixPV : PV → PV → Option PV
  | .lst xs, .int i => atI xs i
  | .tup xs, .int i => atI xs i
  | _, _ => none
theorem RepL.atI {w : Wd} {G : Hp} {xs : List PV} {vs : List V} {i : Int} {x : PV} (r : RepL w G xs vs) (e : L2.atI xs i = some x) : ∃ v, L2.atI vs i = some v ∧ Rep w G x v := by
  unfold L2.atI at e ⊢
  rw [r.length]
  cases q : ixN xs.length i with
  | none => rw [q] at e; cases e
  | some j => rw [q] at e; exact r.at e
section
variable {w : Wd} {cc : CC} {n : Nat} {ex : Ex} {W : WX} {xe ye ze : Expr} {es : List Expr} {pos p : Pos}
theorem ix_s : OpS w (rIx w.K) ixPV := by
  intro ex F env O σ G H st bd x y z u v ru rv e Q k
  unfold ixPV at e
  split at e
  · cases rv
    obtain ⟨a, vs, rfl, h2, h3⟩ := ru
    obtain ⟨q, h4, h5⟩ := h3.atI e
    exact .inl ⟨a, vs, _, q, rfl, rfl, .of h2, h4, k G H q bd (Grow.refl _ _ _) h5⟩
  · cases rv
    obtain ⟨a, vs, rfl, h2, h3⟩ := ru
    obtain ⟨q, h4, h5⟩ := h3.atI e
    exact .inr (.inl ⟨a, vs, _, q, rfl, rfl, bd.sub.sqT h2, h4, k G H q bd (Grow.refl _ _ _) h5⟩)
  · cases e
theorem se_ix {m1 m2 : ME} (hs : slice? ye = false) (h1 : SX w cc n ex W xe m1) (h2 : SX w cc n ex W ye m2) : SE w cc n ex W (.Subscript xe ye pos) (mOp ixPV m1 m2) := by
  obtain ⟨t1, p1, q1⟩ := h1
  obtain ⟨t2, p2, q2⟩ := h2
  refine ⟨tOp (rIx w.K) t1 t2, fun X hX => ?_, fun F env O σ G H st bd Q hg => op_run ix_s q1 q2 F env O σ G H st bd Q hg⟩
  have h := pe_ix (X := X) (pos := pos) ix_seq (p1 X hX) (p2 X hX) (plainIx hs)
  rw [hX.K] at h
  exact h
def mNeg (m : ME) : ME := fun env st => (m env st).bind fun a st => match a with
  | .int i => .ok (.int (-i)) st
  | _ => .bad
theorem se_neg {m : ME} (h : SE w cc n ex W xe m) : SE w cc n ex W (.UnaryOp .USub xe pos) (mNeg m) := by
  obtain ⟨t1, p1, q1⟩ := h
  refine ⟨tUn (rU fun i => .int (-i)) t1, fun X hX => pe_un un_neg (p1 X hX), fun F env O σ G H st bd Q hg => ?_⟩
  refine q1 F env O σ G H st bd _ (Good.imp (fun a st1 G1 H1 b1 g1 k1 v r1 => ?_) hg.bind)
  cases a with
  | int i => cases r1; exact ⟨i, rfl, k1.here b1 _ rfl⟩
  | _ => exact k1.elim

/-! ### built-ins by name -/
/-- a built-in by values -/
def CallS (w : Wd) (r : List V → Hp → VK → Prop) (f : List PV → Option PV) : Prop :=
  ∀ (ex : Ex) (F : Fr0) (env : Env) (O : Nat → Addr) (σ : L2.St) (G H : Hp) (st : Pen), Bd w ex F env O σ G H st → ∀ (xs : List PV) (z : PV) (us : List V), RepXL w G H xs us → f xs = some z → ∀ Q : VK,
    (∀ G' H' q, Bd w ex F env O σ G' H' st → Grow F.p G H G' H' → Rep w G' z q → Q q H') → r us H Q
def mBlt (f : List PV → Option PV) (m : MA) : ME := fun env st => (m env st).bind fun as st => match f as with
  | some z => .ok z st
  | none => .bad
def glB (cc : CC) (x : Str) : Bool := decide (cc.sc.names.lookup x = some .globalImplicit) && okName x
theorem glB_gl {x : Str} {X : Cx} (h : glB cc x = true) (hX : CtxOk w cc n ex W X) : Gl X x := by
  unfold glB at h
  simp only [Bool.and_eq_true, decide_eq_true_eq] at h
  show X.env.scope.names.lookup x = _
  rw [hX.sc]; exact h.1
theorem glB_ok {x : Str} (h : glB cc x = true) : okName x = true := by
  unfold glB at h
  simp only [Bool.and_eq_true] at h
  exact h.2
theorem call_run {r : List V → Hp → VK → Prop} {f : List PV → Option PV} (hs : CallS w r f) {m : MA} {t : TA}
    (q1 : ∀ (F : Fr0) (env : Env) (O : Nat → Addr) (σ : L2.St) (G H : Hp) (st : Pen), Bd w ex F env O σ G H st → ∀ Q : List V → Hp → Prop, Good w ex F env O σ W G H (fun r _ G' H' => ∀ vs, RepXL w G' H' r vs → Q vs H') (m env st) → t σ H Q)
    (F : Fr0) (env : Env) (O : Nat → Addr) (σ : L2.St) (G H : Hp) (st : Pen) (bd : Bd w ex F env O σ G H st) (Q : VK) (hg : Good w ex F env O σ W G H (fun r _ G' H' => ∀ v, Rep w G' r v → Q v H') (mBlt f m env st)) : tCB r t σ H Q := by
  refine q1 F env O σ G H st bd _ (Good.imp (fun as st1 G1 H1 b1 g1 k1 vs r1 => ?_) hg.bind)
  cases e : f as with
  | none => rw [e] at k1; exact k1.elim
  | some z =>
    rw [e] at k1
    exact hs ex F env O σ G1 H1 st1 b1 as z vs r1 e Q fun G' H' q b' g' rq => k1 _ _ b' g' q rq
theorem se_blt {x : Str} {id : String} {r : List V → Hp → VK → Prop} {f : List PV → Option PV} {m : MA} (hc : ∀ X, CtxOk w cc n ex W X → CallR X (.builtin id) r) (hs : CallS w r f) (hg : glB cc x = true) (hm : w.mg x = none) (hv : bootBuiltins x = some (.builtin id))
    (hst : (xe :: es).all (fun e => !star? e) = true) (ha : SXA w cc n ex W (xe :: es) m) : SE w cc n ex W (.Call (.Name x p) (xe :: es) [] pos) (mBlt f m) := by
  obtain ⟨t, p1, q1⟩ := ha
  have hst' := hst
  simp only [List.all_cons, Bool.and_eq_true, Bool.not_eq_true'] at hst'
  exact ⟨tCB r t, fun X hX => pe_callB (hc X hX) (glB_gl hg hX) (by rw [hX.mg]; exact hm) hv (p1 X hX) (okN_n (glB_ok hg)) (okN_d (glB_ok hg)) (starEach_cons hst'.1) (plain_args hst'.2), fun F env O σ G H st bd Q hg => call_run hs q1 F env O σ G H st bd Q hg⟩
theorem se_bty {x : Str} {T : String} {r : List V → Hp → VK → Prop} {f : List PV → Option PV} {m : MA} (hc : ∀ X, CtxOk w cc n ex W X → CallR X (.type T) r) (hs : CallS w r f) (hg : glB cc x = true) (hm : w.mg x = none) (hv : bootBuiltins x = some (.type T))
    (hst : (xe :: es).all (fun e => !star? e) = true) (ha : SXA w cc n ex W (xe :: es) m) : SE w cc n ex W (.Call (.Name x p) (xe :: es) [] pos) (mBlt f m) := by
  obtain ⟨t, p1, q1⟩ := ha
  have hst' := hst
  simp only [List.all_cons, Bool.and_eq_true, Bool.not_eq_true'] at hst'
  exact ⟨tCB r t, fun X hX => pe_callTy (hc X hX) (glB_gl hg hX) (by rw [hX.mg]; exact hm) hv (p1 X hX) (okN_n (glB_ok hg)) (okN_d (glB_ok hg)) (starEach_cons hst'.1) (plain_args hst'.2), fun F env O σ G H st bd Q hg => call_run hs q1 F env O σ G H st bd Q hg⟩

/-! ### len -/
def lenPV : List PV → Option PV
  | [.lst xs] => some (.int xs.length)
  | [.tup xs] => some (.int xs.length)
  | _ => none
def rLenM (K : PySem.W.Frag) : List V → Hp → VK → Prop := fun xs H Q => ∃ p ys, xs = [.ref p] ∧ (SqL K H p ys ∨ SqT K H p ys) ∧ Q (.int ys.length) H
theorem call_lenM : ∀ X, CtxOk w cc n ex W X → CallR X (.builtin "len") (rLenM w.K) := fun X hX => by
  have h := call_len_seq (X := X)
  rw [hX.K] at h
  exact h
theorem len_s : CallS w (rLenM w.K) lenPV := by
  intro ex F env O σ G H st bd xs z us ru e Q k
  unfold lenPV at e
  split at e
  · cases e
    obtain ⟨v, ws, rfl, ⟨a, vs, rfl, h2, h3⟩, h4⟩ := ru
    cases h4
    exact ⟨a, vs, rfl, .inl (.of h2), by rw [h3.length]; exact k G H _ bd (Grow.refl _ _ _) rfl⟩
  · cases e
    obtain ⟨v, ws, rfl, ⟨a, vs, rfl, h2, h3⟩, h4⟩ := ru
    cases h4
    exact ⟨a, vs, rfl, .inr (bd.sub.sqT h2), by rw [h3.length]; exact k G H _ bd (Grow.refl _ _ _) rfl⟩
  · cases e
/-! ### int(..) -/
def intcPV : List PV → Option PV
  | [.int i] => some (.int i)
  | [.bl b] => some (.int (if b then 1 else 0))
  | _ => none
def rIntM : List V → Hp → VK → Prop := fun xs H Q => (∃ i, xs = [.int i] ∧ Q (.int i) H) ∨ ∃ k, xs = [.bl k] ∧ Q (.int (if k then 1 else 0)) H
theorem call_intM : ∀ X, CtxOk w cc n ex W X → CallR X (.type "int") rIntM := fun X hX => call_int1
theorem intc_s : CallS w rIntM intcPV := by
  intro ex F env O σ G H st bd xs z us ru e Q k
  unfold intcPV at e
  split at e
  · cases e
    obtain ⟨v, ws, rfl, rfl, h4⟩ := ru
    cases h4
    exact .inl ⟨_, rfl, k G H _ bd (Grow.refl _ _ _) rfl⟩
  · cases e
    obtain ⟨v, ws, rfl, rfl, h4⟩ := ru
    cases h4
    exact .inr ⟨_, rfl, k G H _ bd (Grow.refl _ _ _) rfl⟩
  · cases e
/-! ### {}, {'k': 1} -/
theorem se_dic0 : SE w cc n ex W (.Dict [] [] pos) (mC (.dic [])) := ⟨tDNewK, fun X _ => pe_dnewK, fun F env O σ G H st bd Q hg => by
  intro p hp
  exact hg _ _ (bd.laid hp) (Grow.laid (bd.free hp) hp) (.ref p) ⟨p, [], rfl, upd_same, rfl⟩⟩
theorem se_dic1 {s : Str} {z : Int} {j j' : Nat} {p p' : Pos} : SE w cc n ex W (.Dict [some (.Constant (.str s) j p)] [.Constant (.int z) j' p'] pos) (mC (.dic [(.inr s, .int z)])) :=
  ⟨tDisp [(tC (.str s), tC (.int z))], fun X _ => pe_disp (pps_cons pe_str pe_int pps_nil) rfl rfl (by simp) (by simp), fun F env O σ G H st bd Q hg => by
  intro p hp
  refine ⟨upd_same, [(.inr s, .int z)], rfl, by simp, ?_⟩
  have e : mergeK [] [((.inr s : Key), V.int z)] = [(.inr s, .int z)] := rfl
  rw [e, upd_upd]
  exact hg _ _ (bd.laid hp) (Grow.laid (bd.free hp) hp) (.ref p) ⟨p, _, rfl, upd_same, _, _, rfl, rfl, rfl⟩⟩
end

/-! ### kinds of values -/
inductive BT where
  | NoneType | bool | int | str | tuple | list | dict
def BT.nm : BT → String
  | .NoneType => "NoneType" | .bool => "bool" | .int => "int" | .str => "str" | .tuple => "tuple" | .list => "list" | .dict => "dict"
def BT.sub : BT → BT → Bool
  | .NoneType, .NoneType => true | .bool, .bool => true | .bool, .int => true | .int, .int => true | .str, .str => true
  | .tuple, .tuple => true | .list, .list => true | .dict, .dict => true
  | _, _ => false
theorem BT.kit (a b : BT) : kitB a.nm b.nm = some (a.sub b) := by
  cases a <;> cases b <;> decide +kernel
def btOf : PV → Option BT
  | .non => some .NoneType
  | .bl _ => some .bool
  | .int _ => some .int
  | .str _ => some .str
  | .tup _ => some .tuple
  | .lst _ => some .list
  | .dic _ => some .dict
  | _ => none
theorem bt_ty {w : Wd} {G H : Hp} (s : Sub G H) {x : PV} {v : V} {b : BT} (r : RepX w G H x v) (e : btOf x = some b) : TyX w.K H v (.type b.nm) := by
  cases x with
  | non => cases e; cases r; exact .base .non
  | bl b => cases e; cases r; exact .base (.bl _)
  | int b => cases e; cases r; exact .base (.int _)
  | str b => cases e; cases r; exact .base (.str _)
  | tup b =>
    cases e
    obtain ⟨a, vs, rfl, h2, _⟩ := r
    rcases s.sqT h2 with (h | ⟨o, h⟩) | ⟨o, its, n, h, h', _⟩
    · exact .base (.tup h)
    · exact .fTuple h
    · exact .kTuple h h'
  | lst b => cases e; obtain ⟨a, vs, rfl, h2, _⟩ := r; exact .base (.lst h2)
  | dic b => cases e; obtain ⟨a, vs, rfl, h2, _⟩ := r; exact .base (.dK (s _ _ h2))
  | ins _ _ => cases e
  | fn _ => cases e
/-- isinstance(x, T) for one built-in class -/
def isiPV (b : BT) (x : PV) : Option PV := (btOf x).map fun a => .bl (a.sub b)
/-- .. for several -/
def isiPVs (bs : List BT) (x : PV) : Option PV := (btOf x).map fun a => .bl (bs.any a.sub)
theorem boot_isi : bootBuiltins "isinstance" = some (.builtin "isinstance") := by decide +kernel
def mOne (f : PV → Option PV) (m : ME) : ME := fun env st => (m env st).bind fun a st => match f a with
  | some z => .ok z st
  | none => .bad
section
variable {w : Wd} {cc : CC} {n : Nat} {ex : Ex} {W : WX} {xe ye ze : Expr} {es : List Expr} {pos p p' : Pos}
theorem boot_bt (b : BT) (h : b ≠ .NoneType) : bootBuiltins (Str.ofString b.nm) = some (.type b.nm) := by
  cases b <;> first | exact absurd rfl h | decide +kernel
/-- the name of a built-in class, as a value -/
theorem pe_bt {X : Cx} {b : BT} {p : Pos} (hX : CtxOk w cc n ex W X) (hb : b ≠ .NoneType) (hg : glB cc (Str.ofString b.nm) = true) (hm : w.mg (Str.ofString b.nm) = none) : PE X (.Name (Str.ofString b.nm) p) (tC (.ty b.nm)) :=
  pe_bltn (glB_gl hg hX) (by rw [hX.mg]; exact hm) (boot_bt b hb) rfl (okN_n (glB_ok hg)) (okN_d (glB_ok hg))
theorem se_isi1 {b : BT} {m : ME} (hst : star? xe = false) (h1 : SX w cc n ex W xe m) (hi : glB cc "isinstance" = true) (mi : w.mg "isinstance" = none) (hb : b ≠ .NoneType) (hg : glB cc (Str.ofString b.nm) = true) (hm : w.mg (Str.ofString b.nm) = none) :
    SE w cc n ex W (.Call (.Name "isinstance" p) [xe, .Name (Str.ofString b.nm) p'] [] pos) (mOne (isiPV b) m) := by
  obtain ⟨t1, p1, q1⟩ := h1
  refine ⟨tCB (rIsi w.K) (tCons t1 (tCons (tC (.ty b.nm)) tNil)), fun X hX => ?_, fun F env O σ G H st bd Q hg => ?_⟩
  · have hc := call_isi (X := X)
    rw [hX.K] at hc
    exact pe_callB hc (glB_gl hi hX) (by rw [hX.mg]; exact mi) boot_isi (pa_cons (p1 X hX) (pa_cons (pe_bt hX hb hg hm) pa_nil) (starEach_cons hst)) (okN_n (glB_ok hi)) (okN_d (glB_ok hi)) (starEach_cons hst) rfl
  · refine q1 F env O σ G H st bd _ (Good.imp (fun a st1 G1 H1 b1 g1 k1 v r1 => ?_) hg.bind)
    unfold isiPV at k1
    cases e : btOf a with
    | none => rw [e] at k1; exact k1.elim
    | some c =>
      rw [e] at k1
      exact ⟨v, .ty b.nm, .type c.nm, .type b.nm, c.sub b, rfl, .ty _, bt_ty b1.sub r1 e, kit_ty (BT.kit c b), k1.here b1 _ rfl⟩
/-- the names of a tuple of built-in classes -/
def btEs : List BT → List Expr → Bool
  | [], [] => true
  | b :: bs, .Name x _ :: es => decide (x = Str.ofString b.nm) && (match b with | .NoneType => false | _ => true) && btEs bs es
  | _, _ => false
def tBts : List BT → TA
  | [] => tNil
  | b :: bs => tCons (tC (.ty b.nm)) (tBts bs)
theorem tBts_run : ∀ (bs : List BT) {σ : L2.St} {H : Hp} {Q : List V → Hp → Prop}, Q (bs.map fun b => V.ty b.nm) H → tBts bs σ H Q
  | [], _, _, _, h => h
  | b :: bs, σ, H, Q, h => tBts_run bs (Q := fun xs H2 => Q (V.ty b.nm :: xs) H2) h
theorem pa_bts {X : Cx} (hX : CtxOk w cc n ex W X) : ∀ {bs : List BT} {es : List Expr}, btEs bs es = true → (bs.all fun b => glB cc (Str.ofString b.nm)) = true → (∀ b ∈ bs, w.mg (Str.ofString b.nm) = none) → PA X es (tBts bs) := by
  intro bs
  induction bs with
  | nil =>
    intro es h _ _
    cases es with
    | nil => exact pa_nil
    | cons e es => simp [btEs] at h
  | cons b bs ih =>
    intro es h hg hm
    cases es with
    | nil => simp [btEs] at h
    | cons e es =>
      cases e with
      | Name x p =>
        simp only [btEs, Bool.and_eq_true, decide_eq_true_eq] at h
        simp only [List.all_cons, Bool.and_eq_true] at hg
        have hb : b ≠ .NoneType := by
          intro z; subst z; simp at h
        have e := h.1.1
        subst e
        exact pa_cons (pe_bt hX hb hg.1 (hm b List.mem_cons_self)) (ih h.2 hg.2 fun c hc => hm c (List.mem_cons_of_mem _ hc))
      | _ => simp [btEs] at h
theorem kits {K : PySem.W.Frag} (a : BT) : ∀ bs : List BT, PySem.W.kitAny K (.type a.nm) (bs.map fun b => Value.type b.nm) = some (bs.any a.sub)
  | [] => kitAny_nil
  | b :: bs => by
    rw [List.map_cons]
    refine kitAny_cons (kit_ty (BT.kit a b)) (fun e => ?_) (fun e => ?_)
    · rw [kits a bs, List.any_cons, e]; rfl
    · rw [List.any_cons, e]; rfl
theorem clsvs : ∀ bs : List BT, Paired ClsV (bs.map fun b => V.ty b.nm) (bs.map fun b => Value.type b.nm)
  | [] => .nil
  | b :: bs => .cons (.ty _) (clsvs bs)
theorem se_isiT {bs : List BT} {m : ME} {k : Nat} {pt : Pos} (hst : star? xe = false) (h1 : SX w cc n ex W xe m) (hi : glB cc "isinstance" = true) (mi : w.mg "isinstance" = none) (hl : bs.length ≤ 1000) (hes : btEs bs es = true) (hg : (bs.all fun b => glB cc (Str.ofString b.nm)) = true) (hm : ∀ b ∈ bs, w.mg (Str.ofString b.nm) = none) :
    SE w cc n ex W (.Call (.Name "isinstance" p) [xe, .Tuple es k pt] [] pos) (mOne (isiPVs bs) m) := by
  obtain ⟨t1, p1, q1⟩ := h1
  refine ⟨tCB (rIsiT w.K) (tCons t1 (tCons (tTup (tBts bs)) tNil)), fun X hX => ?_, fun F env O σ G H st bd Q hg => ?_⟩
  · have hc := call_isiT (X := X)
    rw [hX.K] at hc
    exact pe_callB hc (glB_gl hi hX) (by rw [hX.mg]; exact mi) boot_isi (pa_cons (p1 X hX) (pa_cons (pe_tup (pa_bts hX hes hg hm)) pa_nil) (starEach_cons hst)) (okN_n (glB_ok hi)) (okN_d (glB_ok hi)) (starEach_cons hst) rfl
  · refine q1 F env O σ G H st bd _ (Good.imp (fun a st1 G1 H1 b1 g1 k1 v r1 => ?_) hg.bind)
    unfold isiPVs at k1
    cases e : btOf a with
    | none => rw [e] at k1; exact k1.elim
    | some c =>
      rw [e] at k1
      refine tBts_run bs ⟨by rw [List.length_map]; exact small (by omega), fun q hq => ?_⟩
      have b2 := b1.held (o := .tup (bs.map fun b => V.ty b.nm)) hq
      have r2 := r1.later (Grow.held (o := .tup (bs.map fun b => V.ty b.nm)) hq) b1.pen
      exact ⟨v, q, _, .type c.nm, bs.map fun b => Value.type b.nm, bs.any c.sub, rfl, upd_same, clsvs bs, bt_ty b2.sub r2 e, kits c bs, k1 _ _ b2 (Grow.held hq) _ rfl⟩
end
end Mir

/-! Mir, part 7: repr; caught exceptions looked at. -/
namespace Mir
open PySem PySem.Spec PyProof.Rows L2

/-! ### repr -/
mutual
def okD : PV → Bool
  | .non | .bl _ | .int _ | .str _ => true
  | .tup xs => okDs xs
  | .lst xs => okDs xs
  | .dic kvs => okDk kvs
  | .ins _ _ => false
  | .fn _ => false
def okDs : List PV → Bool
  | [] => true
  | x :: xs => okD x && okDs xs
def okDk : List (Key × PV) → Bool
  | [] => true
  | (_, x) :: xs => okD x && okDk xs
end
/-- the written part tells of sys.modules that it is no list -/
def SysOk (K : PySem.W.Frag) : Prop := ∃ o, K.lookup sysModules = some o ∧ o.cls ≠ .type "list"
section
variable {w : Wd} {X : Cx} {pins : List (Addr × Obj)} {σ : L2.St} {G H : Hp} {s : Shared}
def keyD : Key → PyData
  | .inl i => .int i
  | .inr s => .str s
theorem reads_key {h : Heap} {P : Program} {wd : World} {k : Key} {v : Value} (q : (mixKind P wd).is k v = true) : Reads h v (keyD k) [] := by
  rcases keyIs_shape (show keyIs k v = true from q) with ⟨i, t, rfl, rfl⟩ | ⟨x, t, rfl, rfl⟩
  · exact .int i t
  · exact .str x t
theorem pairs_keys {h : Heap} {P : Program} {wd : World} {ws : List (Key × V)} {kvs : List (Key × PV)} : ∀ {es : List DictEntry} {vs : List (Key × Value)}, Pairs (mixKind P wd) es vs → KV ws vs → RepK w G kvs ws → ReadsAll h (es.map (·.key)) ((toDk kvs).map (·.1)) [] := by
  intro es vs p
  induction p generalizing ws kvs with
  | nil =>
    intro k r
    cases k
    cases kvs with
    | nil => exact .nil
    | cons a b => obtain ⟨ka, xa⟩ := a; obtain ⟨_, _, q, _⟩ := r; cases q
  | @cons e kv es vs h1 h2 h3 ih =>
    intro k r
    cases k with
    | @cons a b as bs q1 q2 =>
      cases kvs with
      | nil => cases r
      | cons c kvs =>
        obtain ⟨kc, xc⟩ := c
        obtain ⟨v, ws', q, r1, r2⟩ := r
        cases q
        have hk : kc = kv.1 := q1.1
        have ik := ih q2 r2
        subst hk
        have rk := reads_key (h := h) h1
        have e2 : (toDk ((kv.1, xc) :: kvs)).map (·.1) = keyD kv.1 :: (toDk kvs).map (·.1) := by
          cases kv.1 <;> rfl
        rw [e2]
        exact ReadsAll.cons rk ik
mutual
theorem Rep.reads (hS : SysOk w.K) (hK : X.K = w.K) (I : Inv X pins σ H s) (sb : Sub G H) : ∀ (x : PV) (v : V) (u : Value), Rep w G x v → RelV v u → okD x = true → ∃ as, Reads s.heap u (toD x) as ∧ sysModules ∉ as
  | .non, v, u, h, r, _ => by cases h; cases r; rw [toD]; exact ⟨_, .none, by simp⟩
  | .bl _, v, u, h, r, _ => by cases h; cases r; rw [toD]; exact ⟨_, .bool _, by simp⟩
  | .int _, v, u, h, r, _ => by cases h; obtain ⟨t, rfl⟩ := r; rw [toD]; exact ⟨_, .int _ _, by simp⟩
  | .str _, v, u, h, r, _ => by cases h; obtain ⟨t, rfl⟩ := r; rw [toD]; exact ⟨_, .str _ _, by simp⟩
  | .tup xs, v, u, ⟨a, vs, h1, h2, h3⟩, r, f => by
    subst h1; cases r; rw [toD]
    have h2' := sb.sqT h2
    rw [← hK] at h2'
    obtain ⟨its, rv, ⟨o, ho, hc, n, hd⟩, _⟩ := I.tuple h2'
    obtain ⟨as, hr, hn⟩ := RepL.reads hS hK I sb xs vs its h3 rv (by simpa [okD] using f)
    exact ⟨_, .tuple ho hc hd (by simpa using hr), hn⟩
  | .lst xs, v, u, ⟨a, vs, h1, h2, h3⟩, r, f => by
    subst h1; cases r; rw [toD]
    obtain ⟨its, rv, ⟨o, n, ho, hc, _, hd⟩, _⟩ := I.list (.of (sb _ _ h2))
    obtain ⟨as, hr, hn⟩ := RepL.reads hS hK I sb xs vs its h3 rv (by simpa [okD] using f)
    refine ⟨_, .list ho hc hd (by simpa using hr), fun hm => ?_⟩
    rcases List.mem_cons.mp hm with e | hm
    · obtain ⟨o', k1, k2⟩ := hS
      rw [← hK] at k1
      have := I.kIn _ _ k1
      rw [e, ho] at this
      cases this
      exact k2 hc
    · exact hn hm
  | .dic kvs, v, u, ⟨a, ws, h1, h2, h3⟩, r, f => by
    subst h1; cases r; rw [toD]
    obtain ⟨hz, hs, vs, rk, o, es, ep, ho, hx, hd, hko, hp, _⟩ := I.hok a _ (sb _ _ h2)
    have hk := pairs_keys (w := w) (G := G) (h := s.heap) hp rk h3
    obtain ⟨as, hv, hn⟩ := RepK.reads hS hK I sb kvs ws vs es.toList h3 rk hp (by simpa [okD] using f)
    refine ⟨_, .dict ho hx.1 hd hk hv, fun hm => ?_⟩
    rcases List.mem_append.mp hm with hm | hm
    · rcases List.mem_cons.mp hm with e | hm
      · rw [← e] at hs; simp at hs
      · cases hm
    · exact hn hm
  | .ins _ _, v, u, h, r, f => by simp [okD] at f
  | .fn _, v, u, h, r, f => by simp [okD] at f
theorem RepL.reads (hS : SysOk w.K) (hK : X.K = w.K) (I : Inv X pins σ H s) (sb : Sub G H) : ∀ (x : List PV) (v : List V) (u : List Value), RepL w G x v → Vals v u → okDs x = true → ∃ as, ReadsAll s.heap u (toDs x) as ∧ sysModules ∉ as
  | [], v, u, h, r, _ => by cases h; cases r; rw [toDs]; exact ⟨_, .nil, by simp⟩
  | x :: xs, _, u, ⟨v, ws, h1, h2, h3⟩, r, f => by
    subst h1
    cases r with
    | cons r1 r2 =>
      simp only [okDs, Bool.and_eq_true] at f
      rw [toDs]
      obtain ⟨as, k1, n1⟩ := Rep.reads hS hK I sb x v _ h2 r1 f.1
      obtain ⟨bs, k2, n2⟩ := RepL.reads hS hK I sb xs ws _ h3 r2 f.2
      exact ⟨_, .cons k1 k2, fun hm => (List.mem_append.mp hm).elim n1 n2⟩
theorem RepK.reads (hS : SysOk w.K) (hK : X.K = w.K) (I : Inv X pins σ H s) (sb : Sub G H) : ∀ (x : List (Key × PV)) (v : List (Key × V)) (u : List (Key × Value)) (es : List DictEntry), RepK w G x v → KV v u → Pairs (mixKind X.prog X.w) es u → okDk x = true → ∃ as, ReadsAll s.heap (es.map (·.val)) ((toDk x).map (·.2)) as ∧ sysModules ∉ as
  | [], v, u, es, h, r, p, _ => by cases h; cases r; cases p; exact ⟨_, .nil, by simp⟩
  | (k, x) :: xs, _, u, es, ⟨v, ws, h1, h2, h3⟩, r, p, f => by
    subst h1
    cases r with
    | cons r1 r2 =>
      cases p with
      | cons p1 p2 p3 =>
        simp only [okDk, Bool.and_eq_true] at f
        obtain ⟨as, k1, n1⟩ := Rep.reads hS hK I sb x v _ h2 r1.2 f.1
        obtain ⟨bs, k2, n2⟩ := RepK.reads hS hK I sb xs ws _ _ h3 r2 p3 f.2
        have e : (toDk ((k, x) :: xs)).map (·.2) = toD x :: (toDk xs).map (·.2) := by cases k <;> rfl
        rw [e, List.map_cons, p2]
        exact ⟨_, .cons k1 k2, fun hm => (List.mem_append.mp hm).elim n1 n2⟩
end
end
def reprB (x : PV) : Bool := okD x && (toD x).showable && decide ((toD x).depth ≤ 60) && decide ((toD x).shown.length ≤ 100000)
def reprPV (x : PV) : Option PV := if reprB x = true then some (.str (toD x).shown) else none
/-- the reading: some frozen part, a value of it -/
def rReprM (w : Wd) : List V → Hp → VK → Prop := fun us H Q => ∃ (G : Hp) (x : PV) (v : V), Sub G H ∧ us = [v] ∧ Rep w G x v ∧ okD x = true ∧ (toD x).showable = true ∧ (toD x).depth ≤ 60 ∧ (toD x).shown.length ≤ 100000 ∧ Q (.str (toD x).shown) H
section
variable {w : Wd} {cc : CC} {n : Nat} {ex : Ex} {W : WX} {xe ye ze : Expr} {es : List Expr} {pos p p' : Pos}
theorem call_reprM (hS : SysOk w.K) : ∀ X, CtxOk w cc n ex W X → CallR X (.builtin "repr") (rReprM w) := fun X hX => by
  intro pins s σ H xs us Q I r h
  obtain ⟨G, x, v, sb, rfl, hr, f1, f2, f3, f4, q⟩ := h
  obtain ⟨u, rfl, ru⟩ := vals1 r
  obtain ⟨as, hR, hn⟩ := Rep.reads hS hX.K I sb x v u hr ru f1
  have hsz := small f4
  cases x with
  | non => cases hr; cases ru; exact PySem.P.repr_of_none ⟨.str _, H, I.tok _, ⟨_, by rw [toD]; rfl⟩, q⟩
  | bl b => cases hr; cases ru; exact PySem.P.repr_of_bool ⟨.str _, H, I.tok _, ⟨_, by rw [toD]; rfl⟩, q⟩
  | int b =>
    cases hr; obtain ⟨t, rfl⟩ := ru
    rw [toD] at f2 q
    exact PySem.P.repr_of_int (of_decide_eq_true f2) ⟨.str _, H, I.tok _, ⟨_, rfl⟩, q⟩
  | str b =>
    cases hr; obtain ⟨t, rfl⟩ := ru
    rw [toD] at hsz q
    exact PySem.P.repr_of_str ⟨.str _, H, I.tok _, ⟨_, rfl⟩, q⟩ hsz
  | tup b =>
    obtain ⟨a, vs, rfl, _, _⟩ := hr
    cases ru
    exact repr_of_reads' hR f2 (fun _ => hn) hX.room.gd (by have := hX.room.un; omega) (fun _ _ e => e) (fun h' u tk hk => ⟨.str _, H, I.kept hk, ⟨_, rfl⟩, q⟩) hsz
  | lst b =>
    obtain ⟨a, vs, rfl, _, _⟩ := hr
    cases ru
    exact repr_of_reads' hR f2 (fun _ => hn) hX.room.gd (by have := hX.room.un; omega) (fun _ _ e => e) (fun h' u tk hk => ⟨.str _, H, I.kept hk, ⟨_, rfl⟩, q⟩) hsz
  | dic b =>
    obtain ⟨a, vs, rfl, _, _⟩ := hr
    cases ru
    exact repr_of_reads' hR f2 (fun _ => hn) hX.room.gd (by have := hX.room.un; omega) (fun _ _ e => e) (fun h' u tk hk => ⟨.str _, H, I.kept hk, ⟨_, rfl⟩, q⟩) hsz
  | ins _ _ => simp [okD] at f1
  | fn _ => simp [okD] at f1
/-- repr(x): x a value (not a list that is one's own) -/
theorem se_repr {m : ME} (hS : SysOk w.K) (hst : star? xe = false) (hg : glB cc "repr" = true) (hm : w.mg "repr" = none) (h1 : SE w cc n ex W xe m) : SE w cc n ex W (.Call (.Name "repr" p) [xe] [] pos) (mOne reprPV m) := by
  obtain ⟨t1, p1, q1⟩ := h1
  refine ⟨tCB (rReprM w) (tCons t1 tNil), fun X hX => pe_callB (call_reprM hS X hX) (glB_gl hg hX) (by rw [hX.mg]; exact hm) (by decide +kernel) (pa_cons (p1 X hX) pa_nil (starEach_cons hst)) (okN_n (glB_ok hg)) (okN_d (glB_ok hg)) (starEach_cons hst) rfl, fun F env O σ G H st bd Q hg => ?_⟩
  refine q1 F env O σ G H st bd _ (Good.imp (fun a st1 G1 H1 b1 g1 k1 v r1 => ?_) hg.bind)
  unfold reprPV at k1
  by_cases hb : reprB a = true
  · rw [if_pos hb] at k1
    unfold reprB at hb
    simp only [Bool.and_eq_true, decide_eq_true_eq] at hb
    exact ⟨G1, a, v, b1.sub, rfl, r1, hb.1.1.1, hb.1.1.2, hb.1.2, hb.2, k1.here b1 _ rfl⟩
  · rw [if_neg hb] at k1; exact k1.elim
end
end Mir

/-! Mir, part 8: caught exceptions looked at: e.field, isinstance(e, C). -/
namespace Mir
open PySem PySem.Spec PyProof.Rows L2

structure ExI where
  name : Str
  fields : List Str
/-- what the written part says of the exceptions' classes -/
structure TopX (w : Wd) (ts : List ExI) (root : Nat) : Prop where
  nm : ∀ c e, ts[c]? = some e → w.mg e.name = some (.ref (w.ca c))
  xc : ∀ c e, ts[c]? = some e → ExcC w.K (w.ca c)
  no : ∀ c e f, ts[c]? = some e → f ∈ e.fields → PySem.W.findIn w.K (.ref (w.ca c)) f = some none
  kit : ∀ c c' e e', ts[c]? = some e → ts[c']? = some e' → PySem.W.kitOne w.K (.ref (w.ca c)) (.ref (w.ca c')) = some (c == c' || c' == root)
  kitV : ∀ c e, ts[c]? = some e → PySem.W.kitOne w.K (.ref (w.ca c)) (.type "ValueError") = some true
  exm : ∀ c e, ts[c]? = some e → PySem.W.exmOne w.K (.ref (w.ca c)) (.ref (w.ca root)) = some true

theorem exc_at {X : Cx} {w : Wd} {cc : CC} {n : Nat} {ex : Ex} {W : WX} {pins : List (Addr × Obj)} {σ : L2.St} {H : Hp} {s : Shared} {a C : Addr} {d : Option Addr} (hX : CtxOk w cc n ex W X) (I : Inv X pins σ H s) (hm : (a, Value.ref C, d) ∈ ex) (hd : ∀ dd, d = some dd → ∃ od, s.heap.get? dd = some od) :
    ∃ oe od, PySem.W.InstAt s.heap a oe C od ∧ (∀ dd o, d = some dd → s.heap.get? dd = some o → od = some o) := by
  obtain ⟨oe, h1, h2, vs, h3⟩ := hX.ex _ hm
  obtain ⟨ha, _⟩ := I.pin (a, oe) (List.mem_append_left _ h1)
  have hz1 : oe.cls = .ref C := h2.1
  have hz2 : oe.dict = d := h2.2
  have nc : PySem.W.notCls oe = true := by unfold PySem.W.notCls; rw [h3] <;> rfl
  cases d with
  | none => exact ⟨oe, none, ⟨ha, hz1, nc, by rw [hz2]; trivial⟩, fun dd o z => nomatch z⟩
  | some dd =>
    obtain ⟨od, hod⟩ := hd dd rfl
    refine ⟨oe, some od, ⟨ha, hz1, nc, by rw [hz2]; exact hod⟩, fun dd' o z q => ?_⟩
    cases z
    rw [hod] at q
    exact q
section
variable {w : Wd} {cc : CC} {n : Nat} {ex : Ex} {W : WX} {xe ye ze : Expr} {es : List Expr} {pos p p' : Pos} {ts : List ExI} {root : Nat}
def mAttE (i : Nat) (f : Str) : ME := fun env st => match env.getD i none with
  | some (.err c fs) => (match fs.lookup f with
    | some x => .ok x st
    | none => .bad)
  | _ => .bad
def tAttE (w : Wd) (ts : List ExI) (ex : Ex) (i : Nat) (f : Str) : TE := fun σ H Q => ∃ (a dd : Addr) (c : Nat) (e : ExI) (ws : List (Str × V)) (v : V), σ[i]? = some (some (.ref a)) ∧ ts[c]? = some e ∧ f ∈ e.fields ∧ (a, Value.ref (w.ca c), some dd) ∈ ex ∧ H dd = some (.xd ws) ∧ ws.lookup f = some v ∧ Q v H
theorem pe_attE (T : TopX w ts root) {s : Str} {i : Nat} {f : Str} (h : varOk cc i s = true) : ∀ X, CtxOk w cc n ex W X → PE X (.Attribute (.Name s p) f pos) (tAttE w ts ex i f) := fun X hX => by
  refine ⟨fun pins sh σ H Q I hq => ?_⟩
  obtain ⟨a, dd, c, e, ws, v, hσ, hc, hf, hm, hH, hl, q⟩ := hq
  refine attr_of rfl (thn ((pe_varM (p := p) h X hX).run pins sh σ H (fun x H1 => x = .ref a ∧ H1 = H) I ⟨_, hσ, rfl, rfl⟩) fun u s1 hh => ?_)
  obtain ⟨x, H1, I1, rx, ex1, eH⟩ := hh
  subst ex1 eH
  obtain rfl : u = Value.ref a := rx
  obtain ⟨mA, hns, hr⟩ := (show ObjOk X.prog X.w H1 s1.heap dd (.xd ws) from I1.hok dd _ hH)
  obtain ⟨od, ho, hlk⟩ := lookIn_ns hns
  obtain ⟨u, hu, ru⟩ := RelO.some_of (v := v) (o := mA f) (by rw [← hl]; exact hr f)
  obtain ⟨oe, od', J, hod⟩ := exc_at hX I1 hm (fun dd' z => by cases z; exact ⟨od, ho⟩)
  have e1 := hod dd od rfl ho
  subst e1
  have C := T.xc c e hc
  have K := hX.K
  rw [← K] at C
  exact HandSPX.exc_get I1.kIn J C.hg C.hk C.hs (PySem.W.findObj_own C.hd (by rw [K]; exact T.no c e f hc hf) rfl (by rw [hlk, hu])) (handed_of ru) ⟨v, H1, I1.tok _, ru, q⟩
/-- the fields that an exception of the class has -/
def fieldOk (ts : List ExI) (c : Nat) (f : Str) : Bool := match ts[c]? with
  | some e => e.fields.contains f
  | none => false
def mAttE' (ts : List ExI) (i : Nat) (f : Str) : ME := fun env st => match env.getD i none with
  | some (.err c fs) => if fieldOk ts c f = true then (match fs.lookup f with
    | some x => .ok x st
    | none => .bad) else .bad
  | _ => .bad
theorem se_attE (T : TopX w ts root) {s : Str} {i : Nat} {f : Str} (h : varOk cc i s = true) : SE w cc n ex W (.Attribute (.Name s p) f pos) (mAttE' ts i f) := by
  refine ⟨tAttE w ts ex i f, pe_attE T h, fun F env O σ G H st bd Q hg => ?_⟩
  have hs := bd.sl i
  unfold mAttE' at hg
  cases e : env.getD i none with
  | none => rw [e] at hg; exact hg.elim
  | some sv =>
    rw [e] at hg hs
    cases sv with
    | err c fs =>
      obtain ⟨a, d, h1, h2, h3⟩ := hs
      dsimp only at hg
      by_cases hf : fieldOk ts c f = true
      · rw [if_pos hf] at hg
        cases e2 : fs.lookup f with
        | none => rw [e2] at hg; exact hg.elim
        | some x =>
          rw [e2] at hg
          rcases h3 with ⟨k1, _⟩ | ⟨dd, ws, k1, k2, k3⟩
          · subst k1; cases e2
          · subst k1
            obtain ⟨v, l1, l2⟩ := k3 f x e2
            unfold fieldOk at hf
            cases e3 : ts[c]? with
            | none => rw [e3] at hf; cases hf
            | some ei =>
              rw [e3] at hf
              exact ⟨a, dd, c, ei, ws, v, getD_some h1, e3, by simpa using hf, h2, bd.sub _ _ k2, l1, hg.here bd v l2⟩
      · rw [if_neg hf] at hg; exact hg.elim
    | _ => exact hg.elim

/-! ### isinstance(e, C) -/
/-- which: a class of ours, or ValueError -/
inductive EC where
  | own (c : Nat)
  | ve
def EC.ans (root : Nat) (c : Nat) : EC → Bool
  | .own c' => c == c' || c' == root
  | .ve => true
def EC.cv (w : Wd) : EC → Value
  | .own c => .ref (w.ca c)
  | .ve => .type "ValueError"
def EC.v (w : Wd) : EC → V
  | .own c => .ref (w.ca c)
  | .ve => .ty "ValueError"
def mIsE (n : Nat) (root : Nat) (i : Nat) (k : EC) : ME := fun env st => match env.getD i none with
  | some (.err c fs) => if c < n then .ok (.bl (k.ans root c)) st else .bad
  | _ => .bad
def rIsEM (w : Wd) (ts : List ExI) (root : Nat) (ex : Ex) (k : EC) : List V → Hp → VK → Prop := fun xs H Q => ∃ (a : Addr) (c : Nat) (e : ExI) (d : Option Addr), xs = [.ref a, k.v w] ∧ ts[c]? = some e ∧ (a, Value.ref (w.ca c), d) ∈ ex ∧ (∀ dd, d = some dd → ∃ ws, H dd = some (.xd ws)) ∧ Q (.bl (k.ans root c)) H
theorem call_isEM (T : TopX w ts root) {k : EC} (hk : ∀ c, k = .own c → ∃ e, ts[c]? = some e) : ∀ X, CtxOk w cc n ex W X → CallR X (.builtin "isinstance") (rIsEM w ts root ex k) := fun X hX => by
  intro pins s σ H xs us Q I r h
  obtain ⟨a, c, e, d, rfl, hc, hm, hd, q⟩ := h
  obtain ⟨u1, u2, rfl, r1, r2⟩ := vals2 r
  cases (show u1 = Value.ref a from r1)
  have e2 : u2 = k.cv w := by cases k <;> exact r2
  subst e2
  obtain ⟨oe, od, J, _⟩ := exc_at hX I hm (fun dd z => by
    obtain ⟨ws, ho⟩ := hd dd z
    obtain ⟨mA, hns, _⟩ := (show ObjOk X.prog X.w H s.heap dd (.xd ws) from I.hok dd _ ho)
    obtain ⟨od, h1, _⟩ := lookIn_ns hns
    exact ⟨od, h1⟩)
  have C := T.xc c e hc
  have kk : PySem.W.kitOne w.K (.ref (w.ca c)) (k.cv w) = some (k.ans root c) := by
    cases k with
    | own c' => obtain ⟨e', he'⟩ := hk c' rfl; exact T.kit c c' e e' hc he'
    | ve => exact T.kitV c e hc
  rw [← hX.K] at C kk
  exact PySem.W.kia_one (PySem.W.kitx_exc (by obtain ⟨cd, hcd, _⟩ := PySem.W.any_some C.hd; rw [hcd]; rfl) C.hg C.hk C.hs C.ha C.hn C.ht C.hm) I.kIn J kk (fun z => nomatch z) fun tk => ⟨.bl _, H, I.tok tk, rfl, q⟩
/-- the class's name, as a value -/
def ecOk (ts : List ExI) (cc : CC) (k : EC) (x : Str) : Bool := glB cc x && (match k with
  | .own c => (match ts[c]? with
    | some e => decide (e.name = x)
    | none => false)
  | .ve => decide (x = "ValueError"))
theorem se_isE (T : TopX w ts root) {p2 : Pos} {s x : Str} {i : Nat} {k : EC} (h : varOk cc i s = true) (hi : glB cc "isinstance" = true) (mi : w.mg "isinstance" = none) (mv : w.mg "ValueError" = none) (hk : ecOk ts cc k x = true) :
    SE w cc n ex W (.Call (.Name "isinstance" p) [.Name s p', .Name x p2] [] pos) (mIsE ts.length root i k) := by
  unfold ecOk at hk
  simp only [Bool.and_eq_true] at hk
  obtain ⟨hgx, hk⟩ := hk
  have hk1 : ∀ c, k = .own c → ∃ e, ts[c]? = some e := fun c z => by
    subst z
    cases q : ts[c]? with
    | none => simp [q] at hk
    | some e => exact ⟨e, rfl⟩
  refine ⟨tCB (rIsEM w ts root ex k) (tCons (tVar i) (tCons (tC (k.v w)) tNil)), fun X hX => ?_, fun F env O σ G H st bd Q hg => ?_⟩
  · have hv : PE X (.Name x p2) (tC (k.v w)) := by
      cases k with
      | own c =>
        cases q : ts[c]? with
        | none => simp [q] at hk
        | some e =>
          simp [q] at hk
          subst hk
          exact pe_glob (glB_gl hgx hX) (by rw [hX.mg]; exact T.nm c e q) rfl (okN_d (glB_ok hgx))
      | ve =>
        have e := of_decide_eq_true hk
        subst e
        exact pe_bltn (glB_gl hgx hX) (by rw [hX.mg]; exact mv) PyProof.Rows.Boot.«ValueError» rfl (okN_n (glB_ok hgx)) (okN_d (glB_ok hgx))
    exact pe_callB (call_isEM T hk1 X hX) (glB_gl hi hX) (by rw [hX.mg]; exact mi) boot_isi (pa_cons (pe_varM h X hX) (pa_cons hv pa_nil)) (okN_n (glB_ok hi)) (okN_d (glB_ok hi))
  · have hs := bd.sl i
    unfold mIsE at hg
    cases e : env.getD i none with
    | none => rw [e] at hg; exact hg.elim
    | some sv =>
      rw [e] at hg hs
      cases sv with
      | err c fs =>
        obtain ⟨a, d, h1, h2, h3⟩ := hs
        dsimp only at hg
        by_cases hc : c < ts.length
        · rw [if_pos hc] at hg
          refine ⟨_, getD_some h1, a, c, ts[c], d, rfl, by simp [hc], h2, fun dd z => ?_, hg.here bd _ rfl⟩
          rcases h3 with ⟨_, k2⟩ | ⟨dd', ws, k1, k2, _⟩
          · rw [k2] at z; cases z
          · rw [k1] at z; cases z; exact ⟨ws, bd.sub _ _ k2⟩
        · rw [if_neg hc] at hg; exact hg.elim
      | _ => exact hg.elim
end
end Mir

/-! Mir, part 9: statements. -/
namespace Mir
open PySem PySem.Spec PyProof.Rows L2

/-- what holds when a def is left -/
structure Fin (w : Wd) (F : Fr0) (G H : Hp) (st : Pen) : Prop where
  sub : Sub G H
  np : G F.p = none
  pen : PenAt w.K G H F.p st
  gr : Grow F.p F.G0 F.H0 G H
theorem Bd.fin {w : Wd} {ex : Ex} {F : Fr0} {env : Env} {O : Nat → Addr} {σ : L2.St} {G H : Hp} {st : Pen} (b : Bd w ex F env O σ G H st) : Fin w F G H st := ⟨b.sub, b.np, b.pen, b.gr⟩
def GoodS (w : Wd) (ex : Ex) (F : Fr0) (W : WX) (G : Hp) (D : Ends) : RS → Prop
  | .nx env st => ∀ O σ G' H', Bd w ex F env O σ G' H' st → Sub G G' → D.nx σ H'
  | .bk env st => ∀ O σ G' H', Bd w ex F env O σ G' H' st → Sub G G' → D.bk σ H'
  | .ct env st => ∀ O σ G' H', Bd w ex F env O σ G' H' st → Sub G G' → D.ct σ H'
  | .rt r st => ∀ v G' H', Fin w F G' H' st → Rep w G' r v → D.rt v H'
  | .exn c fs env st => ∀ O σ G' H' d, Bd w ex F env O σ G' H' st → Sub G G' → XdR w G' fs d → W (.ref (w.ca c)) d σ H'
  | .bad => False
structure CtxS (w : Wd) (cc : CC) (n : Nat) (ex : Ex) (W : WX) (X : Cx) : Prop where
  c : CtxOk w cc n ex W X
  pass : PassesOwn (model X.prog X.w) X.A X.env X.xe
  stk : X.stack = X.env :: X.outer
  frame : X.env.frame = some X.env.locals
def SS (w : Wd) (cc : CC) (n : Nat) (ex : Ex) (W : WX) (s : Stmt) (m : MS) : Prop :=
  ∃ t : TS, (∀ X, CtxS w cc n ex W X → PS X s t) ∧ ∀ (F : Fr0) (env : Env) (O : Nat → Addr) (σ : L2.St) (G H : Hp) (st : Pen), Bd w ex F env O σ G H st → ∀ D : Ends, GoodS w ex F W G D (m env st) → t D σ H
def SSs (w : Wd) (cc : CC) (n : Nat) (ex : Ex) (W : WX) (s : List Stmt) (m : MS) : Prop :=
  ∃ t : TS, (∀ X, CtxS w cc n ex W X → PSs X s t) ∧ ∀ (F : Fr0) (env : Env) (O : Nat → Addr) (σ : L2.St) (G H : Hp) (st : Pen), Bd w ex F env O σ G H st → ∀ D : Ends, GoodS w ex F W G D (m env st) → t D σ H
section
variable {w : Wd} {ex : Ex} {F : Fr0} {env : Env} {O : Nat → Addr} {σ : L2.St} {W : WX} {G H G1 H1 : Hp} {st : Pen} {D : Ends}
theorem GoodS.later {r : RS} (s : Sub G G1) (h : GoodS w ex F W G D r) : GoodS w ex F W G1 D r := by
  cases r with
  | nx env st => exact fun O σ G' H' b k => h O σ G' H' b (s.trans k)
  | bk env st => exact fun O σ G' H' b k => h O σ G' H' b (s.trans k)
  | ct env st => exact fun O σ G' H' b k => h O σ G' H' b (s.trans k)
  | rt r st => exact h
  | exn c fs env st => exact fun O σ G' H' d b k => h O σ G' H' d b (s.trans k)
  | bad => exact h

/-! ### the frame changes -/
theorem getD_set {α : Type} {l : List (Option α)} {i j : Nat} {x : Option α} : (l.set i x).getD j none = if i = j ∧ i < l.length then x else l.getD j none := by
  rw [List.getD_eq_getElem?_getD, List.getD_eq_getElem?_getD]
  by_cases h : i = j
  · subst h
    by_cases hl : i < l.length
    · rw [List.getElem?_set_self hl, if_pos ⟨rfl, hl⟩]; rfl
    · rw [if_neg (fun z => hl z.2), List.getElem?_eq_none (by simpa using hl), List.getElem?_eq_none (by simpa using hl)]
  · rw [List.getElem?_set_ne h, if_neg (fun z => h z.1)]
/-- a name gets a value -/
theorem Bd.setPv {i : Nat} {x : PV} {v : V} (b : Bd w ex F env O σ G H st) (r : Rep w G x v) : Bd w ex F (env.set i (some (.pv x))) O (σ.set i (some v)) G H st where
  sub := b.sub
  np := b.np
  pen := b.pen
  gr := b.gr
  len := by simp [b.len]
  sl := fun j => by
    rw [getD_set, getD_set, b.len]
    by_cases h : i = j ∧ i < env.length
    · rw [if_pos h, if_pos h]; exact ⟨v, rfl, r⟩
    · rw [if_neg h, if_neg h]; exact b.sl j
  ow := fun j xs e => by
    rw [getD_set] at e
    by_cases h : i = j ∧ i < env.length
    · rw [if_pos h] at e; cases e
    · rw [if_neg h] at e; exact b.ow j xs e
  inj := fun j k xs ys e1 e2 => by
    rw [getD_set] at e1 e2
    by_cases h : i = j ∧ i < env.length
    · rw [if_pos h] at e1; cases e1
    · by_cases h' : i = k ∧ i < env.length
      · rw [if_pos h'] at e2; cases e2
      · rw [if_neg h] at e1; rw [if_neg h'] at e2; exact b.inj j k xs ys e1 e2
/-- a name is forgotten -/
theorem Bd.unset {i : Nat} (b : Bd w ex F env O σ G H st) : Bd w ex F (env.set i none) O (σ.set i none) G H st where
  sub := b.sub
  np := b.np
  pen := b.pen
  gr := b.gr
  len := by simp [b.len]
  sl := fun j => by
    rw [getD_set, getD_set, b.len]
    by_cases h : i = j ∧ i < env.length
    · rw [if_pos h, if_pos h]; trivial
    · rw [if_neg h, if_neg h]; exact b.sl j
  ow := fun j xs e => by
    rw [getD_set] at e
    by_cases h : i = j ∧ i < env.length
    · rw [if_pos h] at e; cases e
    · rw [if_neg h] at e; exact b.ow j xs e
  inj := fun j k xs ys e1 e2 => by
    rw [getD_set] at e1 e2
    by_cases h : i = j ∧ i < env.length
    · rw [if_pos h] at e1; cases e1
    · by_cases h' : i = k ∧ i < env.length
      · rw [if_pos h'] at e2; cases e2
      · rw [if_neg h] at e1; rw [if_neg h'] at e2; exact b.inj j k xs ys e1 e2
/-- a name gets a list of its own -/
theorem Bd.setOl {i : Nat} {xs : List PV} {vs : List V} {a : Addr} (b : Bd w ex F env O σ G H st) (ha : H a = some (.lst vs)) (hg : G a = none) (h0 : F.H0 a = none) (hp : a ≠ F.p) (hO : ∀ j ys, j ≠ i → env.getD j none = some (.ol ys) → O j ≠ a) (r : RepL w G xs vs) :
    Bd w ex F (env.set i (some (.ol xs))) (fun j => if j = i then a else O j) (σ.set i (some (.ref a))) G H st where
  sub := b.sub
  np := b.np
  pen := b.pen
  gr := b.gr
  len := by simp [b.len]
  sl := fun j => by
    rw [getD_set, getD_set, b.len]
    by_cases h : i = j ∧ i < env.length
    · rw [if_pos h, if_pos h]
      obtain ⟨e, _⟩ := h
      subst e
      exact ⟨vs, by simp, by simp [ha], r⟩
    · rw [if_neg h, if_neg h]
      have hs := b.sl j
      by_cases hj : j = i
      · have : ¬ i < env.length := fun z => h ⟨hj.symm, z⟩
        have e1 : env.getD j none = none := by
          rw [List.getD_eq_getElem?_getD, List.getElem?_eq_none (by rw [hj]; omega)]; rfl
        rw [e1]; trivial
      · cases e : env.getD j none with
        | none => trivial
        | some sv =>
          rw [e] at hs
          cases sv with
          | ol ys => obtain ⟨us, k1, k2, k3⟩ := hs; exact (by
            have eO : (fun j => if j = i then a else O j) j = O j := if_neg hj
            exact ⟨us, by rw [eO]; exact k1, by rw [eO]; exact k2, k3⟩)
          | pv x => exact hs
          | pen => exact hs
          | err c fs => exact hs
  ow := fun j ys e => by
    rw [getD_set] at e
    by_cases h : i = j ∧ i < env.length
    · obtain ⟨e1, _⟩ := h
      subst e1
      simp [hg, h0, hp]
    · rw [if_neg h] at e
      by_cases hj : j = i
      · have : ¬ i < env.length := fun z => h ⟨hj.symm, z⟩
        rw [List.getD_eq_getElem?_getD, List.getElem?_eq_none (by rw [hj]; omega)] at e
        cases e
      · simp [hj]; exact b.ow j ys e
  inj := fun j k ys zs e1 e2 q => by
    rw [getD_set] at e1 e2
    by_cases h : i = j ∧ i < env.length
    · by_cases h' : i = k ∧ i < env.length
      · rw [← h.1, ← h'.1]
      · rw [if_neg h'] at e2
        have hk : k ≠ i := fun z => h' ⟨z.symm, h.2⟩
        have hj : j = i := h.1.symm
        simp [hj, hk] at q
        exact absurd q.symm (hO k zs hk e2)
    · rw [if_neg h] at e1
      have hj : j ≠ i := fun z => by
        by_cases hl : i < env.length
        · exact h ⟨z.symm, hl⟩
        · rw [List.getD_eq_getElem?_getD, List.getElem?_eq_none (by rw [z]; omega)] at e1
          cases e1
      by_cases h' : i = k ∧ i < env.length
      · have hk : k = i := h'.1.symm
        simp [hj, hk] at q
        exact absurd q (hO j ys hj e1)
      · rw [if_neg h'] at e2
        have hk : k ≠ i := fun z => by
          by_cases hl : i < env.length
          · exact h' ⟨z.symm, hl⟩
          · rw [List.getD_eq_getElem?_getD, List.getElem?_eq_none (by rw [z]; omega)] at e2
            cases e2
        simp [hj, hk] at q
        exact b.inj j k ys zs e1 e2 q
/-- a list of one's own is changed -/
theorem Bd.mut {i : Nat} {xs ys : List PV} {us : List V} (b : Bd w ex F env O σ G H st) (e : env.getD i none = some (.ol xs)) (r : RepL w G ys us) : Bd w ex F (env.set i (some (.ol ys))) O σ G (upd H (O i) (.lst us)) st := by
  obtain ⟨k1, k2, k3⟩ := b.ow i xs e
  obtain ⟨vs, h1, h2, h3⟩ := b.own e
  have hi : i < env.length := by
    by_cases hl : i < env.length
    · exact hl
    · rw [List.getD_eq_getElem?_getD, List.getElem?_eq_none (by omega)] at e
      cases e
  have ow' : ∀ j zs, (env.set i (some (SV.ol ys))).getD j none = some (.ol zs) → ∃ zs', env.getD j none = some (.ol zs') := fun j zs q => by
    rw [getD_set] at q
    by_cases h : i = j ∧ i < env.length
    · obtain ⟨e1, _⟩ := h
      subst e1
      exact ⟨xs, e⟩
    · rw [if_neg h] at q; exact ⟨zs, q⟩
  refine ⟨fun x u q => ?_, b.np, b.pen.mono (Sub.refl G) (upd_ne k3.symm), ⟨b.gr.g, b.gr.n, fun x u ne q => ?_, fun x q => ?_⟩, by simp [b.len], fun j => ?_, fun j zs q => ?_, fun j k zs ts q1 q2 q => ?_⟩
  · have hx : x ≠ O i := fun z => by rw [z, k1] at q; cases q
    rw [upd_ne hx]; exact b.sub x u q
  · have hx : x ≠ O i := fun z => by rw [z, k2] at q; cases q
    rw [upd_ne hx]; exact b.gr.k x u ne q
  · by_cases hx : x = O i
    · subst hx; rw [upd_same]; simp
    · rw [upd_ne hx]; exact b.gr.d x q
  · rw [getD_set]
    by_cases h : i = j ∧ i < env.length
    · rw [if_pos h]
      obtain ⟨e1, _⟩ := h
      subst e1
      exact ⟨us, h2, upd_same, r⟩
    · rw [if_neg h]
      refine (b.sl j).mono (Sub.refl G) fun zs q => upd_ne fun z => ?_
      exact h ⟨(b.inj j i zs xs q e z).symm, hi⟩
  · obtain ⟨zs', q'⟩ := ow' j zs q
    exact b.ow j zs' q'
  · obtain ⟨zs', q1'⟩ := ow' j zs q1
    obtain ⟨ts', q2'⟩ := ow' k ts q2
    exact b.inj j k zs' ts' q1' q2' q
/-- a list of one's own becomes a value -/
def frzE (i : Nat) (env : Env) : Env := match env.getD i none with
  | some (.ol xs) => env.set i (some (.pv (.lst xs)))
  | _ => env
theorem Bd.frz (i : Nat) (b : Bd w ex F env O σ G H st) : ∃ G', Sub G G' ∧ Bd w ex F (frzE i env) O σ G' H st := by
  unfold frzE
  cases e : env.getD i none with
  | none => exact ⟨G, Sub.refl G, b⟩
  | some sv =>
    cases sv with
    | ol xs =>
      obtain ⟨k1, k2, k3⟩ := b.ow i xs e
      obtain ⟨vs, h1, h2, h3⟩ := b.own e
      have hi : i < env.length := by
        by_cases hl : i < env.length
        · exact hl
        · rw [List.getD_eq_getElem?_getD, List.getElem?_eq_none (by omega)] at e
          cases e
      have b1 := (b.unset (i := i)).freeze (a := O i) (o := .lst vs) h1 k2 k3 (fun j ys q z => by
        rw [getD_set] at q
        by_cases h : i = j ∧ i < env.length
        · rw [if_pos h] at q; cases q
        · rw [if_neg h] at q
          exact h ⟨(b.inj j i ys xs q e z).symm, hi⟩) k1
      have b2 := b1.setPv (i := i) (x := .lst xs) (v := .ref (O i)) ⟨O i, vs, rfl, upd_same, RepL.mono (Sub.new k1) _ _ h3⟩
      have e1 : ((env.set i none).set i (some (SV.pv (.lst xs)))) = env.set i (some (SV.pv (.lst xs))) := List.set_set ..
      have e2 : ((σ.set i none).set i (some (V.ref (O i)))) = σ := by
        rw [List.set_set]
        have q := getD_some h2
        obtain ⟨hl, q⟩ := List.getElem?_eq_some_iff.mp q
        rw [← q, List.set_getElem_self]
      rw [e1, e2] at b2
      exact ⟨upd G (O i) (.lst vs), Sub.new k1, b2⟩
    | pv x => exact ⟨G, Sub.refl G, b⟩
    | pen => exact ⟨G, Sub.refl G, b⟩
    | err c fs => exact ⟨G, Sub.refl G, b⟩

end
/-! ### names that may be stored -/
def locB (cc : CC) (x : Str) : Bool := match cc.sc.names.lookup x with
  | some .local => true
  | some .cell => cc.fnAll
  | _ => false
def stoOk (cc : CC) (i : Nat) (s : Str) : Bool := decide (cc.N[i]? = some s) && locB cc s
theorem locB.sto {w : Wd} {cc : CC} {n : Nat} {ex : Ex} {W : WX} {X : Cx} (hX : CtxOk w cc n ex W X) {x : Str} (h : locB cc x = true) : Loc X.env.scope x ∧ (X.fn x = true ∨ X.env.scope.names.lookup x = some .local) := by
  unfold locB at h
  rw [hX.sc]
  split at h
  · exact ⟨.inl (by assumption), .inr (by assumption)⟩
  · exact ⟨.inr (by assumption), .inl (hX.fn h x)⟩
  · cases h
def comp? : Expr → Bool
  | .ListComp .. => true
  | .SetComp .. => true
  | .DictComp .. => true
  | _ => false
theorem noSwap {e : Expr} {t : Option Expr} {l : Nat} {env : PySem.Env} (h : comp? e = false) : swapsWith e t l env = pure false := by
  cases e <;> first | rfl | (simp [comp?] at h)
section
variable {w : Wd} {cc : CC} {n : Nat} {ex : Ex} {W : WX} {xe ye ze : Expr} {es : List Expr} {pos p p' : Pos} {s1 : Stmt} {b1 b2 : List Stmt}
/-! ### blocks -/
def mNx : MS := fun env st => .nx env st
def mSeq (m1 m2 : MS) : MS := fun env st => match m1 env st with
  | .nx env st => m2 env st
  | r => r
theorem sss_nil : SSs w cc n ex W [] mNx := ⟨tNext, fun X _ => pss_nil, fun F env O σ G H st bd D hg => hg O σ G H bd (Sub.refl G)⟩
theorem sss_cons {m1 m2 : MS} (h1 : SS w cc n ex W s1 m1) (h2 : SSs w cc n ex W b1 m2) : SSs w cc n ex W (s1 :: b1) (mSeq m1 m2) := by
  obtain ⟨t1, p1, q1⟩ := h1
  obtain ⟨t2, p2, q2⟩ := h2
  refine ⟨tSeq t1 t2, fun X hX => pss_cons (p1 X hX) (p2 X hX), fun F env O σ G H st bd D hg => ?_⟩
  refine q1 F env O σ G H st bd _ ?_
  unfold mSeq at hg
  cases e : m1 env st with
  | nx env1 st1 => rw [e] at hg; exact fun O' σ' G' H' b' s' => q2 F env1 O' σ' G' H' st1 b' D (hg.later s')
  | rt r st1 => rw [e] at hg; exact hg
  | bk env1 st1 => rw [e] at hg; exact hg
  | ct env1 st1 => rw [e] at hg; exact hg
  | exn c fs env1 st1 => rw [e] at hg; exact hg
  | bad => rw [e] at hg; exact hg.elim
/-- a list of one's own becomes a value ahead of a statement -/
def mFrz (i : Nat) (m : MS) : MS := fun env st => m (frzE i env) st
theorem ss_frz {m : MS} (i : Nat) (h : SS w cc n ex W s1 m) : SS w cc n ex W s1 (mFrz i m) := by
  obtain ⟨t1, p1, q1⟩ := h
  refine ⟨t1, p1, fun F env O σ G H st bd D hg => ?_⟩
  obtain ⟨G', s', b'⟩ := bd.frz i
  exact q1 F _ O σ G' H st b' D (hg.later s')

/-! ### small statements -/
theorem ss_pass : SS w cc n ex W (.Pass pos) mNx := ⟨tNext, fun X _ => ps_pass, fun F env O σ G H st bd D hg => hg O σ G H bd (Sub.refl G)⟩
theorem ss_break : SS w cc n ex W (.Break pos) (fun env st => .bk env st) := ⟨tBreak, fun X _ => ps_break, fun F env O σ G H st bd D hg => hg O σ G H bd (Sub.refl G)⟩
theorem ss_continue : SS w cc n ex W (.Continue pos) (fun env st => .ct env st) := ⟨tCont, fun X _ => ps_continue, fun F env O σ G H st bd D hg => hg O σ G H bd (Sub.refl G)⟩
/-- an expression's end, at a statement -/
def toS {α : Type} (r : Res α) (env : Env) (f : α → Pen → RS) : RS := match r with
  | .ok a st => f a st
  | .exn c fs st => .exn c fs env st
  | .bad => .bad
theorem GoodS.good {F : Fr0} {env : Env} {O : Nat → Addr} {σ : L2.St} {G H : Hp} {D : Ends} {α : Type} {r : Res α} {f : α → Pen → RS} (h : GoodS w ex F W G D (toS r env f)) :
    Good w ex F env O σ W G H (fun a st1 G1 H1 => GoodS w ex F W G1 D (f a st1)) r := by
  cases r with
  | ok a st => exact fun G' H' b g => GoodS.later g.g h
  | exn c fs st => exact fun G' H' d b g x => h O σ G' H' d b g x
  | bad => exact h
def mExpr (m : ME) : MS := fun env st => toS (m env st) env fun _ st => .nx env st
theorem ss_expr {m : ME} (hc : comp? xe = false) (h : SE w cc n ex W xe m) : SS w cc n ex W (.Expr xe pos) (mExpr m) := by
  obtain ⟨t1, p1, q1⟩ := h
  refine ⟨tDrop t1, fun X hX => ps_expr (p1 X hX.c) (noSwap hc), fun F env O σ G H st bd D hg => ?_⟩
  exact q1 F env O σ G H st bd _ (Good.imp (fun a st1 G1 H1 b1 g1 k1 v r1 => k1 O σ G1 H1 b1 (Sub.refl G1)) hg.good)
def mRet (m : ME) : MS := fun env st => toS (m env st) env fun a st => .rt a st
theorem ss_ret {m : ME} (h : SE w cc n ex W xe m) : SS w cc n ex W (.Return (some xe) pos) (mRet m) := by
  obtain ⟨t1, p1, q1⟩ := h
  refine ⟨tRet t1, fun X hX => ps_ret (p1 X hX.c), fun F env O σ G H st bd D hg => ?_⟩
  exact q1 F env O σ G H st bd _ (Good.imp (fun a st1 G1 H1 b1 g1 k1 v r1 => k1 v G1 H1 b1.fin r1) hg.good)
theorem ss_retN : SS w cc n ex W (.Return none pos) (fun env st => .rt .non st) := ⟨tRetN, fun X _ => ps_retN, fun F env O σ G H st bd D hg => hg .non G H bd.fin rfl⟩
def mIf (c : MT) (m1 m2 : MS) : MS := fun env st => toS (c env st) env fun b st => if b = true then m1 env st else m2 env st
theorem ss_if {c : MT} {m1 m2 : MS} (hc : ST w cc n ex W xe c) (h1 : SSs w cc n ex W b1 m1) (h2 : SSs w cc n ex W b2 m2) : SS w cc n ex W (.If xe b1 b2 pos) (mIf c m1 m2) := by
  obtain ⟨t0, p0, q0⟩ := hc
  obtain ⟨t1, p1, q1⟩ := h1
  obtain ⟨t2, p2, q2⟩ := h2
  refine ⟨tIfS t0 t1 t2, fun X hX => ps_if (p0 X hX.c) (p1 X hX) (p2 X hX), fun F env O σ G H st bd D hg => ?_⟩
  refine q0 F env O σ G H st bd _ (Good.imp (fun b st1 G1 H1 b1 g1 k1 => ?_) hg.good)
  cases b with
  | true => exact q1 F env O σ G1 H1 st1 b1 D k1
  | false => exact q2 F env O σ G1 H1 st1 b1 D k1

/-! ### name = e -/
def mSet (i : Nat) (m : ME) : MS := fun env st => toS (m env st) env fun a st => .nx (env.set i (some (.pv a))) st
theorem ss_set {m : ME} {i : Nat} {s : Str} (hs : stoOk cc i s = true) (hc : comp? xe = false) (h : SE w cc n ex W xe m) : SS w cc n ex W (.Assign [.Name s p] xe pos) (mSet i m) := by
  unfold stoOk at hs
  simp only [Bool.and_eq_true, decide_eq_true_eq] at hs
  obtain ⟨t1, p1, q1⟩ := h
  refine ⟨tAsg t1 (gName i), fun X hX => ?_, fun F env O σ G H st bd D hg => ?_⟩
  · obtain ⟨k1, k2⟩ := locB.sto hX.c hs.2
    exact ps_set (by rw [hX.c.N]; exact hX.c.nd) (by rw [hX.c.N]; exact hs.1) k1 (p1 X hX.c) (noSwap hc) k2
  · exact q1 F env O σ G H st bd _ (Good.imp (fun a st1 G1 H1 b1 g1 k1 v r1 => k1 O _ G1 H1 (b1.setPv r1) (Sub.refl G1)) hg.good)
/-- name = a new list -/
def mSetL (i : Nat) (m : MA) : MS := fun env st => toS (m env st) env fun a st => .nx (env.set i (some (.ol a))) st
theorem GoodS.good0 {F : Fr0} {env : Env} {O : Nat → Addr} {σ : L2.St} {G H : Hp} {D : Ends} {α : Type} {r : Res α} {f : α → Pen → RS} (h : GoodS w ex F W G D (toS r env f)) :
    Good w ex F env O σ W G H (fun a st1 G1 H1 => Grow F.p G H G1 H1 ∧ GoodS w ex F W G1 D (f a st1)) r := by
  cases r with
  | ok a st => exact fun G' H' b g => ⟨g, GoodS.later g.g h⟩
  | exn c fs st => exact fun G' H' d b g x => h O σ G' H' d b g x
  | bad => exact h
theorem setL_run {m : MA} {i : Nat} {t1 : TE} (q1 : ∀ (F : Fr0) (env : Env) (O : Nat → Addr) (σ : L2.St) (G H : Hp) (st : Pen), Bd w ex F env O σ G H st → ∀ Q : VK,
    Good w ex F env O σ W G H (fun xs _ G' H' => ∀ a vs, H' a = some (.lst vs) → H a = none → RepL w G' xs vs → G' a = none → Q (.ref a) H') (m env st) → t1 σ H Q)
    (F : Fr0) (env : Env) (O : Nat → Addr) (σ : L2.St) (G H : Hp) (st : Pen) (bd : Bd w ex F env O σ G H st) (D : Ends) (hg : GoodS w ex F W G D (mSetL i m env st)) : tAsg t1 (gName i) D σ H := by
  refine q1 F env O σ G H st bd _ (Good.imp (fun xs st1 G1 H1 b1 g1 k1 a vs ha hn hr hg' => ?_) hg.good)
  refine k1 _ _ G1 H1 (b1.setOl ha hg' (bd.h0 hn) (bd.nep hn) (fun j ys hj e z => ?_) hr) (Sub.refl G1)
  obtain ⟨us, q, _⟩ := bd.own e
  rw [z, hn] at q; cases q
theorem ss_setL {m : MA} {i : Nat} {s : Str} (hs : stoOk cc i s = true) (hc : comp? xe = false) (h : SL w cc n ex W xe m) : SS w cc n ex W (.Assign [.Name s p] xe pos) (mSetL i m) := by
  unfold stoOk at hs
  simp only [Bool.and_eq_true, decide_eq_true_eq] at hs
  obtain ⟨t1, p1, q1⟩ := h
  refine ⟨tAsg t1 (gName i), fun X hX => ?_, setL_run q1⟩
  obtain ⟨k1, k2⟩ := locB.sto hX.c hs.2
  exact ps_set (by rw [hX.c.N]; exact hX.c.nd) (by rw [hX.c.N]; exact hs.1) k1 (p1 X hX.c) (noSwap hc) k2
/-! ### a, b, c = x, y, z -/
def mPar3 (i j l : Nat) (m : MSv) : MS := fun env st => toS (m env st) env fun as st => match plains as with
  | some [a, b, c] => .nx (((env.set i (some (.pv a))).set j (some (.pv b))).set l (some (.pv c))) st
  | _ => .bad
theorem swap3 {env : PySem.Env} {x y z : Str} {px py pz pt pt2 : Pos} {kt k2 : Nat} (hk : env.scope.kind = .function) (hx : env.scope.names.lookup x = some .local) (hy : env.scope.names.lookup y = some .local) (hz : env.scope.names.lookup z = some .local)
    (hl : (py.line == px.line) = true ∧ (pz.line == px.line) = true) (hd : x ≠ y ∧ x ≠ z ∧ y ≠ z) {a b c : Expr} (hs : [a, b, c].all (fun e => !star? e) = true) (hf : [a, b, c].all (foldedForSure 8) = false) (hc : [a, b, c].all (constantsAlone 8) = false) :
    swappedStores [.Tuple [.Name x px, .Name y py, .Name z pz] kt pt] (.Tuple [a, b, c] k2 pt2) env = pure (some [x, y, z]) := by
  have kx : env.kindOf x = some .local := hx
  have ky : env.kindOf y = some .local := hy
  have kz : env.kindOf z = some .local := hz
  have hb : env.blockKind = .function := by unfold Env.blockKind; rw [hk]; rfl
  simp only [List.all_cons, List.all_nil, Bool.and_eq_true, Bool.not_eq_true', Bool.and_true] at hs
  obtain ⟨h1, h2, h3⟩ := hs
  unfold swappedStores
  simp only [hb, hf, hc, List.any_cons, List.any_nil, Bool.or_false]
  simp only [List.filterMap_cons, List.filterMap_nil, kx, ky, kz, hl.1, hl.2, Expr.pos, List.head?_cons, Option.map_some, Option.getD_some]
  simp only [beq_self_eq_true, Bool.and_true, if_true, Bool.and_self, hl.1, hl.2]
  have hne : ¬ ((star? a || (star? b || star? c)) = true) := by rw [h1, h2, h3]; simp
  have hde : ([x, y, z].eraseDups.length != [x, y, z].length) = false := by
    simp [List.eraseDups_cons, hd.1, hd.2.1, hd.2.2, hd.1.symm, hd.2.1.symm, hd.2.2.symm]
  refine (if_neg (by simp)).trans ((if_neg ?_).trans ((if_neg (by rw [hde]; simp)).trans ((if_neg (by simp)).trans (if_neg (by simp)))))
  exact hne
theorem ss_par3 {m : MSv} {i j l : Nat} {x y z : Str} {a b c : Expr} {px py pz pt pt2 : Pos} {kt k2 : Nat} (hot : cc.hot = false) (h1 : decide (cc.N[i]? = some x) && decide (cc.N[j]? = some y) && decide (cc.N[l]? = some z) = true) (h2 : i ≠ j ∧ i ≠ l ∧ j ≠ l)
    (h3 : cc.sc.names.lookup x = some .local ∧ cc.sc.names.lookup y = some .local ∧ cc.sc.names.lookup z = some .local) (hl : (py.line == px.line) = true ∧ (pz.line == px.line) = true) (hd : x ≠ y ∧ x ≠ z ∧ y ≠ z)
    (hs : [a, b, c].all (fun e => !star? e) = true) (hf : [a, b, c].all (foldedForSure 8) = false) (hc : [a, b, c].all (constantsAlone 8) = false) (h : SA w cc n ex W [a, b, c] m) :
    SS w cc n ex W (.Assign [.Tuple [.Name x px, .Name y py, .Name z pz] kt pt] (.Tuple [a, b, c] k2 pt2) pos) (mPar3 i j l m) := by
  simp only [Bool.and_eq_true, decide_eq_true_eq] at h1
  obtain ⟨t1, p1, q1⟩ := h
  refine ⟨tPar3 i j l t1, fun X hX => ?_, fun F env O σ G H st bd D hg => ?_⟩
  · exact ps_par3 (hX.c.calm hot).1 (by rw [hX.c.N]; exact hX.c.nd) (by rw [hX.c.N]; exact h1.1.1) (by rw [hX.c.N]; exact h1.1.2) (by rw [hX.c.N]; exact h1.2) h2.1 h2.2.1 h2.2.2 (by rw [hX.c.sc]; exact h3.1) (by rw [hX.c.sc]; exact h3.2.1) (by rw [hX.c.sc]; exact h3.2.2) (p1 X hX.c)
      (swap3 (by rw [hX.c.sc]; exact hX.c.kind) (by rw [hX.c.sc]; exact h3.1) (by rw [hX.c.sc]; exact h3.2.1) (by rw [hX.c.sc]; exact h3.2.2) hl hd hs hf hc)
  · refine q1 F env O σ G H st bd _ (Good.imp (fun as st1 G1 H1 b1 g1 k1 vs r1 => ?_) hg.good)
    cases e : plains as with
    | none => rw [e] at k1; exact k1.elim
    | some xs =>
      rw [e] at k1
      have r2 := r1.plain e
      cases xs with
      | nil => exact k1.elim
      | cons x1 xs =>
        cases xs with
        | nil => exact k1.elim
        | cons x2 xs =>
          cases xs with
          | nil => exact k1.elim
          | cons x3 xs =>
            cases xs with
            | cons x4 xs => exact k1.elim
            | nil =>
              obtain ⟨v1, ws, e1, s1, v2, ws2, e2, s2, v3, ws3, e3, s3, e4⟩ := r2
              subst e4 e3 e2 e1
              exact ⟨v1, v2, v3, rfl, k1 O _ G1 H1 (((b1.setPv s1).setPv s2).setPv s3) (Sub.refl G1)⟩
/-! ### xs.append(e), xs a list of one's own -/
def mApp (i : Nat) (m : ME) : MS := fun env st => match env.getD i none with
  | some (.ol _) => toS (m env st) env fun a st => (match env.getD i none with
    | some (.ol xs) => if xs.length < 100000 then .nx (env.set i (some (.ol (xs ++ [a])))) st else .bad
    | _ => .bad)
  | _ => .bad
theorem ss_app {m : ME} {i : Nat} {s : Str} {pa pc pe : Pos} (hv : varOk cc i s = true) (hst : star? xe = false) (hl : (pa.endLine == pc.line) = true) (h : SE w cc n ex W xe m) :
    SS w cc n ex W (.Expr (.Call (.Attribute (.Name s p) "append" pa) [xe] [] pc) pe) (mApp i m) := by
  obtain ⟨t1, p1, q1⟩ := h
  refine ⟨tDrop (tBM w.K "list" rAppend (tVar i) (tCons t1 tNil)), fun X hX => ?_, fun F env O σ G H st bd D hg => ?_⟩
  · have e1 : starEach [xe] X.env = [(false, eval xe X.env)] := starEach_cons hst
    have h := pe_bm (X := X) (cpos := pc) PySem.F.plainAttrs_list PySem.F.slot_list_append PySem.F.type_list_append mt_append (pe_varM (p := p) hv X hX.c) (pa_cons (p1 X hX.c) pa_nil (starEach_cons hst)) rfl (by rw [e1]; rfl) hl (starEach_cons hst) rfl
    rw [hX.c.K] at h
    exact ps_expr h rfl
  · unfold mApp at hg
    cases e : env.getD i none with
    | none => rw [e] at hg; exact hg.elim
    | some sv =>
      rw [e] at hg
      cases sv with
      | ol xs =>
        dsimp only at hg
        obtain ⟨vs, h1, h2, h3⟩ := bd.own e
        refine ⟨_, getD_some h2, .inl ⟨rfl, vs, .of h1⟩, ?_⟩
        refine q1 F env O σ G H st bd _ (Good.imp (fun a st1 G1 H1 b1 g1 k1 v r1 => ?_) hg.good)
        obtain ⟨vs1, l1, l2, l3⟩ := b1.own e
        by_cases hz : xs.length < 100000
        · rw [if_pos hz] at k1
          refine ⟨O i, vs1, v, rfl, rfl, l1, by rw [l3.length]; exact Nat.lt_of_lt_of_le hz (by decide), ?_⟩
          exact k1 O σ G1 _ (b1.mut e (l3.append (RepL.one r1))) (Sub.refl G1)
        · rw [if_neg hz] at k1; exact k1.elim
      | _ => exact hg.elim
end
end Mir

/-! Mir, part 10: loops. -/
namespace Mir
open PySem PySem.Spec PyProof.Rows L2

/-- an iterator that yields these, however the heap may grow -/
def Walks (w : Wd) (J : It) (xs : List PV) (G : Hp) : Prop :=
  ∀ G1 H1, Sub G G1 → Sub G1 H1 → ∀ i, (∀ x, xs[i]? = some x → J.go i H1 ∧ ∀ v H2, J.yld i H1 v H2 → (H2 = H1 ∧ Rep w G1 x v) ∨ (∃ q o, H1 q = none ∧ H2 = upd H1 q o ∧ Rep w (upd G1 q o) x v)) ∧ (xs[i]? = none → J.stop i H1)
/-- what a for, a comprehension walks -/
def SI (w : Wd) (cc : CC) (n : Nat) (ex : Ex) (W : WX) (tg iter : Expr) (m : MA) : Prop :=
  ∃ wi : TI, (∀ X, CtxOk w cc n ex W X → PI X tg iter wi) ∧ ∀ (F : Fr0) (env : Env) (O : Nat → Addr) (σ : L2.St) (G H : Hp) (st : Pen), Bd w ex F env O σ G H st → ∀ R : It → Hp → Prop,
    Good w ex F env O σ W G H (fun xs _ G' H' => ∀ J, Walks w J xs G' → R J H') (m env st) → wi σ H R
/-- a target -/
def SG (w : Wd) (cc : CC) (n : Nat) (ex : Ex) (W : WX) (tg : Expr) (f : PV → Env → Option Env) : Prop :=
  ∃ g : TG, (∀ X, CtxOk w cc n ex W X → PG X tg g) ∧ ∀ (F : Fr0) (env : Env) (O : Nat → Addr) (σ : L2.St) (G H : Hp) (st : Pen), Bd w ex F env O σ G H st → ∀ (x : PV) (v : V), Rep w G x v → ∀ env', f x env = some env' → ∀ Q : L2.St → Hp → Prop,
    (∀ σ', Bd w ex F env' O σ' G H st → Q σ' H) → g v σ H Q
section
variable {w : Wd} {cc : CC} {n : Nat} {ex : Ex} {W : WX} {xe ye ze tg iter : Expr} {es : List Expr} {pos p p' : Pos} {s1 : Stmt} {b1 b2 : List Stmt}
def fName (i : Nat) : PV → Env → Option Env := fun x env => some (env.set i (some (.pv x)))
theorem sg_name {i : Nat} {s : Str} (hs : stoOk cc i s = true) : SG w cc n ex W (.Name s p) (fName i) := by
  unfold stoOk at hs
  simp only [Bool.and_eq_true, decide_eq_true_eq] at hs
  refine ⟨gName i, fun X hX => ?_, fun F env O σ G H st bd x v r env' e Q k => ?_⟩
  · obtain ⟨k1, k2⟩ := locB.sto hX hs.2
    exact pg_name (by rw [hX.N]; exact hX.nd) (by rw [hX.N]; exact hs.1) k1 k2
  · cases e
    exact k _ (bd.setPv r)
/-- several targets, one after another -/
def SGs (w : Wd) (cc : CC) (n : Nat) (ex : Ex) (W : WX) (ts : List Expr) (f : List PV → Env → Option Env) : Prop :=
  ∃ g : TGs, (∀ X, CtxOk w cc n ex W X → PGs X ts g) ∧ ∀ (F : Fr0) (env : Env) (O : Nat → Addr) (σ : L2.St) (G H : Hp) (st : Pen), Bd w ex F env O σ G H st → ∀ (xs : List PV) (vs : List V), RepL w G xs vs → ∀ env', f xs env = some env' → ∀ Q : L2.St → Hp → Prop,
    (∀ σ', Bd w ex F env' O σ' G H st → Q σ' H) → g vs σ H Q
def fNil : List PV → Env → Option Env := fun xs env => match xs with
  | [] => some env
  | _ => none
def fCons (f : PV → Env → Option Env) (g : List PV → Env → Option Env) : List PV → Env → Option Env := fun xs env => match xs with
  | x :: xs => (f x env).bind (g xs)
  | [] => none
theorem sgs_nil : SGs w cc n ex W [] fNil := ⟨gNil, fun X _ => pgs_nil, fun F env O σ G H st bd xs vs r env' e Q k => by
  cases xs with
  | nil => cases r; cases e; exact ⟨rfl, k σ bd⟩
  | cons x xs => cases e⟩
theorem assignEach_cons {t : Expr} {ts : List Expr} {env : PySem.Env} (h : star? t = false) : assignEach (t :: ts) env = (false, assign t env) :: assignEach ts env := by
  cases t <;> first | rfl | (simp [star?] at h)
theorem sgs_cons {f : PV → Env → Option Env} {g : List PV → Env → Option Env} (hs : star? xe = false) (h1 : SG w cc n ex W xe f) (h2 : SGs w cc n ex W es g) : SGs w cc n ex W (xe :: es) (fCons f g) := by
  obtain ⟨t1, p1, q1⟩ := h1
  obtain ⟨t2, p2, q2⟩ := h2
  refine ⟨gCons t1 t2, fun X hX => pgs_cons (p1 X hX) (p2 X hX) (by rw [assignEach_cons hs]; rfl), fun F env O σ G H st bd xs vs r env' e Q k => ?_⟩
  cases xs with
  | nil => cases e
  | cons x xs =>
    obtain ⟨v, ws, rfl, r1, r2⟩ := r
    unfold fCons at e
    cases e1 : f x env with
    | none => simp [e1] at e
    | some env1 =>
      simp [e1] at e
      refine ⟨v, ws, rfl, q1 F env O σ G H st bd x v r1 env1 e1 _ fun σ' b' => ?_⟩
      exact q2 F env1 O σ' G H st b' xs ws r2 env' e Q k
def fTup (g : List PV → Env → Option Env) : PV → Env → Option Env := fun x env => match x with
  | .tup xs => g xs env
  | _ => none
theorem assignEach_len {env : PySem.Env} : ∀ {ts : List Expr}, (assignEach ts env).length = ts.length
  | [] => rfl
  | t :: ts => by
    have ih := assignEach_len (env := env) (ts := ts)
    cases t <;> (show (_ :: assignEach ts env).length = _; simp [ih])
theorem assignEach_plain {env : PySem.Env} : ∀ {ts : List Expr}, ts.all (fun e => !star? e) = true → (assignEach ts env).findIdx? (·.1) = none
  | [], _ => rfl
  | t :: ts, h => by
    simp only [List.all_cons, Bool.and_eq_true, Bool.not_eq_true'] at h
    rw [assignEach_cons h.1, List.findIdx?_cons]
    simp [assignEach_plain h.2]
def fLen (k : Nat) (g : List PV → Env → Option Env) : List PV → Env → Option Env := fun xs env => if xs.length = k then g xs env else none
theorem sg_tup {g : List PV → Env → Option Env} {j : Nat} (hot : cc.hot = false) (hs : es.all (fun e => !star? e) = true) (h : SGs w cc n ex W es g) : SG w cc n ex W (.Tuple es j p) (fTup (fLen es.length g)) := by
  obtain ⟨t1, p1, q1⟩ := h
  refine ⟨gTup w.K es.length t1, fun X hX => ?_, fun F env O σ G H st bd x v r env' e Q k => ?_⟩
  · have h := pg_tup (X := X) (k := j) (pos := p) (hX.calm hot).1 (p1 X hX) (assignEach_len) (assignEach_plain hs)
    rw [hX.K] at h
    exact h
  · cases x with
    | tup xs =>
      obtain ⟨a, vs, rfl, h2, h3⟩ := r
      unfold fTup fLen at e
      dsimp only at e
      by_cases hl : xs.length = es.length
      · rw [if_pos hl] at e
        exact ⟨a, vs, rfl, bd.sub.sqT h2, by rw [h3.length]; exact hl, q1 F env O σ G H st bd xs vs h3 env' e Q k⟩
      · rw [if_neg hl] at e; cases e
    | _ => cases e

/-! ### what is walked -/
theorem walks_lst {G : Hp} {a : Addr} {xs : List PV} {vs : List V} (h : G a = some (.lst vs)) (r : RepL w G xs vs) : Walks w (Itl w.K a) xs G := by
  intro G1 H1 s1 s2 i
  have hq : SqL w.K H1 a vs := .of (s2 _ _ (s1 _ _ h))
  refine ⟨fun x e => ?_, fun e => ⟨vs, hq, ?_⟩⟩
  · obtain ⟨v, e1, r1⟩ := r.at e
    refine ⟨⟨vs, v, hq, e1⟩, fun v' H2 y => .inl ⟨y.1, ?_⟩⟩
    have := y.2 vs hq
    rw [e1] at this
    cases this
    exact Rep.mono s1 _ _ r1
  · rw [r.length]
    exact List.getElem?_eq_none_iff.mp e
theorem walks_tup {G : Hp} {a : Addr} {xs : List PV} {vs : List V} (h : SqT w.K G a vs) (r : RepL w G xs vs) : Walks w (Itt w.K a) xs G := by
  intro G1 H1 s1 s2 i
  have hq : SqT w.K H1 a vs := s2.sqT (s1.sqT h)
  refine ⟨fun x e => ?_, fun e => ⟨vs, hq, ?_⟩⟩
  · obtain ⟨v, e1, r1⟩ := r.at e
    refine ⟨⟨vs, v, hq, e1⟩, fun v' H2 y => .inl ⟨y.1, ?_⟩⟩
    have := y.2 vs hq
    rw [e1] at this
    cases this
    exact Rep.mono s1 _ _ r1
  · rw [r.length]
    exact List.getElem?_eq_none_iff.mp e
/-- the ints from lo on -/
def rangeP (lo : Int) (k : Nat) : List PV := (List.range k).map fun (i : Nat) => PV.int (lo + (i : Int))
theorem walks_range {G : Hp} {lo : Int} {k : Nat} : Walks w (Itr lo k) (rangeP lo k) G := by
  intro G1 H1 s1 s2 i
  have key : ∀ i, (rangeP lo k)[i]? = if i < k then some (.int (lo + i)) else none := fun i => by
    unfold rangeP
    rw [List.getElem?_map]
    by_cases h : i < k
    · rw [List.getElem?_range h, if_pos h]; rfl
    · rw [if_neg h, List.getElem?_eq_none (by simpa using h)]; rfl
  refine ⟨fun x e => ?_, fun e => ?_⟩
  · rw [key] at e
    by_cases h : i < k
    · rw [if_pos h] at e
      cases e
      exact ⟨h, fun v H2 y => .inl ⟨y.1, y.2⟩⟩
    · rw [if_neg h] at e; cases e
  · rw [key] at e
    by_cases h : i < k
    · rw [if_pos h] at e; cases e
    · exact Nat.le_of_not_lt h
/-- a value that is a list or a tuple: of which kind it is must be told -/
def mItL (m : ME) : MA := fun env st => (m env st).bind fun a st => match a with
  | .lst xs => .ok xs st
  | _ => .bad
def mItT (m : ME) : MA := fun env st => (m env st).bind fun a st => match a with
  | .tup xs => .ok xs st
  | _ => .bad
/-- list or tuple, as it comes -/
def iSeq (K : PySem.W.Frag) (tl : TE) : TI := fun σ H R => tl σ H fun x H1 => ∃ a, x = .ref a ∧ (((∃ xs, SqL K H1 a xs) ∧ R (Itl K a) H1) ∨ ((∃ xs, SqT K H1 a xs) ∧ R (Itt K a) H1))
theorem pi_seq {X : Cx} {l : Expr} {tl : TE} (hl : PE X l tl) : PI X tg l (iSeq X.K tl) := by
  refine ⟨fun pins s σ H R I h => ?_⟩
  refine thn (hl.run pins s σ H _ I h) fun v s1 ⟨x, H1, I1, r1, q1⟩ => ?_
  obtain ⟨a, e, q⟩ := q1
  subst e
  cases r1
  rcases q with ⟨⟨xs, hq⟩, q⟩ | ⟨⟨xs, hq⟩, q⟩
  · obtain ⟨its, rv, p, hz⟩ := I1.list hq
    refine wpAny_pyIter_list p.isList ?_
    refine ⟨s1.heap.objs.size, [s1.heap.objs.size], _, _, H1, rfl, I1.kept (t' := s1.toks) fun b o e => Heap.get?_push_of_some _ e, turn_list a _, ⟨_, Heap.get?_push_size _ rfl, rfl, rfl⟩, fun b hb => ?_, q⟩
    have e : b = s1.heap.objs.size := by simpa using hb
    subst e
    exact I1.fpOk (Nat.le_refl _) (I1.hok.fresh (Nat.le_refl _))
  · obtain ⟨its, rv, p, hz⟩ := I1.tuple hq
    refine wpAny_pyIter_tuple (show s1.heap.IsTuple a its.toArray from p) ?_
    refine ⟨s1.heap.objs.size, [s1.heap.objs.size], _, _, H1, rfl, I1.kept (t' := s1.toks) fun b o e => Heap.get?_push_of_some _ e, turn_tuple a _, ⟨_, Heap.get?_push_size _ rfl, rfl, rfl⟩, fun b hb => ?_, q⟩
    have e : b = s1.heap.objs.size := by simpa using hb
    subst e
    exact I1.fpOk (Nat.le_refl _) (I1.hok.fresh (Nat.le_refl _))
def mItems (m : ME) : MA := fun env st => (m env st).bind fun a st => match a with
  | .lst xs => .ok xs st
  | .tup xs => .ok xs st
  | _ => .bad
theorem si_seq {m : ME} (h : SE w cc n ex W xe m) : SI w cc n ex W tg xe (mItems m) := by
  obtain ⟨t1, p1, q1⟩ := h
  refine ⟨iSeq w.K t1, fun X hX => ?_, fun F env O σ G H st bd R hg => ?_⟩
  · have h := pi_seq (tg := tg) (p1 X hX)
    rw [hX.K] at h
    exact h
  · refine q1 F env O σ G H st bd _ (Good.imp (fun a st1 G1 H1 b1 g1 k1 v r1 => ?_) hg.bind)
    cases a with
    | lst xs => obtain ⟨a, vs, rfl, h2, h3⟩ := r1; exact ⟨a, rfl, .inl ⟨⟨vs, .of (b1.sub _ _ h2)⟩, k1.here b1 _ (walks_lst h2 h3)⟩⟩
    | tup xs => obtain ⟨a, vs, rfl, h2, h3⟩ := r1; exact ⟨a, rfl, .inr ⟨⟨vs, b1.sub.sqT h2⟩, k1.here b1 _ (walks_tup h2 h3)⟩⟩
    | _ => exact k1.elim
def mRange1 (m : ME) : MA := fun env st => (m env st).bind fun a st => match a with
  | .int i => if -1000000 ≤ i ∧ i ≤ 1000000 then .ok (rangeP 0 i.toNat) st else .bad
  | _ => .bad
theorem si_range1 {m : ME} (hst : star? xe = false) (hg : glB cc "range" = true) (hm : w.mg "range" = none) (h : SE w cc n ex W xe m) : SI w cc n ex W tg (.Call (.Name "range" p) [xe] [] pos) (mRange1 m) := by
  obtain ⟨t1, p1, q1⟩ := h
  refine ⟨iRng1 (tCons t1 tNil), fun X hX => pi_range1 (glB_gl hg hX) (by rw [hX.mg]; exact hm) (pa_cons (p1 X hX) pa_nil (starEach_cons hst)) (starEach_cons hst), fun F env O σ G H st bd R hg => ?_⟩
  refine q1 F env O σ G H st bd _ (Good.imp (fun a st1 G1 H1 b1 g1 k1 v r1 => ?_) hg.bind)
  cases a with
  | int i =>
    cases r1
    dsimp only at k1
    by_cases hi : -1000000 ≤ i ∧ i ≤ 1000000
    · rw [if_pos hi] at k1
      exact ⟨i, rfl, by omega, by omega, k1.here b1 _ walks_range⟩
    · rw [if_neg hi] at k1; exact k1.elim
  | _ => exact k1.elim
def mRange2 (m1 m2 : ME) : MA := fun env st => (m1 env st).bind fun a st => (m2 env st).bind fun b st => match a, b with
  | .int i, .int j => if (-1000000 ≤ i ∧ i ≤ 1000000) ∧ (-1000000 ≤ j ∧ j ≤ 1000000) then .ok (rangeP i (j - i).toNat) st else .bad
  | _, _ => .bad
theorem si_range2 {m1 m2 : ME} (hs1 : star? xe = false) (hs2 : star? ye = false) (hg : glB cc "range" = true) (hm : w.mg "range" = none) (h1 : SE w cc n ex W xe m1) (h2 : SE w cc n ex W ye m2) : SI w cc n ex W tg (.Call (.Name "range" p) [xe, ye] [] pos) (mRange2 m1 m2) := by
  obtain ⟨t1, p1, q1⟩ := h1
  obtain ⟨t2, p2, q2⟩ := h2
  refine ⟨iRng2 (tCons t1 (tCons t2 tNil)), fun X hX => pi_range2 (glB_gl hg hX) (by rw [hX.mg]; exact hm) (pa_cons (p1 X hX) (pa_cons (p2 X hX) pa_nil (starEach_cons hs2)) (starEach_cons hs1)) (by rw [starEach_cons hs1, starEach_cons hs2]; rfl) (starEach_cons hs2), fun F env O σ G H st bd R hg => ?_⟩
  refine q1 F env O σ G H st bd _ (Good.imp (fun a st1 G1 H1 b1 g1 k1 v r1 => ?_) hg.bind)
  refine q2 F env O σ G1 H1 st1 b1 _ (Good.imp (fun b st2 G2 H2 b2 g2 k2 u r2 => ?_) k1.bind)
  cases a with
  | int i =>
    cases b with
    | int j =>
      cases r1; cases r2
      dsimp only at k2
      by_cases hi : (-1000000 ≤ i ∧ i ≤ 1000000) ∧ (-1000000 ≤ j ∧ j ≤ 1000000)
      · rw [if_pos hi] at k2
        exact ⟨i, j, rfl, ⟨by omega, by omega, by omega, by omega⟩, k2.here b2 _ walks_range⟩
      · rw [if_neg hi] at k2; exact k2.elim
    | _ => exact k2.elim
  | _ => cases b <;> exact k2.elim

/-! ### for -/
def forS (f : PV → Env → Option Env) (body : MS) : List PV → Env → Pen → RS
  | [], env, st => .nx env st
  | x :: xs, env, st => match f x env with
    | none => .bad
    | some env1 => match body env1 st with
      | .nx env2 st2 => forS f body xs env2 st2
      | .ct env2 st2 => forS f body xs env2 st2
      | .bk env2 st2 => .nx env2 st2
      | r => r
def mFor (f : PV → Env → Option Env) (mi : MA) (body : MS) : MS := fun env st => toS (mi env st) env fun xs st => forS f body xs env st
def foldOk : Expr → Bool
  | .Set .. => false
  | _ => true
theorem fold_ok {e : Expr} {env : PySem.Env} (h : foldOk e = true) : ∀ x, foldedSetIterable e env x = pure x := by
  intro x
  cases e <;> first | rfl | (simp [foldOk] at h)
theorem forS_turn {f : PV → Env → Option Env} {mb : MS} {F : Fr0} {G G1 : Hp} {D : Ends} {N : L2.St → Hp → Prop} {xs : List PV} {r : RS} (s1 : Sub G1 G)
    (hN : ∀ env2 st2 O σ G' H', Bd w ex F env2 O σ G' H' st2 → Sub G1 G' → GoodS w ex F W G' D (forS f mb xs env2 st2) → N σ H')
    (h : GoodS w ex F W G D (match r with
      | .nx env2 st2 => forS f mb xs env2 st2
      | .ct env2 st2 => forS f mb xs env2 st2
      | .bk env2 st2 => .nx env2 st2
      | r => r)) : GoodS w ex F W G { D with nx := N, ct := N, bk := D.nx } r := by
  cases r with
  | nx env2 st2 => exact fun O σ G' H' b s => hN env2 st2 O σ G' H' b (s1.trans s) (h.later s)
  | ct env2 st2 => exact fun O σ G' H' b s => hN env2 st2 O σ G' H' b (s1.trans s) (h.later s)
  | bk env2 st2 => exact h
  | rt r st => exact h
  | exn c fs env st => exact h
  | bad => exact h
theorem ss_for {f : PV → Env → Option Env} {mi : MA} {mb : MS} (hot : cc.hot = false) (hf : foldOk iter = true) (hg : SG w cc n ex W tg f) (hi : SI w cc n ex W tg iter mi) (hb : SSs w cc n ex W b1 mb) :
    SS w cc n ex W (.For tg iter b1 [] pos) (mFor f mi mb) := by
  obtain ⟨g, pg, qg⟩ := hg
  obtain ⟨wi, pi, qi⟩ := hi
  obtain ⟨tb, pb, qb⟩ := hb
  refine ⟨tFor wi g tb, fun X hX => ps_for hX.pass (hX.c.calm hot).1 (pi X hX.c) (pg X hX.c) (pb X hX) (fold_ok hf), fun F env O σ G H st bd D hg => ?_⟩
  refine qi F env O σ G H st bd _ (Good.imp (fun xs st1 G1 H1 b1 g1 k1 J hJ => ?_) hg.good)
  refine ⟨fun i m σ H => m = xs.length - i ∧ i ≤ xs.length ∧ ∃ env' O' G' st', Bd w ex F env' O' σ G' H st' ∧ Sub G1 G' ∧ GoodS w ex F W G' D (forS f mb (xs.drop i) env' st'), ⟨xs.length, by simp, Nat.zero_le _, env, O, G1, st1, b1, Sub.refl G1, by simpa using k1⟩, ?_⟩
  rintro i m σ' H' ⟨rfl, hi, env', O', G', st', b', s', good⟩
  obtain ⟨hgo, hstop⟩ := hJ G' H' s' b'.sub i
  cases e : xs[i]? with
  | none =>
    have hd : xs.drop i = [] := List.drop_eq_nil_of_le (List.getElem?_eq_none_iff.mp e)
    rw [hd] at good
    exact .inl ⟨hstop e, good O' σ' G' H' b' (Sub.refl G')⟩
  | some x =>
    obtain ⟨hl, hx⟩ := List.getElem?_eq_some_iff.mp e
    have hd : xs.drop i = x :: xs.drop (i + 1) := by rw [List.drop_eq_getElem_cons hl, hx]
    rw [hd] at good
    unfold forS at good
    obtain ⟨h1, h2⟩ := hgo x e
    cases e1 : f x env' with
    | none => rw [e1] at good; exact good.elim
    | some env1 =>
      rw [e1] at good
      dsimp only at good
      refine .inr ⟨h1, fun σ2 H2 => ∃ env2 O2 G2 st2, Bd w ex F env2 O2 σ2 G2 H2 st2 ∧ Sub G1 G2 ∧ GoodS w ex F W G2 D (forS f mb (xs.drop (i + 1)) env2 st2), fun σ2 H2 ⟨env2, O2, G2, st2, b2, s2, g2⟩ => ⟨xs.length - (i + 1), by omega, rfl, by omega, env2, O2, G2, st2, b2, s2, g2⟩, fun v H2 y => ?_⟩
      rcases h2 v H2 y with ⟨e2, r⟩ | ⟨q, o, hq, e2, r⟩
      · subst e2
        refine qg F env' O' σ' G' H2 st' b' x v r env1 e1 _ fun σ2 b2 => qb F env1 O' σ2 G' H2 st' b2 _ ?_
        exact forS_turn s' (fun env2 st2 O σ G' H' b s g => ⟨env2, O, G', st2, b, s, g⟩) good
      · subst e2
        have b3 := b'.laid (o := o) hq
        have s3 : Sub G1 (upd G' q o) := s'.trans (Sub.new (b'.free hq))
        refine qg F env' O' σ' _ _ st' b3 x v r env1 e1 _ fun σ2 b2 => qb F env1 O' σ2 _ _ st' b2 _ ?_
        exact forS_turn s3 (fun env2 st2 O σ G' H' b s g => ⟨env2, O, G', st2, b, s, g⟩) (good.later (Sub.new (b'.free hq)))
end
end Mir

/-! Mir, part 11: raise C(..), C an own exception. -/
namespace Mir
open PySem PySem.Spec PyProof.Rows L2

/-! ### __init__ of an own exception -/
def tIni (K : PySem.W.Frag) : Nat → List Str → TS
  | _, [] => tNext
  | i, f :: fs => tSeq (tOst K f (tVar 0) (tVar (i + 1))) (tIni K (i + 1) fs)
def spIni (K : PySem.W.Frag) (fields : List Str) : Sp := fun vs H Q _ => ∃ (a C : Addr) (xs : List V), vs = .ref a :: xs ∧ xs.length = fields.length ∧ OexC K C ∧ H a = some (exo a C none) ∧ (∀ f ∈ fields, PySem.W.findIn K (.ref C) f = some none) ∧
  ∀ (dx : Addr) (H' : Hp), H dx = none → dx ≠ a → H' a = some (exo a C (some dx)) → H' dx = some (exd dx (fields.zip xs).reverse) → (∀ b, b ≠ a → b ≠ dx → H' b = H b) → Q .non H'
def iniChk : List Str → List Stmt → Bool
  | [], [] => true
  | f :: fs, .Assign [.Attribute (.Name s _) g _] (.Name h _) _ :: r => decide (g = f) && decide (h = f) && decide (s = "self") && iniChk fs r
  | _, _ => false
theorem pss_ini {X : Cx} {N : List Str} (hN : X.N = ("self" : Str) :: N) (hv : ∀ x ∈ X.N, Vis X.env.scope x ∧ okName x = true) : ∀ (fs : List Str) (b : List Stmt) (i : Nat), (∀ j f, fs[j]? = some f → N[i + j]? = some f) → iniChk fs b = true → PSs X b (tIni X.K i fs)
  | [], [], _, _, _ => pss_nil
  | [], _ :: _, _, _, h => by simp [iniChk] at h
  | f :: fs, [], _, _, h => by simp [iniChk] at h
  | f :: fs, s :: b, i, hf, h => by
    unfold iniChk at h
    split at h
    · simp_all
    · rename_i q1 q2
      simp only [List.cons.injEq] at q1 q2
      obtain ⟨rfl, rfl⟩ := q1
      obtain ⟨rfl, rfl⟩ := q2
      simp only [Bool.and_eq_true, decide_eq_true_eq] at h
      obtain ⟨⟨⟨rfl, rfl⟩, rfl⟩, h⟩ := h
      have e0 : X.N[0]? = some ("self" : Str) := by rw [hN]; rfl
      have e1 := hf 0 _ rfl
      have e2 : X.N[i + 1]? = N[i + 0]? := by rw [hN]; rfl
      rw [← e2] at e1
      have v0 := hv _ (List.mem_of_getElem? e0)
      have v1 := hv _ (List.mem_of_getElem? e1)
      refine pss_cons (ps_ost (pe_var e0 v0.1 (okN_d v0.2) (okN_c v0.2)) (pe_var e1 v1.1 (okN_d v1.2) (okN_c v1.2)) (noSwap rfl)) (pss_ini hN hv fs _ (i + 1) (fun j g e => ?_) h)
      have := hf (j + 1) g (by simpa using e)
      rw [← this]; congr 1; omega
    · cases h
theorem upd_id {H : Hp} {a : Addr} {o : HO} (h : H a = some o) : upd H a o = H := by
  funext b
  by_cases e : b = a
  · rw [e, upd_same, h]
  · rw [upd_ne e]
theorem tIni_old {K : PySem.W.Frag} {σ : L2.St} {D : Ends} {a C dx : Addr} (h0 : σ[0]? = some (some (.ref a))) (T : OexC K C) (na : dx ≠ a) : ∀ (fs : List Str) (xs : List V) (i : Nat) (acc : List (Str × V)) (H : Hp), (∀ j x, xs[j]? = some x → σ[i + 1 + j]? = some (some x)) → xs.length = fs.length →
    (∀ f ∈ fs, PySem.W.findIn K (.ref C) f = some none) → H a = some (exo a C (some dx)) → H dx = some (exd dx acc) → acc.length + fs.length ≤ 900 → D.nx σ (upd H dx (exd dx ((fs.zip xs).reverse ++ acc))) → tIni K i fs D σ H
  | [], [], i, acc, H, _, _, _, _, hd, _, k => by
    have : upd H dx (exd dx acc) = H := upd_id hd
    simp only [List.zip_nil_left, List.reverse_nil, List.nil_append] at k
    rw [this] at k
    exact k
  | [], _ :: _, _, _, _, _, hl, _, _, _, _, _ => by simp at hl
  | _ :: _, [], _, _, _, _, hl, _, _, _, _, _ => by simp at hl
  | f :: fs, x :: xs, i, acc, H, hσ, hl, hn, ha, hd, hz, k => by
    refine ⟨x, by simpa using hσ 0 x rfl, .ref a, h0, a, C, rfl, T, hn f List.mem_cons_self, .inr ⟨dx, acc, ha, hd, by simp at hz; omega, ?_⟩⟩
    refine tIni_old h0 T na fs xs (i + 1) ((f, x) :: acc) _ (fun j y e => ?_) (by simpa using hl) (fun g hg => hn g (List.mem_cons_of_mem _ hg)) (by rw [upd_ne na.symm]; exact ha) upd_same (by simp at hz ⊢; omega) ?_
    · have := hσ (j + 1) y (by simpa using e)
      rw [← this]; congr 1; omega
    · have e : upd (upd H dx (exd dx ((f, x) :: acc))) dx (exd dx ((fs.zip xs).reverse ++ (f, x) :: acc)) = upd H dx (exd dx (((f :: fs).zip (x :: xs)).reverse ++ acc)) := by
        funext b
        by_cases hb : b = dx
        · subst hb; simp [upd_same]
        · rw [upd_ne hb, upd_ne hb, upd_ne hb]
      rw [e]; exact k
theorem tIni_all {K : PySem.W.Frag} {N : List Str} {vs : List V} {H : Hp} {Q : VK} {E : XK} {fields : List Str} (hf : fields ≠ []) (hlen : fields.length ≤ 900) (h : spIni K fields vs H Q E) :
    tIni K 0 fields { nx := fun _ H' => Q .non H', rt := Q } (L2.start (("self" : Str) :: fields) vs) H := by
  obtain ⟨a, C, xs, rfl, hl, T, ha, hn, k⟩ := h
  cases fields with
  | nil => exact absurd rfl hf
  | cons f fs =>
    cases xs with
    | nil => simp at hl
    | cons x xs =>
      have hs : ∀ j y, (V.ref a :: x :: xs)[j]? = some y → (L2.start (("self" : Str) :: f :: fs) (.ref a :: x :: xs))[j]? = some (some y) := fun j y e => by
        unfold L2.start
        obtain ⟨hj, _⟩ := List.getElem?_eq_some_iff.mp e
        rw [List.getElem?_append_left (by simpa using hj), List.getElem?_map, e]; rfl
      refine ⟨x, hs 1 x rfl, .ref a, hs 0 _ rfl, a, C, rfl, T, hn f List.mem_cons_self, .inl ⟨ha, fun dx hd na => ?_⟩⟩
      refine tIni_old (hs 0 _ rfl) T na fs xs 1 [(f, x)] _ (fun j y e => ?_) (by simpa using hl) (fun g hg => hn g (List.mem_cons_of_mem _ hg)) upd_same (by rw [upd_ne na, upd_same]) (by simp at hlen ⊢; omega) ?_
      · have := hs (j + 2) y (by simpa using e)
        rw [← this]; congr 1; omega
      · refine k dx _ hd na (by rw [upd_ne na.symm, upd_same]) (by rw [upd_same]; simp) fun b h1 h2 => ?_
        rw [upd_ne h2, upd_ne h1, upd_ne h2]
theorem fn_ini {w : Wd} {fields : List Str} {x qual : Str} {params : Arguments} {body : List Stmt} {scope : Scope} {kws : List (Str × V)} {f : Addr} {fd : FuncData} (Fd : FunD w.K x qual params body scope [] kws f fd) (S : FnScope (("self" : Str) :: fields) (("self" : Str) :: fields) scope)
    (hf : fields ≠ []) (hlen : fields.length ≤ 900) (hv : (("self" : Str) :: fields).all (fun x => visB scope x && okName x) = true) (hb : iniChk fields body = true) :
    FnOk w.P w.wd w.K w.mg w.base (L2.CX w.P w.wd) 1 f fd (("self" : Str) :: fields) (spIni w.K fields) := by
  refine Fd.ok S (fun vs H Q E h => ?_) fun cdv A outer s H vs Q E hr h => ⟨tIni w.K 0 fields, ?_, tIni_all (N := fields) (E := E) hf hlen h⟩
  · obtain ⟨a, C, xs, rfl, hl, _⟩ := h
    simp [hl]
  · refine pss_ini (X := cxOf (L2.CX w.P w.wd) w.P w.wd w.K w.mg w.base (("self" : Str) :: fields) qual scope f cdv A outer s H E) (N := fields) rfl (fun y hy => ?_) fields body 0 (fun j g e => by simpa using e) hb
    have q := List.all_eq_true.mp hv y hy
    simp only [Bool.and_eq_true] at q
    exact ⟨vis_of q.1, q.2⟩

/-! ### raise -/
structure ExcW (w : Wd) (ts : List ExI) : Prop where
  nm : ∀ c e, ts[c]? = some e → w.mg e.name = some (.ref (w.ca c))
  o1 : ∀ c e, ts[c]? = some e → e.fields ≠ [] → e.fields.Nodup ∧ e.fields.length ≤ 900 ∧ OexC w.K (w.ca c) ∧ (∀ f ∈ e.fields, PySem.W.findIn w.K (.ref (w.ca c)) f = some none) ∧
    ∃ fI fd, PySem.W.findIn w.K (.ref (w.ca c)) "__init__" = some (some (.ref fI)) ∧ PySem.W.typeIn w.K (.ref fI) = some (.type "function") ∧ FnOk w.P w.wd w.K w.mg w.base (L2.CX w.P w.wd) 1 fI fd (("self" : Str) :: e.fields) (spIni w.K e.fields) ∧ Binds w.K fd (("self" : Str) :: e.fields) []
  o0 : ∀ c e, ts[c]? = some e → e.fields = [] → PySem.W.excIn w.K (w.ca c) He.veBase "ValueError.__new__" = true ∧ PySem.W.keepIn w.K (.ref (w.ca c)) = true ∧ PySem.W.subIn w.K (.ref (w.ca c)) (.type "BaseException") = some true ∧ PySem.W.typeIn w.K (.ref (w.ca c)) = some (.type "type")

theorem lookup_nodup {β : Type} {f : Str} {y : β} : ∀ {l : List (Str × β)}, (l.map (·.1)).Nodup → (f, y) ∈ l → l.lookup f = some y
  | [], _, h => by cases h
  | (g, z) :: r, nd, h => by
    simp only [List.map_cons, List.nodup_cons] at nd
    rcases List.mem_cons.mp h with e | h
    · cases e
      simp [List.lookup]
    · have ne : f ≠ g := fun e => nd.1 (e ▸ List.mem_map_of_mem (f := (·.1)) h)
      have hb : (f == g) = false := by simpa using ne
      simp [List.lookup, hb, lookup_nodup nd.2 h]
theorem lookup_mem2 {β : Type} {f : Str} {y : β} : ∀ {l : List (Str × β)}, l.lookup f = some y → (f, y) ∈ l
  | [], h => by cases h
  | (g, z) :: r, h => by
    by_cases e : f = g
    · subst e
      simp [List.lookup] at h
      subst h
      exact List.mem_cons_self
    · have hb : (f == g) = false := by simpa using e
      simp [List.lookup, hb] at h
      exact List.mem_cons_of_mem _ (lookup_mem2 h)
theorem zip_xd {w : Wd} {G : Hp} {fields : List Str} {xs : List PV} {vs : List V} (nd : fields.Nodup) (hl : xs.length = fields.length) (r : RepL w G xs vs) : ∀ f x, (fields.zip xs).lookup f = some x → ∃ v, (fields.zip vs).reverse.lookup f = some v ∧ Rep w G x v := fun f x h => by
  have hm := lookup_mem2 h
  obtain ⟨i, hi, e⟩ := List.mem_iff_getElem.mp hm
  have hi' : i < fields.length ∧ i < xs.length := by rw [List.length_zip] at hi; omega
  rw [List.getElem_zip] at e
  injection e with e1 e2
  obtain ⟨v, q1, q2⟩ := r.at (i := i) (x := x) (by rw [List.getElem?_eq_getElem hi'.2, e2])
  obtain ⟨hv, q3⟩ := List.getElem?_eq_some_iff.mp q1
  refine ⟨v, lookup_nodup ?_ ?_, q2⟩
  · rw [List.map_reverse]; refine (List.reverse_perm _).nodup_iff.mpr ?_; rw [List.map_fst_zip (by rw [r.length, hl]; exact Nat.le_refl _)]
    exact nd
  · refine List.mem_reverse.mpr (List.mem_iff_getElem.mpr ⟨i, by rw [List.length_zip]; omega, ?_⟩)
    rw [List.getElem_zip, e1, q3]
section
variable {w : Wd} {cc : CC} {n : Nat} {ex : Ex} {W : WX} {xe ye ze : Expr} {es : List Expr} {pos p p' : Pos} {ts : List ExI}
def mRaise (c : Nat) (fields : List Str) (m : MSv) : MS := fun env st => toS (m env st) env fun as st => match plains as with
  | some xs => if xs.length = fields.length ∧ xs.length ≤ 1000 then .exn c (fields.zip xs) env st else .bad
  | none => .bad
theorem ss_raise (T : ExcW w ts) {c : Nat} {e : ExI} {x : Str} {m : MSv} (hn : 2 ≤ n) (hot : cc.hot = false) (hc : ts[c]? = some e) (hx : e.name = x) (hf : e.fields ≠ []) (hg : glB cc x = true) (hs : (xe :: es).all (fun e => !star? e) = true) (h : SA w cc n ex W (xe :: es) m) :
    SS w cc n ex W (.Raise (some (.Call (.Name x p) (xe :: es) [] pos)) none p') (mRaise c e.fields m) := by
  subst hx
  obtain ⟨t1, p1, q1⟩ := h
  obtain ⟨nd, l9, OC, hno, fI, fd, i1, i2, F1, B1⟩ := T.o1 c e hc hf
  refine ⟨fun _ σ H => tMkO (w.ca c) (spIni w.K e.fields) [] t1 σ H fun cls d H' => W cls d σ H', fun X hX => ?_, fun F env O σ G H st bd D hgd => ?_⟩
  · have hcalm := (hX.c.calm hot).1
    have hs' : starEach (xe :: es) X.env = (false, eval xe X.env) :: starEach es X.env := starEach_cons (by simp only [List.all_cons, Bool.and_eq_true, Bool.not_eq_true'] at hs; exact hs.1)
    have hpl : (backTo pos (starEach es X.env)).any (·.1) = false := plain_args (by simp only [List.all_cons, Bool.and_eq_true] at hs; exact hs.2)
    refine ps_raise hcalm hX.c.tk fun pins s σ H Q I hh => ?_
    have hr : Room 2 X.A := ⟨I.ok.hd hcalm, (hX.c.room.mono hn).dp, (hX.c.room.mono hn).un⟩
    refine pmk_oex (X := X) (CX := L2.CX w.P w.wd) (k := 1) (C := w.ca c) (fI := fI) (fd := fd) (ps := ("self" : Str) :: e.fields) (sp := spIni w.K e.fields) (ds := []) (dvs := []) (ta := t1) ?_ ?_ ?_ ?_ hr ?_ .nil ?_ (glB_gl hg hX.c) ?_ (p1 X hX.c) (okN_d (glB_ok hg)) hs' hpl pins s σ H Q I hh
    · rw [hX.c.K]; exact OC
    · rw [hX.c.K]; exact i1
    · rw [hX.c.K]; exact i2
    · rw [hX.c.P, hX.c.wd, hX.c.K, hX.c.mg, hX.c.base]; exact F1
    · rw [hX.c.K]; exact B1
    · rintro pins σ H s u s' I ⟨a, B, H', cls, d, _, _, _, _, _, _, _, z⟩
      exact z.elim
    · rw [hX.c.mg]; exact T.nm c e hc
  · refine q1 F env O σ G H st bd _ (Good.imp (fun as st1 G1 H1 b1 g1 k1 vs r1 => ?_) hgd.good)
    cases e1 : plains as with
    | none => rw [e1] at k1; exact k1.elim
    | some xs =>
      rw [e1] at k1
      dsimp only at k1
      have r2 := r1.plain e1
      by_cases hl : xs.length = e.fields.length ∧ xs.length ≤ 1000
      · rw [if_pos hl] at k1
        refine ⟨by rw [r2.length]; exact hl.2, fun a ha => ⟨a, w.ca c, vs, by rw [List.append_nil], by rw [r2.length]; exact hl.1, OC, upd_same, hno, fun dx H' h1 h2 h3 h4 h5 => ?_⟩⟩
        have hd : H1 dx = none := by rw [upd_ne h2] at h1; exact h1
        refine ⟨rfl, dx, _, h3, h4, hd, ?_⟩
        have e2 : upd (del H' a) dx (.xd (e.fields.zip vs).reverse) = upd H1 dx (.xd (e.fields.zip vs).reverse) := by
          funext b
          by_cases hb : b = dx
          · rw [hb, upd_same, upd_same]
          · rw [upd_ne hb, upd_ne hb]
            by_cases hba : b = a
            · rw [hba, del_same, ha]
            · rw [del_ne hba, h5 b hba hb, upd_ne hba]
        rw [e2]
        refine k1 O σ _ _ (some dx) (b1.laid hd) (Sub.new (b1.free hd)) (.inr ⟨dx, _, rfl, upd_same, zip_xd nd hl.1 (RepL.mono (Sub.new (b1.free hd)) _ _ r2)⟩)
      · rw [if_neg hl] at k1; exact k1.elim
/-- raise C(), C without fields -/
def mRaise0 (c : Nat) : MS := fun env st => .exn c [] env st
theorem ss_raise0 (T : ExcW w ts) {c : Nat} {e : ExI} {x : Str} (hot : cc.hot = false) (hc : ts[c]? = some e) (hx : e.name = x) (hf : e.fields = []) (hg : glB cc x = true) :
    SS w cc n ex W (.Raise (some (.Call (.Name x p) [] [] pos)) none p') (mRaise0 c) := by
  subst hx
  obtain ⟨k1, k2, k3, k4⟩ := T.o0 c e hc hf
  refine ⟨fun _ σ H => W (.ref (w.ca c)) none σ H, fun X hX => ?_, fun F env O σ G H st bd D hgd => hgd O σ G H none bd (Sub.refl G) (.inl ⟨rfl, rfl⟩)⟩
  have hcalm := (hX.c.calm hot).1
  refine ps_raise (t := fun σ H Q => Q (.ref (w.ca c)) none H) hcalm hX.c.tk fun pins s σ H Q I hh => ?_
  refine wpAny_Call_Name_kw (ld_glob I (glB_gl hg hX.c) (by rw [hX.c.mg]; exact T.nm c e hc) ?_ (okN_d (glB_ok hg)))
  rw [← hX.c.K] at k1 k2 k3 k4
  refine PySem.W.callWith_K0 I.kIn k2 ?_
  show wpAny _ _ (call (.ref (w.ca c)) []) _ _ _
  obtain ⟨bm, N, nm, qn, bs, hdct, sn, sub, ab, col, dd, l0, l1, l2, l3, l5, mN, hC, hN, hni, TT⟩ := exc_obj I.kIn k1
  refine wpAny_call_exc_subT F.excBase_ValueError TT hC hN hni (fun h' e hm => ?_) (by show 0 ≤ sizeLine; omega)
  exact mk_of I hm (raises_own k3 k4) hh (I.hok.gone hm.new)
end
end Mir

/-! Mir, part 12: try, defs. -/
namespace Mir
open PySem PySem.Spec PyProof.Rows L2

/-! ### try: body, except Root as e: suite -/
def noErr : Option SV → Option SV
  | some (.err _ _) => none
  | s => s
def cleanE (env : Env) : Env := env.map noErr
theorem cleanE_at {env : Env} {i : Nat} : (cleanE env).getD i none = noErr (env.getD i none) := by
  unfold cleanE
  rw [List.getD_eq_getElem?_getD, List.getD_eq_getElem?_getD, List.getElem?_map]
  cases env[i]? <;> rfl
def mTry (tn : Nat) (i : Nat) (m1 m2 : MS) : MS := fun env st => match m1 env st with
  | .exn c fs env1 st1 => if c < tn ∧ i < env1.length then (match m2 (env1.set i (some (.err c fs))) st1 with
    | .nx env2 st2 => .nx (cleanE (env2.set i none)) st2
    | .bk env2 st2 => .bk (cleanE (env2.set i none)) st2
    | .ct env2 st2 => .ct (cleanE (env2.set i none)) st2
    | .rt r st2 => .rt r st2
    | _ => .bad) else .bad
  | r => r
section
variable {w : Wd} {cc : CC} {n : Nat} {ex : Ex} {W : WX} {xe ye ze : Expr} {es : List Expr} {pos p p' : Pos} {ts : List ExI} {F : Fr0} {env : Env} {O : Nat → Addr} {σ : L2.St} {G H : Hp} {st : Pen}
theorem Bd.clean (b : Bd w ex F env O σ G H st) : Bd w [] F (cleanE env) O σ G H st where
  sub := b.sub
  np := b.np
  pen := b.pen
  gr := b.gr
  len := by unfold cleanE; rw [List.length_map]; exact b.len
  sl := fun i => by
    have h := b.sl i
    rw [cleanE_at]
    cases e : env.getD i none with
    | none => trivial
    | some sv =>
      rw [e] at h
      cases sv with
      | err c fs => trivial
      | pv x => exact h
      | pen => exact h
      | ol xs => exact h
  ow := fun i xs e => by
    rw [cleanE_at] at e
    cases q : env.getD i none with
    | none => rw [q] at e; cases e
    | some sv =>
      rw [q] at e
      cases sv <;> cases e
      exact b.ow i xs q
  inj := fun i j xs ys e1 e2 => by
    rw [cleanE_at] at e1 e2
    cases q1 : env.getD i none with
    | none => rw [q1] at e1; cases e1
    | some sv =>
      rw [q1] at e1
      cases q2 : env.getD j none with
      | none => rw [q2] at e2; cases e2
      | some sw =>
        rw [q2] at e2
        cases sv <;> cases e1
        cases sw <;> cases e2
        exact b.inj i j xs ys q1 q2
theorem Bd.caught {i c : Nat} {fs : List (Str × PV)} {a : Addr} {d : Option Addr} (b : Bd w [] F env O σ G H st) (hi : i < env.length) (x : XdR w G fs d) : Bd w [(a, .ref (w.ca c), d)] F (env.set i (some (.err c fs))) O (σ.set i (some (.ref a))) G H st where
  sub := b.sub
  np := b.np
  pen := b.pen
  gr := b.gr
  len := by simp [b.len]
  sl := fun j => by
    rw [getD_set, getD_set, b.len]
    by_cases h : i = j ∧ i < env.length
    · rw [if_pos h, if_pos h]; exact ⟨a, d, rfl, List.mem_singleton.mpr rfl, x⟩
    · rw [if_neg h, if_neg h]
      have k := b.sl j
      cases e : env.getD j none with
      | none => trivial
      | some sv =>
        rw [e] at k
        cases sv with
        | err c fs => obtain ⟨_, _, _, z, _⟩ := k; cases z
        | pv x => exact k
        | pen => exact k
        | ol xs => exact k
  ow := fun j xs e => by
    rw [getD_set] at e
    by_cases h : i = j ∧ i < env.length
    · rw [if_pos h] at e; cases e
    · rw [if_neg h] at e; exact b.ow j xs e
  inj := fun j k xs ys e1 e2 => by
    rw [getD_set] at e1 e2
    by_cases h : i = j ∧ i < env.length
    · rw [if_pos h] at e1; cases e1
    · by_cases h' : i = k ∧ i < env.length
      · rw [if_pos h'] at e2; cases e2
      · rw [if_neg h] at e1; rw [if_neg h'] at e2; exact b.inj j k xs ys e1 e2
theorem ss_try {body suite : List Stmt} {b0 : Stmt} {m1 m2 : MS} {root i : Nat} {er : ExI} {s x : Str} {np pos' : Pos} (T : TopX w ts root) (hot : cc.hot = false) (hr : ts[root]? = some er) (hx : er.name = x) (hg : glB cc x = true) (hi : decide (cc.N[i]? = some s) = true) (hl : cc.sc.names.lookup s = some .local)
    (h1 : ∀ W, SSs w cc n [] W body m1) (h2 : ∀ ex, SSs w { cc with hot := true } n ex (fun _ _ _ _ => False) (b0 :: suite) m2) :
    SS w cc n [] W (.Try body [.ExceptHandler (some (.Name x np)) (some s) (b0 :: suite) pos'] [] [] pos) (mTry ts.length i m1 m2) := by
  subst hx
  let tb : WX → TS := fun W => Classical.choose (h1 W)
  have pb := fun W => (Classical.choose_spec (h1 W)).1
  have qb := fun W => (Classical.choose_spec (h1 W)).2
  let tz : Addr → Value → Option Addr → TS := fun a c d => Classical.choose (h2 [(a, c, d)])
  have pz := fun a c d => (Classical.choose_spec (h2 [(a, c, d)])).1
  have qz := fun a c d => (Classical.choose_spec (h2 [(a, c, d)])).2
  refine ⟨fun D σ H => tb (wAs w.K (.ref (w.ca root)) i tz W D) D σ H, fun X hX => ?_, fun F env O σ G H st bd D hgd => ?_⟩
  · rw [← hX.c.K]
    refine ps_try_as hX.stk hX.frame (by rw [hX.c.N]; exact hX.c.nd) (by rw [hX.c.N]; exact of_decide_eq_true hi) (by show X.env.scope.names.lookup s = some .local; rw [hX.c.sc]; exact hl) ⟨glB_gl hg hX.c, okN_d (glB_ok hg), .inl (by rw [hX.c.mg]; exact T.nm root er hr)⟩ hX.c.tk (fun W' pn xe tk pa => pb W' _ ?_) (fun a oe cls d pn hz hv => pz a cls d _ ?_)
    · exact ⟨⟨hX.c.P, hX.c.wd, hX.c.K, hX.c.mg, hX.c.base, hX.c.sc, hX.c.N, hX.c.nd, hX.c.kind, fun h => ⟨(hX.c.calm h).1, rfl⟩, hX.c.fn, hX.c.room, tk, fun q hq => nomatch hq⟩, pa, hX.stk, hX.frame⟩
    · exact ⟨⟨hX.c.P, hX.c.wd, hX.c.K, hX.c.mg, hX.c.base, hX.c.sc, hX.c.N, hX.c.nd, hX.c.kind, fun h => Bool.noConfusion h, hX.c.fn, ⟨hX.c.room.dp, hX.c.room.un, hX.c.room.gd⟩, fun u s' ⟨_, _, _, _, _, _, _, _, _, _, _, _, _, _, _, _, z⟩ => z.elim, fun q hq => by
        rw [List.mem_singleton] at hq; subst hq; exact ⟨oe, List.mem_cons_self, hz, hv⟩⟩, PassesOwn.never, hX.stk, hX.frame⟩
  · refine qb _ F env O σ G H st bd D ?_
    unfold mTry at hgd
    cases e1 : m1 env st with
    | nx env1 st1 => rw [e1] at hgd; exact hgd
    | rt r st1 => rw [e1] at hgd; exact hgd
    | bk env1 st1 => rw [e1] at hgd; exact hgd
    | ct env1 st1 => rw [e1] at hgd; exact hgd
    | bad => rw [e1] at hgd; exact hgd.elim
    | exn c fs env1 st1 =>
      rw [e1] at hgd
      dsimp only at hgd
      by_cases hc : c < ts.length ∧ i < env1.length
      · rw [if_pos hc] at hgd
        intro O' σ' G' H' d b' s' x'
        refine ⟨true, T.exm c _ (List.getElem?_eq_getElem hc.1), fun _ a ha => ?_, fun z => nomatch z⟩
        refine qz a (.ref (w.ca c)) d F _ O' _ G' H' st1 (b'.caught hc.2 x') _ ?_
        cases e2 : m2 (env1.set i (some (.err c fs))) st1 with
        | nx env2 st2 => rw [e2] at hgd; exact fun O2 σ2 G2 H2 b2 s2 => hgd O2 _ G2 H2 b2.unset.clean (s'.trans s2)
        | rt r st2 => rw [e2] at hgd; exact hgd
        | bk env2 st2 => rw [e2] at hgd; exact fun O2 σ2 G2 H2 b2 s2 => hgd O2 _ G2 H2 b2.unset.clean (s'.trans s2)
        | ct env2 st2 => rw [e2] at hgd; exact fun O2 σ2 G2 H2 b2 s2 => hgd O2 _ G2 H2 b2.unset.clean (s'.trans s2)
        | exn c fs env1 st1 => rw [e2] at hgd; exact hgd.elim
        | bad => rw [e2] at hgd; exact hgd.elim
      · rw [if_neg hc] at hgd; exact hgd.elim
end
end Mir

/-! Mir, part 13: defs of the text's own. -/
namespace Mir
open PySem PySem.Spec PyProof.Rows L2

abbrev MF := List SV → Pen → Res PV
/-- what a def is told of the caught exceptions' objects -/
def PinsOk (outer : List PySem.Env) (H : Hp) (s : Shared) (pn : List (Addr × Obj)) : Prop := ∀ p ∈ pn, s.heap.get? p.1 = some p.2 ∧ H p.1 = none ∧ p.1 ∉ frs outer ∧ ∀ v, p.2.data ≠ .cell v
def ExOk (ex : Ex) (pn : List (Addr × Obj)) : Prop := ∀ q ∈ ex, ∃ oe, (q.1, oe) ∈ pn ∧ Zc q.2.1 q.2.2 oe ∧ ∃ vs, oe.data = .fields vs
/-- a def's end -/
def GoodF (w : Wd) (F : Fr0) (Q : VK) (E : XK) : Res PV → Prop
  | .ok r st => ∀ v G' H', Fin w F G' H' st → Rep w G' r v → Q v H'
  | .exn c fs st => ∀ G' H' d, Fin w F G' H' st → XdR w G' fs d → E (.ref (w.ca c)) d H'
  | .bad => False
/-- a def's promise -/
def spM (w : Wd) (ex : Ex) (k : Nat) (m : MF) : Sp := fun vs H Q E => vs.length = k ∧ ∃ (p : Addr) (G : Hp) (st : Pen) (as : List SV), SvL w ex p G as vs ∧ Sub G H ∧ G p = none ∧ PenAt w.K G H p st ∧ GoodF w ⟨p, G, H⟩ Q E (m as st)
structure FnM (w : Wd) (hot : Bool) (k : Nat) (f : Addr) (fd : FuncData) (ps : List Str) (m : MF) : Prop where
  run : ∀ (A : Around) (outer : List PySem.Env) (s : Shared) (H : Hp) (args : Args) (us : List Value) (vs : List V) (Q : VK) (E : XK) (pn : List (Addr × Obj)) (ex : Ex), RoomH k A → (hot = false → A.handled = none ∧ pn = [] ∧ ex = []) → PinsOk outer H s pn → ExOk ex pn →
    Env0 w.P w.wd w.K w.mg w.base A outer s H → BindsTo s fd args (ps.zip us) → Vals vs us → spM w ex ps.length m vs H Q E → codeAny (model w.P w.wd) A (.call (.ref f) args) (CR (L2.CX w.P w.wd) outer w.P w.wd H s Q E) s
theorem FnM.mono {w : Wd} {hot : Bool} {j k : Nat} {f : Addr} {fd : FuncData} {ps : List Str} {m : MF} (F : FnM w hot j f fd ps m) (h : j ≤ k) : FnM w hot k f fd ps m :=
  ⟨fun A outer s H args us vs Q E pn ex hr => F.run A outer s H args us vs Q E pn ex (hr.mono h)⟩

/-! ### a body -/
def initE (N : List Str) (as : List SV) : Env := as.map some ++ List.replicate (N.length - as.length) none
def mFn (N : List Str) (m : MS) : MF := fun as st => match m (initE N as) st with
  | .rt r st => .ok r st
  | .nx _ st => .ok .non st
  | .exn c fs _ st => .exn c fs st
  | _ => .bad
def cxM (CX : CXT) (P : Program) (w : World) (K : PySem.W.Frag) (mg : Str → Option Value) (base : Heap) (N : List Str) (qual : Str) (scope : Scope) (f : Addr) (cd : Value) (A : Around) (outer : List PySem.Env) (s : Shared) (H : Hp) (E : XK) (hot : Bool) (pn : List (Addr × Obj)) : Cx :=
  { cxOf CX P w K mg base N qual scope f cd A outer s H E with calm := !hot, pn := pn }
theorem inv_startM {CX : CXT} {P : Program} {w : World} {K : PySem.W.Frag} {mg : Str → Option Value} {base : Heap} {N ps : List Str} {qual : Str} {scope : Scope} {f : Addr} {cd : Value} {A : Around} {outer : List PySem.Env} {s s1 : Shared} {H : Hp} {E : XK} {us : List Value} {vs : List V}
    (S : FnScope N ps scope) {hot : Bool} {pn : List (Addr × Obj)} (hh : hot = false → A.handled = none) (hpin : PinsOk outer H s pn) (e0 : Env0 P w K mg base A outer s H) (hl : vs.length = ps.length) (r : Vals vs us)
    (x : InCallC s s.heap.objs.size (bindL (envOfC qual scope s.heap.objs.size f cd).kindOf (ps.zip us) fun _ => none) (cellsFrom (s.heap.objs.size + 1) scope.names []) (bindC (envOfC qual scope s.heap.objs.size f cd).kindOf (ps.zip us) fun _ => none) s1) :
    Inv (cxM CX P w K mg base N qual scope f cd A outer s H E hot pn) [] (L2.start N vs) H s1 := by
  have hpl : ps.length ≤ N.length := by have := congrArg List.length S.pre; rw [List.length_take] at this; omega
  obtain ⟨h1, tk, rfl, hk⟩ := x.done
  have noA : ∀ b : Addr, b ∉ (cxM CX P w K mg base N qual scope f cd A outer s H E hot pn).ex := fun b z => absurd (show b ∈ ([] : List Addr) from z) (by simp)
  refine ⟨⟨e0.mod, S.kind, rfl, rfl, Nat.le_refl _, fun y z c h1 h2 => ?_, fun y hy => ?_, fun y c _ h => ?_, (fun z => hh (by have z' : (!hot) = true := z; simpa using z')), Around.frames_deeper e0.frames, .inr ⟨rfl, rfl⟩, fun b z => absurd z (noA b), e0.bs, e0.bsz, fun b _ _ => noA b, fun b z => absurd z (noA b), e0.funs, e0.frf⟩,
    rfl, e0.bare, Un.kept hk, ⟨_, x.toInCall.ns, fun i y v h1 h2 h3 => ?_⟩, fun y c h => ⟨_, x.cell y c h⟩, e0.hok.fresh (Nat.le_refl _), fun y c h => ?_, fun q hq => ?_, e0.hok.kept hk, ?_⟩
  · exact name_of_addr x.apart (PySem.mem_of_lookup h1) (PySem.mem_of_lookup h2)
  · have hy : scope.names.lookup y = some .cell ∨ scope.names.lookup y = some .free := hy
    rcases hy with hy | hy
    · exact cell_has hy
    · exact absurd rfl (S.nofree _ (PySem.mem_of_lookup hy))
  · exact Nat.le_of_lt (x.above y c (PySem.mem_of_lookup h))
  · have hi : i < vs.length := by
      unfold L2.start at h2
      by_cases hi : i < vs.length
      · exact hi
      · rw [List.getElem?_append_right (by simpa using hi)] at h2
        rw [List.getElem?_replicate] at h2
        split at h2 <;> cases h2
    have ha : vs[i]? = some v := by
      unfold L2.start at h2
      rw [List.getElem?_append_left (by simpa using hi), List.getElem?_map] at h2
      cases e : vs[i]? with
      | none => rw [e] at h2; cases h2
      | some a => rw [e] at h2; cases h2; rfl
    obtain ⟨u, hu, rv⟩ := r.get ha
    have hp : ps[i]? = some y := by
      rw [← S.pre, List.getElem?_take_of_lt (by omega)]; exact h1
    have ndP : ps.Nodup := by rw [← S.pre]; exact S.nd.sublist (List.take_sublist _ _)
    refine ⟨u, rv, ?_⟩
    rcases S.par y (List.mem_of_getElem? hp) with k | k
    · exact .inl ⟨k, bindL_get ndP hp hu k⟩
    · obtain ⟨c, e⟩ := cell_has (n := s.heap.objs.size + 1) k
      refine .inr ⟨.inl k, c, e, ?_⟩
      have q := x.cell y c e
      rw [bindC_get ndP hp hu (by show scope.names.lookup y ≠ _; rw [k]; decide)] at q
      exact q
  · exact e0.hok.fresh (Nat.le_of_lt (x.above y c (PySem.mem_of_lookup h)))
  · have hq' : q ∈ pn := by simpa using (show q ∈ pn ++ ([] : List (Addr × Obj)) from hq)
    obtain ⟨k1, k2, k3, k4⟩ := hpin q hq'
    exact ⟨hk q.1 q.2 k1, k2, Nat.ne_of_lt (Heap.lt_size k1), k3, k4⟩
  · unfold L2.start
    show _ = N.length
    rw [List.length_append, List.length_map, List.length_replicate]
    omega
theorem start_bd {w : Wd} {ex : Ex} {N : List Str} {p : Addr} {G H : Hp} {st : Pen} {as : List SV} {vs : List V} (r : SvL w ex p G as vs) (hl : as.length ≤ N.length) (hs : Sub G H) (hp : G p = none) (hpen : PenAt w.K G H p st) :
    Bd w ex ⟨p, G, H⟩ (initE N as) (fun _ => 0) (L2.start N vs) G H st := by
  have key : ∀ {as : List SV} {vs : List V}, SvL w ex p G as vs → ∀ (k i : Nat), Sr w ex p (fun _ => 0) i G H ((as.map some ++ List.replicate k none).getD i none) ((vs.map some ++ List.replicate k none).getD i none) ∧ ∀ xs, (as.map some ++ List.replicate k none).getD i none ≠ some (SV.ol xs) := by
    have base : ∀ (k i : Nat), (List.replicate k (none : Option SV)).getD i none = none := fun k i => by
      rw [List.getD_eq_getElem?_getD, List.getElem?_replicate]
      split <;> rfl
    intro as
    induction as with
    | nil => exact fun {vs} r k i => ⟨by show Sr w ex p _ i G H ((List.replicate k none).getD i none) _; rw [base]; trivial, fun xs e => by
        have e : (List.replicate k none).getD i none = some (SV.ol xs) := e
        rw [base] at e; cases e⟩
    | cons s ss ih =>
      intro vs r k i
      obtain ⟨v, ws, rfl, r1, r2⟩ := r
      cases i with
      | zero =>
        refine ⟨?_, fun xs e => ?_⟩
        · show Sr w ex p _ 0 G H (some s) (some v)
          cases s with
          | pv x => exact ⟨v, rfl, r1⟩
          | pen => exact congrArg some r1
          | err c fs => obtain ⟨a, d, rfl, h2, h3⟩ := r1; exact ⟨a, d, rfl, h2, h3⟩
          | ol xs => exact r1.elim
        · have e : some s = some (SV.ol xs) := e
          cases e
          exact r1.elim
      | succ i =>
        obtain ⟨h1, h2⟩ := ih r2 k i
        refine ⟨?_, fun xs e => h2 xs e⟩
        have e1 : ((s :: ss).map some ++ List.replicate k none).getD (i + 1) none = (ss.map some ++ List.replicate k none).getD i none := rfl
        have e2 : ((v :: ws).map some ++ List.replicate k none).getD (i + 1) none = (ws.map some ++ List.replicate k none).getD i none := rfl
        rw [e1, e2]
        cases q : (ss.map some ++ List.replicate k none).getD i none with
        | none => trivial
        | some sv =>
          rw [q] at h1
          cases sv with
          | ol xs => exact absurd q (h2 xs)
          | pv x => exact h1
          | pen => exact h1
          | err c fs => exact h1
  have hv := r.length
  refine ⟨hs, hp, hpen, Grow.refl _ _ _, ?_, fun i => ?_, fun i xs e => ?_, fun i j xs ys e => ?_⟩
  · unfold L2.start initE
    simp only [List.length_append, List.length_map, List.length_replicate]
    omega
  · have := (key r (N.length - as.length) i).1
    unfold L2.start initE
    rw [hv]; exact this
  · exact absurd e ((key r (N.length - as.length) i).2 xs)
  · exact absurd e ((key r (N.length - as.length) i).2 xs)
/-- a def runs -/
theorem def_run {w : Wd} {hot : Bool} {k : Nat} {N ps : List Str} {x qual : Str} {params : Arguments} {body : List Stmt} {scope : Scope} {dvs : List V} {kws : List (Str × V)} {f : Addr} {fd : FuncData} (Fd : FunD w.K x qual params body scope dvs kws f fd) (S : FnScope N ps scope)
    {A : Around} {outer : List PySem.Env} {s : Shared} {H : Hp} {args : Args} {us : List Value} {vs : List V} {Q : VK} {E : XK} {pn : List (Addr × Obj)} (hr : RoomH (k + 1) A) (hh : hot = false → A.handled = none) (hpin : PinsOk outer H s pn) (e0 : Env0 w.P w.wd w.K w.mg w.base A outer s H)
    (hb : BindsTo s fd args (ps.zip us)) (r : Vals vs us) (hl : vs.length = ps.length)
    (hbody : ∀ cdv : Value, RoomH k (cxM (L2.CX w.P w.wd) w.P w.wd w.K w.mg w.base N qual scope f cdv A outer s H E hot pn).A → ∃ t, PSs (cxM (L2.CX w.P w.wd) w.P w.wd w.K w.mg w.base N qual scope f cdv A outer s H E hot pn) body t ∧ t { nx := fun _ H' => Q .non H', rt := Q } (L2.start N vs) H) :
    codeAny (model w.P w.wd) A (.call (.ref f) args) (CR (L2.CX w.P w.wd) outer w.P w.wd H s Q E) s := by
  obtain ⟨oc, od, dV, kV, doc, pm, an, cdv, ct, osl, rfl, lk, hcd, _, _⟩ := Fd.ex
  have KX : w.K.In s.heap := e0.mod.kin.keeps fun b o e => (e0.bs b o e).1
  have lim : s.heap.NoLimit := e0.mod.nolimit.keeps fun b o e => (e0.bs b o e).1
  have hkind : ∀ y ∈ ps.zip us, scope.names.lookup y.1 = some .local ∨ (scope.names.lookup y.1 = some .cell ∧ ((cellsFrom (s.heap.objs.size + 1) scope.names []).lookup y.1).isSome = true) := fun ⟨n, v⟩ hy => by
    rcases S.par n (List.of_mem_zip hy).1 with q | q
    · exact .inl q
    · exact .inr ⟨q, PySem.W.cellsFrom_some _ _ _ (.inl q)⟩
  have hdp : A.depth < recursionLimit := by have := hr.dp; omega
  refine codeAny_call_function hdp (KX _ _ lk) rfl S.co S.gen rfl (PySem.W.codeRec_of KX hcd) (hb _ _ _ _ ?_)
  refine wpAny_newFunctionEnv_cells S.kind hkind fun env he s1 x => ?_
  subst he
  refine ⟨lim.keeps x.toInCall.keep, codeAny_func ?_⟩
  let X : Cx := cxM (L2.CX w.P w.wd) w.P w.wd w.K w.mg w.base N qual scope f cdv A outer s H E hot pn
  have I : Inv X [] (L2.start N vs) H s1 := inv_startM S hh hpin e0 hl r x
  have hA : RoomH k X.A := ⟨by have := hr.dp; show A.depth + 1 + 3 * k + 5 < _; omega, by have := hr.un; show A.units + 3 + 16 * k + 200 < _; omega, hr.gd⟩
  obtain ⟨t, ht, hq⟩ := hbody cdv hA
  refine wpAny_mono (ht.run [] s1 (L2.start N vs) H _ I hq) (fun fl s' hs => ?_) fun e s' hs => hs
  have fin : ∀ {σ' : L2.St} {H' : Hp} {v : V} {u : Value}, Inv X [] σ' H' s' → RelV v u → Q v H' → CE outer w.P w.wd H s Q u s' :=
    fun {σ' H' v u} J rv q => ⟨v, H', J.os, J.bare, J.base, J.hok, rv, q⟩
  cases fl with
  | ret u =>
    obtain ⟨v, σ', H', J, rv, q⟩ := hs
    exact fin J rv q
  | next =>
    obtain ⟨σ', H', J, q⟩ := hs
    exact fin (v := V.non) (u := Value.none) J rfl q
  | brk =>
    obtain ⟨_, _, _, q⟩ := hs
    exact False.elim q
  | cont =>
    obtain ⟨_, _, _, q⟩ := hs
    exact False.elim q
theorem ctxM {w : Wd} {hot : Bool} {k : Nat} {N ps : List Str} {qual : Str} {scope : Scope} {f : Addr} {cdv : Value} {A : Around} {outer : List PySem.Env} {s : Shared} {H : Hp} {E : XK} {pn : List (Addr × Obj)} {ex : Ex} (S : FnScope N ps scope) (hh : hot = false → ex = []) (hex : ExOk ex pn)
    (hA : RoomH k (cxM (L2.CX w.P w.wd) w.P w.wd w.K w.mg w.base N qual scope f cdv A outer s H E hot pn).A) :
    CtxS w ⟨scope, N, hot, true⟩ k ex (fun cls d _ H => E cls d H) (cxM (L2.CX w.P w.wd) w.P w.wd w.K w.mg w.base N qual scope f cdv A outer s H E hot pn) :=
  ⟨⟨rfl, rfl, rfl, rfl, rfl, rfl, rfl, S.nd, S.kind, fun z => ⟨by show (!hot) = true; rw [show hot = false from z]; rfl, hh z⟩, fun _ _ => rfl, hA, takes_of rfl rfl rfl rfl, hex⟩, passes_of rfl, rfl, rfl⟩
/-- THE RULE for a def -/
theorem fn_body {w : Wd} {hot : Bool} {k : Nat} {N ps : List Str} {x qual : Str} {params : Arguments} {body : List Stmt} {scope : Scope} {dvs : List V} {kws : List (Str × V)} {f : Addr} {fd : FuncData} {m : MS} (Fd : FunD w.K x qual params body scope dvs kws f fd) (S : FnScope N ps scope)
    (h : ∀ ex, (hot = false → ex = []) → ∀ W, SSs w ⟨scope, N, hot, true⟩ k ex W body m) : FnM w hot (k + 1) f fd ps (mFn N m) := by
  refine ⟨fun A outer s H args us vs Q E pn ex hr hh hpin hex e0 hb r hsp => ?_⟩
  obtain ⟨hl, p, G, st, as, sv, hs, hp, hpen, good⟩ := hsp
  have hpl : ps.length ≤ N.length := by have := congrArg List.length S.pre; rw [List.length_take] at this; omega
  refine def_run (hot := hot) (pn := pn) Fd S hr (fun z => (hh z).1) hpin e0 hb r hl fun cdv hA => ?_
  obtain ⟨t, pt, qt⟩ := h ex (fun z => (hh z).2.2) (fun cls d _ H => E cls d H)
  have bd := start_bd (w := w) (ex := ex) (N := N) sv (by rw [← sv.length]; omega) hs hp hpen
  refine ⟨t, pt _ (ctxM S (fun z => (hh z).2.2) hex hA), qt _ _ _ _ G H st bd _ ?_⟩
  unfold mFn at good
  cases e : m (initE N as) st with
  | nx env1 st1 => rw [e] at good; exact fun O σ G' H' b s => good .non G' H' b.fin rfl
  | rt r st1 => rw [e] at good; exact good
  | bk env1 st1 => rw [e] at good; exact good.elim
  | ct env1 st1 => rw [e] at good; exact good.elim
  | exn c fs env1 st1 => rw [e] at good; exact fun O σ G' H' d b s x => good G' H' d b.fin x
  | bad => rw [e] at good; exact good.elim

/-! ### a call -/
/-- what a written def is, for a call: its name, its function, its promise -/
structure Own (w : Wd) (x : Str) (hot : Bool) (k : Nat) (j : Nat) (m : MF) : Prop where
  ex : ∃ (f : Addr) (fd : FuncData) (ps : List Str), ps.length = j ∧ w.mg x = some (.ref f) ∧ PySem.W.keepIn w.K (.ref f) = true ∧ Binds w.K fd ps [] ∧ FnM w hot k f fd ps m
def mCall (j : Nat) (m : MF) (ma : MSv) : ME := fun env st => (ma env st).bind fun as st => if as.length = j then m as st else .bad
section
variable {w : Wd} {cc : CC} {n : Nat} {ex : Ex} {W : WX} {xe ye ze : Expr} {es : List Expr} {pos p p' : Pos} {ts : List ExI} {F : Fr0} {env : Env} {O : Nat → Addr} {σ : L2.St} {G H G1 H1 : Hp} {st st1 : Pen}
theorem Bd.after (b : Bd w ex F env O σ G H st) (f : Fin w ⟨F.p, G, H⟩ G1 H1 st1) : Bd w ex F env O σ G1 H1 st1 where
  sub := f.sub
  np := f.np
  pen := f.pen
  gr := b.gr.trans f.gr
  len := b.len
  sl := fun i => (b.sl i).mono f.gr.g fun xs e => by
    obtain ⟨vs, h1, _⟩ := b.own e
    rw [h1]
    exact f.gr.k _ _ (b.ow i xs e).2.2 h1
  ow := fun i xs e => by
    obtain ⟨vs, h1, _⟩ := b.own e
    obtain ⟨k1, k2, k3⟩ := b.ow i xs e
    exact ⟨f.gr.fresh k1 h1, k2, k3⟩
  inj := b.inj
def tCallM (w : Wd) (ex : Ex) (W : WX) (j : Nat) (m : MF) (t : TA) : TE := fun σ H Q => t σ H fun vs H1 => spM w ex j m vs H1 Q (WE W σ)
theorem run_M {X : Cx} {hot : Bool} {k : Nat} {m : MF} {f : Addr} {fd : FuncData} {ps : List Str} {pins : List (Addr × Obj)} {s : Shared} {Q : VK} {us : List Value} {vs : List V} (hX : CtxOk w cc n ex W X) (hh : hot = false → cc.hot = false) (hk : k ≤ n) (hb : Binds w.K fd ps []) (Fm : FnM w hot k f fd ps m)
    (I : Inv X pins σ H s) (r : Vals vs us) (h : spM w ex ps.length m vs H Q (WE W σ)) : wpAny (model X.prog X.w) X.A (call (.ref f) us) (EP X pins σ Q) X.xe s := by
  have hl : us.length = ps.length := by rw [← r.length]; exact h.1
  have b := hb s us (by rw [← hX.K]; exact I.kIn) (by rw [List.append_nil]; exact hl)
  rw [List.append_nil] at b
  have e0 : Env0 w.P w.wd w.K w.mg w.base X.A X.stack s H := by
    have := I.env0
    rw [hX.P, hX.wd, hX.K, hX.mg, hX.base] at this
    exact this
  have hP : model X.prog X.w = model w.P w.wd := by rw [hX.P, hX.wd]
  have pin : PinsOk X.stack H s X.pn := fun q hq => by
    have P1 := I.pin q (List.mem_append_left _ hq)
    exact ⟨P1.1, P1.2.1, fun hm => (List.mem_cons.mp (I.stkSub q.1 hm)).elim P1.2.2.1 P1.2.2.2.1, P1.2.2.2.2⟩
  have go : ∀ pn, (hot = false → X.A.handled = none ∧ pn = [] ∧ ex = []) → PinsOk X.stack H s pn → ExOk ex pn → wpAny (model X.prog X.w) X.A (call (.ref f) us) (EP X pins σ Q) X.xe s := fun pn h1 h2 h3 => by
    refine wpAny_call ?_
    rw [hP]
    refine codeAny_mono (Fm.run X.A X.stack s H ⟨us, []⟩ us vs Q (WE W σ) pn ex (hX.room.mono hk) h1 h2 h3 e0 b r h) fun r s' hq => ?_
    cases r with
    | error e =>
      refine passAt hX.tk σ pins H s e s' I ?_
      rw [hX.P, hX.wd]; exact hq
    | ok fl =>
      cases fl with
      | ret u => exact I.after (by rw [hX.P, hX.wd]; exact hq)
      | next => exact False.elim hq
      | brk => exact False.elim hq
      | cont => exact False.elim hq
  cases hot with
  | true => exact go X.pn (fun z => nomatch z) pin hX.ex
  | false =>
    have c := hX.calm (hh rfl)
    exact go [] (fun _ => ⟨I.ok.hd c.1, rfl, c.2⟩) (fun q hq => nomatch hq) (fun q hq => by rw [c.2] at hq; cases hq)
theorem se_call {x : Str} {hot : Bool} {k j : Nat} {m : MF} {ma : MSv} (C : Own w x hot k j m) (hh : hot = false → cc.hot = false) (hk : k ≤ n) (hg : glB cc x = true) (hs : (xe :: es).all (fun e => !star? e) = true) (h : SA w cc n ex W (xe :: es) ma) :
    SE w cc n ex W (.Call (.Name x p) (xe :: es) [] pos) (mCall j m ma) := by
  obtain ⟨f, fd, ps, rfl, gm, kp, hb, Fm⟩ := C.ex
  obtain ⟨t1, p1, q1⟩ := h
  refine ⟨tCallM w ex W ps.length m t1, fun X hX => ⟨fun pins s σ H Q I h => ?_⟩, fun F env O σ G H st bd Q hgd => ?_⟩
  · have hs' : starEach (xe :: es) X.env = (false, eval xe X.env) :: starEach es X.env := starEach_cons (by simp only [List.all_cons, Bool.and_eq_true, Bool.not_eq_true'] at hs; exact hs.1)
    have hpl : (backTo pos (starEach es X.env)).any (·.1) = false := plain_args (by simp only [List.all_cons, Bool.and_eq_true] at hs; exact hs.2)
    refine wpAny_Call_Name_kw (ld_glob I (glB_gl hg hX) (by rw [hX.mg]; exact gm) ?_ (okN_d (glB_ok hg)))
    refine PySem.W.callWith_K (h₀ := X.base) I.ok.mod.kin (by rw [hX.K]; exact kp) (thn ((p1 X hX).run pos pins s σ H _ I h) fun us s1 ⟨vs, H1, I1, r, q⟩ => ⟨I1.kIn, ?_⟩) hs' hpl
    exact run_M hX hh hk hb Fm I1 r q
  · refine q1 F env O σ G H st bd _ (Good.imp (fun as st1 G1 H1 b1 g1 k1 vs r1 => ?_) hgd.bind)
    by_cases hl : as.length = ps.length
    · rw [if_pos hl] at k1
      refine ⟨by rw [r1.length]; exact hl, F.p, G1, st1, as, r1, b1.sub, b1.np, b1.pen, ?_⟩
      cases e : m as st1 with
      | ok r st2 =>
        rw [e] at k1
        exact fun v G' H' f r' => k1 G' H' (b1.after f) f.gr v r'
      | exn c fs st2 =>
        rw [e] at k1
        exact fun G' H' d f x => k1 G' H' d (b1.after f) f.gr.g x
      | bad => rw [e] at k1; exact k1.elim
    · rw [if_neg hl] at k1; exact k1.elim
end
end Mir

/-! Mir, part 14: the source of draws read and written. -/
namespace Mir
open PySem PySem.Spec PyProof.Rows L2

inductive PK where
  | at_ | digits | count | fold
def PK.nm : PK → Str
  | .at_ => "at" | .digits => "digits" | .count => "count" | .fold => "fold"
def PK.get (s : Pen) : PK → Int
  | .at_ => s.at_ | .digits => s.digits | .count => s.count | .fold => s.fold
def PK.set (s : Pen) (i : Int) : PK → Option Pen
  | .at_ => if 0 ≤ i ∧ i ≤ s.cells.length then some { s with at_ := i.toNat } else none
  | .digits => if 0 ≤ i then some { s with digits := i } else none
  | .count => some { s with count := i }
  | .fold => some { s with fold := i }
theorem pk_val {l : Addr} {s : Pen} (k : PK) : valV (penKs l s) (.inr k.nm) = some (.int (k.get s)) := by
  cases k <;> rfl
theorem pk_cells {l : Addr} {s : Pen} : valV (penKs l s) (.inr ("cells" : Str)) = some (.ref l) := rfl
theorem pk_put {l : Addr} {s s' : Pen} {i : Int} (k : PK) (h : k.set s i = some s') : putK (penKs l s) (.inr k.nm) (.int i) = penKs l s' ∧ s'.cells = s.cells ∧ (s.Ok → s'.Ok) := by
  cases k with
  | at_ =>
    replace h : (if 0 ≤ i ∧ i ≤ s.cells.length then some { s with at_ := i.toNat } else none) = some s' := h
    by_cases hi : 0 ≤ i ∧ i ≤ s.cells.length
    · rw [if_pos hi] at h
      cases h
      refine ⟨?_, rfl, fun o => ⟨by show i.toNat ≤ s.cells.length; omega, o.2.1, o.2.2⟩⟩
      have e : ((i.toNat : Nat) : Int) = i := Int.toNat_of_nonneg hi.1
      unfold penKs
      simp only [e]
      rfl
    · rw [if_neg hi] at h; cases h
  | digits =>
    replace h : (if 0 ≤ i then some { s with digits := i } else none) = some s' := h
    by_cases hi : 0 ≤ i
    · rw [if_pos hi] at h
      cases h
      exact ⟨rfl, rfl, fun o => ⟨o.1, o.2.1, hi⟩⟩
    · rw [if_neg hi] at h; cases h
  | count => cases h; exact ⟨rfl, rfl, fun o => o⟩
  | fold => cases h; exact ⟨rfl, rfl, fun o => o⟩
section
variable {w : Wd} {cc : CC} {n : Nat} {ex : Ex} {W : WX} {xe ye ze : Expr} {es : List Expr} {pos p p' p1 p2 p3 : Pos} {F : Fr0} {env : Env} {O : Nat → Addr} {σ : L2.St} {G H G1 H1 : Hp} {st st1 : Pen}
theorem Bd.pset {l : Addr} (b : Bd w ex F env O σ G H st) (hl : SqL w.K G l (st1.cells.map V.int)) (ok : st1.Ok) : Bd w ex F env O σ G (upd H F.p (.dK (penKs l st1))) st1 where
  sub := fun x u e => by
    have hx : x ≠ F.p := fun z => by rw [z, b.np] at e; cases e
    rw [upd_ne hx]; exact b.sub x u e
  np := b.np
  pen := ⟨l, upd_same, hl, ok⟩
  gr := ⟨b.gr.g, b.gr.n, fun x u ne e => by rw [upd_ne ne]; exact b.gr.k x u ne e, fun x ne => by
    by_cases hx : x = F.p
    · subst hx; rw [upd_same]; simp
    · rw [upd_ne hx]; exact b.gr.d x ne⟩
  len := b.len
  sl := fun i => (b.sl i).mono (Sub.refl G) fun xs e => upd_ne (b.ow i xs e).2.2
  ow := b.ow
  inj := b.inj
theorem pen_at {i : Nat} (b : Bd w ex F env O σ G H st) (e : env.getD i none = some .pen) : σ[i]? = some (some (.ref F.p)) := by
  have h := b.sl i
  rw [e] at h
  exact getD_some h
theorem nosl_c {c : Const} {j : Nat} : NoSl (.Constant c j p) := fun _ _ => rfl
def mPenI (i : Nat) (k : PK) : ME := fun env st => match env.getD i none with
  | some .pen => .ok (.int (k.get st)) st
  | _ => .bad
theorem RoomH.one {k : Nat} {A : Around} (r : RoomH k A) : A.units + 1 < cLine := by have := r.un; omega
theorem dget_pen {i : Nat} {k : PK} (b : Bd w ex F env O σ G H st) (e : env.getD i none = some .pen) {Q : VK} (q : Q (.int (k.get st)) H) : tDGet (tVar i) (tC (.str k.nm)) σ H Q := by
  obtain ⟨l, h1, _⟩ := b.pen
  exact ⟨_, pen_at b e, F.p, _, rfl, pk_val (l := l) (s := st) k ▸ DGet.k (k := .inr k.nm) h1, q⟩
theorem pe_dgetM {i : Nat} {s z : Str} {j : Nat} (h : varOk cc i s = true) : ∀ X, CtxOk w cc n ex W X → PE X (.Subscript (.Name s p) (.Constant (.str z) j p1) pos) (tDGet (tVar i) (tC (.str z))) := fun X hX =>
  pe_dget hX.room.one (pe_varM h X hX) pe_str nosl_c
theorem se_penI {i : Nat} {s : Str} {j : Nat} (k : PK) (h : varOk cc i s = true) : SE w cc n ex W (.Subscript (.Name s p) (.Constant (.str k.nm) j p1) pos) (mPenI i k) := by
  refine ⟨_, pe_dgetM h, fun F env O σ G H st bd Q hg => ?_⟩
  unfold mPenI at hg
  cases e : env.getD i none with
  | none => rw [e] at hg; exact hg.elim
  | some sv =>
    rw [e] at hg
    cases sv with
    | pen => exact dget_pen bd e (hg.here bd _ rfl)
    | _ => exact hg.elim
/-- len(pen['cells']) -/
def mPenLen (i : Nat) : ME := fun env st => match env.getD i none with
  | some .pen => .ok (.int st.cells.length) st
  | _ => .bad
theorem se_penLen {i : Nat} {s : Str} {j : Nat} (h : varOk cc i s = true) (hg : glB cc "len" = true) (hm : w.mg "len" = none) : SE w cc n ex W (.Call (.Name "len" p2) [.Subscript (.Name s p) (.Constant (.str "cells") j p1) pos] [] p3) (mPenLen i) := by
  refine ⟨tCB (rLenM w.K) (tCons (tDGet (tVar i) (tC (.str "cells"))) tNil), fun X hX => pe_callB (call_lenM X hX) (glB_gl hg hX) (by rw [hX.mg]; exact hm) boot_len (pa_cons (pe_dgetM h X hX) pa_nil) (okN_n (glB_ok hg)) (okN_d (glB_ok hg)), fun F env O σ G H st bd Q hgd => ?_⟩
  unfold mPenLen at hgd
  cases e : env.getD i none with
  | none => rw [e] at hgd; exact hgd.elim
  | some sv =>
    rw [e] at hgd
    cases sv with
    | pen =>
      obtain ⟨l, h1, h2, h3⟩ := bd.pen
      refine ⟨_, pen_at bd e, F.p, _, rfl, pk_cells (l := l) (s := st) ▸ DGet.k (k := .inr ("cells" : Str)) h1, l, _, rfl, .inl (bd.sub.sqL h2), ?_⟩
      rw [List.length_map]
      exact hgd.here bd _ rfl
    | _ => exact hgd.elim
/-- pen['cells'][pen['at']] -/
def mPenCell (i : Nat) (k : PK) : ME := fun env st => match env.getD i none with
  | some .pen => (match atI (st.cells.map PV.int) (k.get st) with
    | some x => .ok x st
    | none => .bad)
  | _ => .bad
theorem se_penCell {i : Nat} {s : Str} {j j' : Nat} {p4 p5 : Pos} (k : PK) (h : varOk cc i s = true) : SE w cc n ex W (.Subscript (.Subscript (.Name s p) (.Constant (.str "cells") j p1) pos) (.Subscript (.Name s p2) (.Constant (.str k.nm) j' p3) p4) p5) (mPenCell i k) := by
  refine ⟨tOp (rIx w.K) (tDGet (tVar i) (tC (.str "cells"))) (tDGet (tVar i) (tC (.str k.nm))), fun X hX => ?_, fun F env O σ G H st bd Q hgd => ?_⟩
  · have h := pe_ix (X := X) (pos := p5) ix_seq (pe_dgetM (p := p) (p1 := p1) (pos := pos) (j := j) (z := "cells") h X hX) (pe_dgetM (p := p2) (p1 := p3) (pos := p4) (j := j') (z := k.nm) h X hX) (plainIx rfl)
    rw [hX.K] at h
    exact h
  · unfold mPenCell at hgd
    cases e : env.getD i none with
    | none => rw [e] at hgd; exact hgd.elim
    | some sv =>
      rw [e] at hgd
      cases sv with
      | pen =>
        obtain ⟨l, h1, h2, h3⟩ := bd.pen
        refine ⟨_, pen_at bd e, F.p, _, rfl, pk_cells (l := l) (s := st) ▸ DGet.k (k := .inr ("cells" : Str)) h1, dget_pen bd e ?_⟩
        dsimp only at hgd
        cases e1 : atI (st.cells.map PV.int) (k.get st) with
        | none => rw [e1] at hgd; exact hgd.elim
        | some x =>
          rw [e1] at hgd
          obtain ⟨v, q1, q2⟩ := RepL.atI (w := w) (G := G) (RepL.ints (ns := st.cells)) e1
          exact .inl ⟨l, _, _, v, rfl, rfl, bd.sub.sqL h2, q1, hgd.here bd v q2⟩
      | _ => exact hgd.elim
/-- pen['k'] = e -/
def mPenSet (i : Nat) (k : PK) (m : ME) : MS := fun env st => toS (m env st) env fun a st => match a, env.getD i none with
  | .int z, some .pen => (match k.set st z with
    | some st' => .nx env st'
    | none => .bad)
  | _, _ => .bad
theorem ss_penSet {m : ME} {i : Nat} {s : Str} {j : Nat} (k : PK) (h : varOk cc i s = true) (hc : comp? xe = false) (he : SE w cc n ex W xe m) : SS w cc n ex W (.Assign [.Subscript (.Name s p) (.Constant (.str k.nm) j p1) p2] xe pos) (mPenSet i k m) := by
  obtain ⟨t1, p1, q1⟩ := he
  refine ⟨sDPut (tVar i) (tC (.str k.nm)) t1, fun X hX => ps_dput hX.c.room.one (pe_varM h X hX.c) pe_str (p1 X hX.c) (noSwap hc), fun F env O σ G H st bd D hgd => ?_⟩
  refine q1 F env O σ G H st bd _ (Good.imp (fun a st1 G1 H1 b1 g1 k1 v r1 => ?_) hgd.good)
  cases e : env.getD i none with
  | none => rw [e] at k1; cases a <;> exact k1.elim
  | some sv =>
    rw [e] at k1
    cases a with
    | int z =>
      cases sv with
      | pen =>
        cases r1
        dsimp only at k1
        cases e2 : k.set st1 z with
        | none => rw [e2] at k1; exact k1.elim
        | some st2 =>
          rw [e2] at k1
          obtain ⟨l, h1, h2, h3⟩ := b1.pen
          obtain ⟨u1, u2, u3⟩ := pk_put (l := l) k e2
          refine ⟨_, pen_at b1 e, F.p, _, rfl, DPut.k (k := .inr k.nm) h1 (by show 5 < sizeLine; rw [sizeLine_eq]; omega), ?_⟩
          rw [u1]
          exact k1 O σ G1 _ (b1.pset (by rw [u2]; exact h2) (u3 h3)) (Sub.refl _)
      | _ => exact k1.elim
    | _ => cases sv <;> exact k1.elim
end
end Mir

/-! Mir, part 15: the source of draws is made; a law's entry. -/
namespace Mir
open PySem PySem.Spec PyProof.Rows L2

def penFold : List Int → Int → Int
  | [], f => f
  | c :: r, f => penFold r ((f * 47 + c).fmod 1000000007)
def pen0 (ns : List Int) : Pen := ⟨ns, 0, 0, 0, penFold ns 0⟩
def spPen (K : PySem.W.Frag) : Sp := fun vs H Q _ => ∃ (a : Addr) (ns : List Int), vs = [.ref a] ∧ SqL K H a (ns.map V.int) ∧
  ∀ (p l : Addr) (H' : Hp), H p = none → H l = none → p ≠ l → H' p = some (.dK (penKs l (pen0 ns))) → H' l = some (.lst (ns.map V.int)) → (∀ b, b ≠ p → b ≠ l → H' b = H b) → Q (.ref p) H'
def tPen (K : PySem.W.Frag) : TS :=
  tSeq (tAsg (tC (.int 0)) (gName 1)) (tSeq (tFor (iSeq K (tVar 0)) (gName 2)
    (tSeq (tAsg (tOp (rI (fun _ j => j ≠ 0) fun i j => .int (i.fmod j)) (tCB rIntM (tCons (tOp (rI0 fun i j => .int (i + j)) (tOp (rI CMulM fun i j => .int (i * j)) (tVar 1) (tC (.int 47))) (tVar 2)) tNil)) (tC (.int 1000000007))) (gName 1)) tNext))
    (tSeq (tRet (tDisp [(tC (.str "cells"), tCB (fun xs H Q => ∃ p ys, xs = [.ref p] ∧ (SqL K H p ys ∨ SqT K H p ys) ∧ ∀ l, H l = none → Q (.ref l) (upd H l (.lst ys))) (tCons (tVar 0) tNil)), (tC (.str "at"), tC (.int 0)), (tC (.str "digits"), tC (.int 0)), (tC (.str "count"), tC (.int 0)), (tC (.str "fold"), tVar 1)])) tNext))
theorem pure_pen {K : PySem.W.Frag} (vs : List V) (H : Hp) (Q : VK) (E : XK) (h : spPen K vs H Q E) : tPen K { nx := fun _ H' => Q .non H', rt := Q } (L2.start ["script", "fold", "cell"] vs) H := by
  obtain ⟨a, ns, rfl, hS, k⟩ := h
  refine ⟨.ref a, rfl, a, rfl, .inl ⟨⟨_, hS⟩, ?_⟩⟩
  refine ⟨fun i m σ H' => m = ns.length - i ∧ i ≤ ns.length ∧ H' = H ∧ ∃ f c, σ = [some (.ref a), some (.int f), c] ∧ 0 ≤ f ∧ f < 1000000007 ∧ penFold ns 0 = penFold (ns.drop i) f, ⟨ns.length, rfl, Nat.zero_le _, rfl, 0, none, rfl, by omega, by omega, rfl⟩, ?_⟩
  rintro i m σ H' ⟨rfl, hi, rfl, f, c, rfl, f0, f1, hf⟩
  by_cases hl : i = ns.length
  · refine .inl ⟨⟨_, hS, by rw [List.length_map]; omega⟩, ?_⟩
    subst hl
    rw [List.drop_length] at hf
    refine fun p hp => ?_
    refine ⟨.ref a, rfl, a, _, rfl, .inl ((Sub.new hp).sqL hS), fun l hlN => ?_⟩
    have hpl : p ≠ l := fun z => by rw [z, upd_same] at hlN; cases hlN
    have hl0 : H' l = none := by rw [upd_ne hpl.symm] at hlN; exact hlN
    refine ⟨.int f, rfl, by rw [upd_ne hpl, upd_same], [(.inr "cells", .ref l), (.inr "at", .int 0), (.inr "digits", .int 0), (.inr "count", .int 0), (.inr "fold", .int f)], rfl, by simp, ?_⟩
    have e : mergeK [] [((.inr "cells" : Key), V.ref l), (.inr "at", .int 0), (.inr "digits", .int 0), (.inr "count", .int 0), (.inr "fold", .int f)] = penKs l (pen0 ns) := by
      unfold pen0 penKs
      rw [hf]
      rfl
    rw [e]
    exact k p l _ hp hl0 hpl upd_same (by rw [upd_ne hpl.symm, upd_same]) fun b h1 h2 => by rw [upd_ne h1, upd_ne h2, upd_ne h1]
  · have hlt : i < ns.length := by omega
    have hd : ns.drop i = ns[i] :: ns.drop (i + 1) := List.drop_eq_getElem_cons hlt
    have hx : (ns.map V.int)[i]? = some (.int ns[i]) := by rw [List.getElem?_map, List.getElem?_eq_getElem hlt]; rfl
    refine .inr ⟨⟨_, _, hS, hx⟩, fun σ2 H2 => H2 = H' ∧ ∃ f c, σ2 = [some (.ref a), some (.int f), c] ∧ 0 ≤ f ∧ f < 1000000007 ∧ penFold ns 0 = penFold (ns.drop (i + 1)) f, fun σ2 H2 h2 => ⟨ns.length - (i + 1), by omega, rfl, by omega, h2.1, h2.2⟩, fun x H2 y => ?_⟩
    obtain ⟨rfl, y2⟩ := y
    have := y2 _ hS
    rw [hx] at this
    cases this
    refine ⟨.int f, rfl, f, 47, rfl, rfl, ?_, .int ns[i], rfl, _, _, rfl, rfl, .inl ⟨_, rfl, _, _, rfl, rfl, (by decide : (1000000007 : Int) ≠ 0), rfl, _, _, rfl, Int.fmod_nonneg_of_pos _ (by decide), Int.fmod_lt_of_pos _ (by decide), by rw [hf, hd]; rfl⟩⟩
    have b1 : f.natAbs < 2 ^ 30 := by omega
    have b2 : f.natAbs.log2 < 30 := by
      by_cases z : f.natAbs = 0
      · rw [z]; decide
      · exact (Nat.log2_lt z).mpr b1
    have b3 : (47 : Int).natAbs.log2 = 5 := by decide
    show f.natAbs.log2 + (47 : Int).natAbs.log2 < 100000000
    omega
theorem walk_pen {X : Cx} {p1 p2 p3 p4 p5 p6 p7 p8 p9 p10 p11 p12 p13 p14 p15 p16 p17 p18 p19 p20 p21 p22 p23 p24 p25 p26 p27 p28 p29 p30 p31 : Pos} {k1 k2 k3 k4 k5 k6 k7 k8 k9 k10 k11 : Nat}
    (hN : X.N = [("script" : Str), "fold", "cell"]) (hsc : ∀ x ∈ X.N, X.env.scope.names.lookup x = some .local) (hg1 : X.env.scope.names.lookup ("int" : Str) = some .globalImplicit) (hg2 : X.env.scope.names.lookup ("list" : Str) = some .globalImplicit) (m1 : X.mg "int" = none) (m2 : X.mg "list" = none)
    (hp : PassesOwn (model X.prog X.w) X.A X.env X.xe) (hc : X.calm = true) :
    PSs X [.Assign [.Name "fold" p1] (.Constant (.int 0) k1 p2) p3,
      .For (.Name "cell" p4) (.Name "script" p5) [.Assign [.Name "fold" p6] (.BinOp (.Call (.Name "int" p7) [.BinOp (.BinOp (.Name "fold" p8) .Mult (.Constant (.int 47) k2 p9) p10) .Add (.Name "cell" p11) p12] [] p13) .Mod (.Constant (.int 1000000007) k3 p14) p15) p16] [] p17,
      .Return (some (.Dict [some (.Constant (.str "cells") k4 p18), some (.Constant (.str "at") k5 p19), some (.Constant (.str "digits") k6 p20), some (.Constant (.str "count") k7 p21), some (.Constant (.str "fold") k8 p22)]
        [.Call (.Name "list" p23) [.Name "script" p24] [] p25, .Constant (.int 0) k9 p26, .Constant (.int 0) k10 p27, .Constant (.int 0) k11 p28, .Name "fold" p29] p30)) p31] (tPen X.K) := by
  have nd : X.N.Nodup := by rw [hN]; decide
  have e0 : X.N[0]? = some ("script" : Str) := by rw [hN]; rfl
  have e1 : X.N[1]? = some ("fold" : Str) := by rw [hN]; rfl
  have e2 : X.N[2]? = some ("cell" : Str) := by rw [hN]; rfl
  have l0 := hsc _ (List.mem_of_getElem? e0)
  have l1 := hsc _ (List.mem_of_getElem? e1)
  have l2 := hsc _ (List.mem_of_getElem? e2)
  have v0 : ∀ p, PE X (.Name "script" p) (tVar 0) := fun p => pe_var e0 (.inl l0)
  have v1 : ∀ p, PE X (.Name "fold" p) (tVar 1) := fun p => pe_var e1 (.inl l1)
  have v2 : ∀ p, PE X (.Name "cell" p) (tVar 2) := fun p => pe_var e2 (.inl l2)
  refine pss_cons (ps_set nd e1 (.inl l1) pe_int (noSwap rfl) (.inr l1)) (pss_cons (ps_for hp hc (pi_seq (v0 _)) (pg_name nd e2 (.inl l2) (.inr l2)) (pss_cons (ps_set nd e1 (.inl l1) ?_ (noSwap rfl) (.inr l1)) pss_nil) (fold_ok rfl)) (pss_cons (ps_ret (pe_disp ?_ rfl rfl (by simp) (by simp))) pss_nil))
  · exact pe_op op_modN (pe_callTy call_int1 hg1 m1 PySem.Pv.boot_int (pa_cons (pe_op op_add (pe_op (opI fun _ _ _ _ _ _ _ hc q => mul_int q hc.ok) (v1 _) pe_int) (v2 _)) pa_nil)) pe_int
  · exact pps_cons pe_str (pe_callTy call_list_of hg2 m2 PySem.Pv.boot_list (pa_cons (v0 _) pa_nil)) (pps_cons pe_str pe_int (pps_cons pe_str pe_int (pps_cons pe_str pe_int (pps_cons pe_str (v1 _) pps_nil))))
end Mir

/-! Mir, part 16: a law's entry. -/
namespace Mir
open PySem PySem.Spec PyProof.Rows L2

def penE (N : List Str) : Env := none :: some .pen :: List.replicate (N.length - 2) none
theorem fn_pen {w : Wd} {x qual : Str} {params : Arguments} {body : List Stmt} {scope : Scope} {kws : List (Str × V)} {f : Addr} {fd : FuncData} (Fd : FunD w.K x qual params body scope [] kws f fd) (S : FnScope [("script" : Str), "fold", "cell"] [("script" : Str)] scope)
    (h : ∀ X : Cx, X.N = [("script" : Str), "fold", "cell"] → X.env.scope = scope → X.mg = w.mg → X.K = w.K → PassesOwn (model X.prog X.w) X.A X.env X.xe → X.calm = true → PSs X body (tPen w.K)) :
    FnOk w.P w.wd w.K w.mg w.base (L2.CX w.P w.wd) 1 f fd [("script" : Str)] (spPen w.K) := by
  refine Fd.ok S (fun vs H Q E h => ?_) fun cdv A outer s H vs Q E hr hs => ⟨tPen w.K, h _ rfl rfl rfl rfl (passes_of rfl) rfl, pure_pen vs H Q E hs⟩
  obtain ⟨a, ns, rfl, _⟩ := h
  rfl
theorem law_run {w : Wd} {k : Nat} {N' : List Str} {x qual : Str} {params : Arguments} {rest : List Stmt} {scope : Scope} {dvs : List V} {kws : List (Str × V)} {f fP : Addr} {fd fdP : FuncData} {m : MS} {p1 p2 p3 p4 p5 : Pos} {ns : List Int} {st' : Pen}
    (Fd : FunD w.K x qual params (.Assign [.Name "pen" p1] (.Call (.Name "_law_pen" p2) [.Name "script" p3] [] p4) p5 :: rest) scope dvs kws f fd) (S : FnScope ((("script" : Str) :: "pen" :: N')) [("script" : Str)] scope)
    (FP : FnOk w.P w.wd w.K w.mg w.base (L2.CX w.P w.wd) 1 fP fdP [("script" : Str)] (spPen w.K)) (gP : w.mg "_law_pen" = some (.ref fP)) (kP : PySem.W.keepIn w.K (.ref fP) = true) (bP : L2.Binds w.K fdP [("script" : Str)] [])
    (hk : 1 ≤ k) (hsc : (visB scope "script" && locB ⟨scope, (("script" : Str) :: "pen" :: N'), false, true⟩ "pen" && glB ⟨scope, (("script" : Str) :: "pen" :: N'), false, true⟩ "_law_pen") = true)
    (hrest : ∀ W, SSs w ⟨scope, (("script" : Str) :: "pen" :: N'), false, true⟩ k [] W rest m) (hm : m (penE (("script" : Str) :: "pen" :: N')) (pen0 ns) = .rt (.bl true) st') (hn : ns.length ≤ 1000)
    {A : Around} {outer : List PySem.Env} {s : Shared} {H : Hp} {a : Addr} {E : XK} (hr : RoomH (k + 1) A) (hh : A.handled = none) (e0 : Env0 w.P w.wd w.K w.mg w.base A outer s H) (hb : BindsTo s fd ⟨[.ref a], []⟩ [(("script" : Str), .ref a)]) (hS : SqL w.K H a (ns.map V.int)) :
    codeAny (model w.P w.wd) A (.call (.ref f) ⟨[.ref a], []⟩) (CR (L2.CX w.P w.wd) outer w.P w.wd H s (fun v _ => v = .bl true) E) s := by
  simp only [Bool.and_eq_true] at hsc
  obtain ⟨⟨sc1, sc2⟩, sc3⟩ := hsc
  refine def_run (hot := false) (pn := []) (us := [.ref a]) (vs := [.ref a]) Fd S hr (fun _ => hh) (fun q hq => nomatch hq) e0 hb (.cons rfl .nil) rfl fun cdv hA => ?_
  have C := ctxM (w := w) (ex := []) S (fun _ => rfl) (fun q hq => nomatch hq) hA
  obtain ⟨t, pt, qt⟩ := hrest (fun cls d _ H => E cls d H)
  refine ⟨tSeq (tAsg (tCall (spPen w.K) [] (fun _ _ _ => False) (tCons (tVar 0) tNil)) (gName 1)) t, pss_cons ?_ (pt _ C), ?_⟩
  · obtain ⟨k1, k2⟩ := locB.sto C.c sc2
    have hr0 : Room 1 (cxM (L2.CX w.P w.wd) w.P w.wd w.K w.mg w.base (("script" : Str) :: "pen" :: N') qual scope f cdv A outer s H E false []).A := ⟨hh, (hA.mono hk).dp, (hA.mono hk).un⟩
    refine ps_set C.c.nd rfl k1 (pe_call (CX := L2.CX w.P w.wd) FP hr0 (glB_gl sc3 C.c) gP kP bP .nil ?_ (pa_cons (pe_var rfl (vis_of sc1)) pa_nil)) (noSwap rfl) k2
    rintro pins σ H s u s' I ⟨a, B, H', cls, d, _, _, _, _, _, _, _, z⟩
    exact z.elim
  · refine ⟨.ref a, rfl, a, ns, rfl, hS, fun p l H' hp hl ne h1 h2 h3 => ?_⟩
    have bd : Bd w [] ⟨p, upd H l (.lst (ns.map V.int)), H'⟩ (penE (("script" : Str) :: "pen" :: N')) (fun _ => 0) ((L2.start (("script" : Str) :: "pen" :: N') [.ref a]).set 1 (some (.ref p))) (upd H l (.lst (ns.map V.int))) H' (pen0 ns) := by
      refine ⟨fun b o e => ?_, ?_, ⟨l, h1, .of upd_same, Nat.zero_le _, hn, Int.le_refl 0⟩, Grow.refl _ _ _, ?_, fun i => ?_, fun i xs e => ?_, fun i j xs ys e => ?_⟩
      · by_cases hb : b = l
        · rw [hb, upd_same] at e; rw [hb, h2]; exact e
        · rw [upd_ne hb] at e
          rw [h3 b (fun z => by rw [z, hp] at e; cases e) hb]; exact e
      · rw [upd_ne ne]; exact hp
      · unfold penE L2.start
        simp
      · match i with
        | 0 => trivial
        | 1 => rfl
        | i + 2 =>
          have e : (penE (("script" : Str) :: "pen" :: N')).getD (i + 2) none = none := by
            unfold penE
            rw [List.getD_eq_getElem?_getD, List.getElem?_cons_succ, List.getElem?_cons_succ, List.getElem?_replicate]
            split <;> rfl
          rw [e]; trivial
      all_goals
        have key : ∀ i xs, (penE (("script" : Str) :: "pen" :: N')).getD i none ≠ some (.ol xs) := fun i xs q => by
          match i with
          | 0 => cases q
          | 1 => cases q
          | i + 2 =>
            unfold penE at q
            rw [List.getD_eq_getElem?_getD, List.getElem?_cons_succ, List.getElem?_cons_succ, List.getElem?_replicate] at q
            split at q <;> cases q
        exact absurd e (key i xs)
    refine qt _ _ _ _ _ H' _ bd _ ?_
    rw [hm]
    exact fun v G' H2 f r => r

/-! ### the end of a law row -/
/-- what a law gives: how its function runs from the caller -/
def LawM (l : PySem.W.OpenLaw) (w : World) (K : PySem.W.Frag) (n : Nat) (mg : Str → Option Value) (fa : Addr) (h : Heap) : Prop :=
  ∃ (cs : List (Addr × Addr)), (∀ p ∈ cs, h.get? p.2 = some { cls := .none, data := .fields #[] }) ∧ (∀ p ∈ cs, K.lookup p.2 = none) ∧ (∀ p ∈ cs, PySem.W.CodeHd h p.1 p.2) ∧
    ∀ (base : Heap) (H : Hp) (s : Shared) (a : Addr) (ns : List Int), K.In base → base.Ns mainGlobals mg → (∀ p ∈ cs, LamX.TabB base mg p.1 p.2) → (∀ p ∈ cs, H p.2 = some (.tbl #[])) → ns.length ≤ n → (∀ z ∈ ns, Builtin.Int.intBits z ≤ 1048576) → SqL K H a (ns.map V.int) →
      Env0 l.prog w K mg base callerA [] s H → codeAny (model l.prog w) callerA (.call (.ref fa) ⟨[.ref a], []⟩) (CR (L2.CX l.prog w) [] l.prog w H s (fun v _ => v = .bl true) (fun _ _ _ => False)) s

section
variable {P : Program} {w : World} {K : PySem.W.Frag} {mg mb : Str → Option Value} {fa a : Addr} {cs : List (Addr × Addr)} {s₁ : Shared} {vs : List Value} {ns : List Int}
theorem law_end (KX : K.In s₁.heap) (hns : s₁.heap.Ns mainGlobals mg) (hb : s₁.heap.Ns builtinsNs mb) (hbb : ∀ x : Str, x ≠ "__name__" → mb x = bootBuiltins x) (hlim : s₁.heap.NoLimit) (hg : s₁.gens = #[])
    (hT : ∀ p ∈ cs, s₁.heap.get? p.2 = some { cls := .none, data := .fields #[] }) (nT : ∀ p ∈ cs, K.lookup p.2 = none) (C : ∀ p ∈ cs, PySem.W.CodeHd s₁.heap p.1 p.2)
    (hbm : ∃ (bm : Addr) (ob : Obj), mg "__builtins__" = some (.ref bm) ∧ bm ≠ builtinsNs ∧ s₁.heap.get? bm = some ob ∧ ob.cls = .type "module" ∧ ob.dict = some builtinsNs ∧ ob.data = .plain)
    (ha : s₁.heap.get? a = some { cls := .type "list", data := .seq vs.toArray }) (hi : IntsAre vs ns) (hl : ns.length ≤ sizeLine)
    (go : ∀ (base : Heap) (H : Hp), K.In base → base.Ns mainGlobals mg → (∀ p ∈ cs, LamX.TabB base mg p.1 p.2) → (∀ p ∈ cs, H p.2 = some (.tbl #[])) → SqL K H a (ns.map V.int) → Env0 P w K mg base callerA [] s₁ H →
      codeAny (model P w) callerA (.call (.ref fa) ⟨[.ref a], []⟩) (CR (L2.CX P w) [] P w H s₁ (fun v _ => v = .bl true) (fun _ _ _ => False)) s₁) :
    codeAny (model P w) callerA (.call (.ref fa) ⟨[.ref a], []⟩) (fun r s' => r = .ok (.ret (.bool true)) ∧ OldK s₁.heap s'.heap ∧ s'.os = s₁.os ∧ AllBare s'.gens) s₁ := by
  have rv := vals_ints hi
  have lenV := hi.length
  -- the tables: empty records, the script is none of them
  have tabE : ∀ b, b ∈ cs.map (·.2) → s₁.heap.get? b = some { cls := .none, data := .fields #[] } := fun b h => by
    obtain ⟨p, hp, rfl⟩ := List.mem_map.mp h
    exact hT p hp
  have tabK : ∀ b, b ∈ cs.map (·.2) → K.lookup b = none := fun b h => by
    obtain ⟨p, hp, rfl⟩ := List.mem_map.mp h
    exact nT p hp
  have aT : a ∉ cs.map (·.2) := fun h => by
    have q := tabE a h
    rw [ha] at q
    have z : Data.seq vs.toArray _ = Data.fields #[] := congrArg Obj.data (Option.some.inj q)
    cases z
  -- what is tracked: the tables, and the script if K does not tell it
  let so : Obj := { cls := .type "list", data := .seq vs.toArray }
  let H : Hp := fun b => if b ∈ cs.map (·.2) then some (.tbl #[]) else if b = a ∧ K.lookup a = none then some (.frz so (.lst (ns.map V.int))) else none
  have hTab : ∀ b, b ∈ cs.map (·.2) → H b = some (.tbl #[]) := fun b h => if_pos h
  have hOut : ∀ b, b ∉ cs.map (·.2) → ¬ (b = a ∧ K.lookup a = none) → H b = none := fun b h h2 => (if_neg h).trans (if_neg h2)
  have hScr : K.lookup a = none → H a = some (.frz so (.lst (ns.map V.int))) := fun h => (if_neg aT).trans (if_pos ⟨rfl, h⟩)
  have hIn : ∀ b, (b ∈ cs.map (·.2)) ∨ ((b = a ∧ K.lookup a = none) ∧ b ∉ cs.map (·.2)) ∨ H b = none := fun b => by
    by_cases h1 : b ∈ cs.map (·.2)
    · exact .inl h1
    · by_cases h2 : b = a ∧ K.lookup a = none
      · exact .inr (.inl ⟨h2, h1⟩)
      · exact .inr (.inr (hOut b h1 h2))
  have free : ∀ {b : Addr} {o : Obj}, s₁.heap.get? b = some o → (∀ vs n, o.data ≠ .seq vs n) → o.data ≠ .fields #[] → H b = none := fun {b o} e h1 h2 => by
    rcases hIn b with h | ⟨⟨rfl, _⟩, _⟩ | h
    · rw [tabE b h] at e; cases e; exact absurd rfl h2
    · rw [ha] at e; cases e; exact absurd rfl (h1 _ _)
    · exact h
  have freeD : ∀ {b : Addr} {o : Obj} {es : Array DictEntry} {ep : Nat}, s₁.heap.get? b = some o → o.data = .dict es ep → H b = none := fun {b o es ep} e d =>
    free e (fun vs n z => by rw [d] at z; cases z) (fun z => by rw [d] at z; cases z)
  have keepD : ∀ {b : Addr} {m : Str → Option Value}, s₁.heap.Ns b m → (hidT s₁.heap H).Ns b m := fun {b m} ⟨o, es, ep, e, d, r⟩ => ⟨o, es, ep, hidT_get e (freeD e d), d, r⟩
  have KB : K.In (hidT s₁.heap H) := fun b o e => hidT_get (KX b o e) (by
    rcases hIn b with h | ⟨⟨rfl, h⟩, _⟩ | h
    · rw [tabK b h] at e; cases e
    · rw [h] at e; cases e
    · exact h)
  have M : L2.Mod K mg (hidT s₁.heap H) := ⟨KB, keepD hns, ⟨mb, keepD hb, hbb⟩, let ⟨mc, h1, h2⟩ := hlim; ⟨mc, keepD h1, h2⟩⟩
  have TB : ∀ p ∈ cs, LamX.TabB (hidT s₁.heap H) mg p.1 p.2 := fun p hp => by
    refine ⟨?_, ?_, fun z => ?_⟩
    · obtain ⟨o, us, file, tf, flags, tg, inF, text, tt, e1, r1, r2, r3, rs⟩ := C p hp
      refine ⟨o, us, file, tf, flags, tg, inF, text, tt, hidT_get e1 (free e1 (fun vs n z => ?_) fun z => ?_), r1, r2, r3, rs⟩
      · rw [r2] at z; cases z
      · rw [r2] at z; cases z; simp at r3
    · obtain ⟨bm, ob, b1, b2, b3, b4, b5, b6⟩ := hbm
      refine ⟨bm, ob, b1, b2, fun q => ?_, fun q => ?_, hidT_get b3 (free b3 (fun vs n z => ?_) fun z => ?_), b4, b5, b6⟩
      · obtain ⟨o, es, ep, e, hd, _⟩ := hns
        rw [q, e] at b3; cases b3
        rw [hd] at b6; cases b6
      · rw [q, hT p hp] at b3; cases b3; cases b6
      · rw [b6] at z; cases z
      · rw [b6] at z; cases z
    · obtain ⟨o, es, ep, e, hd, _⟩ := hns
      rw [z, hT p hp] at e; cases e; cases hd
  have hok : HOk P w H s₁.heap := fun b u z => by
    rcases hIn b with h | ⟨⟨rfl, h⟩, _⟩ | h
    · rw [hTab b h] at z; cases z; exact tabE b h
    · rw [hScr h] at z; cases z
      exact ⟨ha, by rw [List.length_map]; exact hl, vs, _, rv, ha⟩
    · rw [h] at z; cases z
  have hS : SqL K H a (ns.map V.int) := by
    cases hk : K.lookup a with
    | none => exact .inl (.inr ⟨so, hScr hk⟩)
    | some o =>
      have e := KX a o hk
      rw [ha] at e; cases e
      exact .inr ⟨_, vs.toArray, _, hk, rfl, rfl, rfl, by rw [List.size_toArray, lenV]; exact hl, by simpa using rv⟩
  have e0 : Env0 P w K mg (hidT s₁.heap H) callerA [] s₁ H := ⟨rfl, M, fun b o e => of_hidT e, Nat.le_of_eq (hidT_size _ _), trivial, fun b hb => absurd (show b ∈ ([] : List Addr) from hb) (by simp), hok, .of_eq hg⟩
  refine codeAny_mono (go _ H KB (keepD hns) TB (fun p hp => hTab _ (List.mem_map.mpr ⟨p, hp, rfl⟩)) hS e0) fun r s' h => ?_
  cases r with
  | error e =>
    obtain ⟨_, _, _, _, _, _, _, _, _, _, _, _, z⟩ := h
    exact z.elim
  | ok fl =>
    cases fl with
    | next => exact False.elim h
    | brk => exact False.elim h
    | cont => exact False.elim h
    | ret u =>
      obtain ⟨v, H', os, bare, un, hok', r', q⟩ := h
      obtain rfl : v = V.bl true := q
      obtain rfl : u = Value.bool true := r'
      have old : ∀ b o, b ∉ cs.map (·.2) → s₁.heap.get? b = some o → s'.heap.get? b = some o := fun b o nb e => by
        rcases hIn b with h | ⟨⟨rfl, h⟩, _⟩ | h
        · exact absurd h nb
        · obtain ⟨e2, _⟩ := hok' b _ (un.frzs b so _ (hScr h))
          rw [ha] at e; cases e
          exact e2
        · exact un.keep b o e h (by intro z; exact absurd (show b ∈ ([] : List Addr) from z) (by simp)) (by simp)
      have grown : ∀ b, b ∈ cs.map (·.2) → ∃ more : Array Value, s'.heap.get? b = some { cls := .none, data := .fields more } := fun b h => by
        obtain ⟨more, z⟩ := un.tbls b #[] (hTab b h)
        exact ⟨_, hok' b _ z⟩
      refine ⟨rfl, ⟨fun b o e => ?_, fun b o e => ?_⟩, os, bare⟩
      · by_cases hb : b ∈ cs.map (·.2)
        · obtain ⟨more, hm⟩ := grown b hb
          obtain ⟨p, hp, rfl⟩ := List.mem_map.mp hb
          rw [hT p hp] at e; cases e
          exact .inr (.inl ⟨((C p hp).tab (hT p hp)).isCodeTable, rfl, #[], more, rfl, by rw [Array.empty_append]; exact hm⟩)
        · exact .inl (old b o hb e)
      · by_cases hb : b ∈ cs.map (·.2)
        · obtain ⟨more, hm⟩ := grown b hb
          exact ⟨_, hm⟩
        · exact ⟨o, old b o hb e⟩
end
theorem walk_M {l : PySem.W.OpenLaw} {n : Nat} {q : Program} {loose : List Str} {XP : (Str → Option Value) → Heap → Prop} {YP : World → Heap → Prop} {d : DefRec}
    (hn : l.most = some n) (hn2 : n ≤ sizeLine) (hdf : d.params.defaults = [])
    (F : ∀ (w : World) (mg : Str → Option Value) (fa : Addr) (h : Heap), YP w h → h.Ns mainGlobals mg → mg d.name = some (.ref fa) → ∃ K : PySem.W.Frag, K.In h ∧ LawM l w K n mg fa h) :
    PySem.W.WalkO q loose XP YP l.row.toRowW d [] (fun f vs => PySem.call f vs) := by
  refine Att.attach_callB hn hdf fun w s₀ s₁ mg mb fa o pm cd doc a vs ns G Y ho hd hcd hmg hobj hints hlen hbits hg => ?_
  obtain ⟨K, KX, cs, hT, nT, C, go⟩ := F w mg fa _ Y G.T.g hmg
  exact law_end KX G.T.g G.T.b G.T.builtins G.T.nolimit hg hT nT C G.T.bmain hobj hints (Nat.le_trans hlen hn2) fun base H h1 h2 h3 h4 h5 h6 => go base H s₁ a ns h1 h2 h3 h4 hlen hbits h5 h6
end Mir

/-! Mir, part 17: the head's facts. -/
namespace Mir
open PySem PySem.Spec PyProof.Rows L2 He

/-! ### the Hook -/
def sysB (K : PySem.W.Frag) : Bool := match K.lookup sysModules with
  | some o => !decide (o.cls = .type "list")
  | none => false
theorem sysB_ok {K : PySem.W.Frag} (h : sysB K = true) : SysOk K := by
  unfold sysB at h
  cases q : K.lookup sysModules with
  | none => rw [q] at h; cases h
  | some o => rw [q] at h; exact ⟨o, q, by simpa using h⟩
def asM (g : Addr → Option Obj) (n : Nat) : List Addr := sysModules :: asD g n
structure SaysM (fa : List Fa) (fn : List DefD) (tf : List Defn) (ex : PySem.W.Frag → Bool) (h : Heap) (K : PySem.W.Frag) : Prop where
  d : SaysD fa fn K
  more : ex K = true
  sys : SysOk K
  hd : ∀ p ∈ tf, PySem.W.codeHdIn K (cT K p).1 (cT K p).2 = true
  out : ∀ p ∈ tf, K.lookup (cT K p).2 = none
  empty : ∀ p ∈ tf, h.get? (cT K p).2 = some { cls := .none, data := .fields #[] }
abbrev AlM : Type := AlD × Bool
def obsM (n : Nat) (fa : List Fa) (fn : List DefD) (tf : List Defn) (ex : PySem.W.Frag → Bool) (g : Addr → Option Obj) : AlM :=
  (obsD fa fn (frT g (asM g n)), ex (frT g (asM g n)) && (sysB (frT g (asM g n)) && tabsB g tf (frT g (asM g n))))
theorem saysM_of {n : Nat} {fa : List Fa} {fn : List DefD} {tf : List Defn} {ex : PySem.W.Frag → Bool} {h : Heap} (e : obsM n fa fn tf ex h.get? = (valD fn, true)) : SaysM fa fn tf ex h (frT h.get? (asM h.get? n)) := by
  have e1 : obsD fa fn (frT h.get? (asM h.get? n)) = valD fn := congrArg (fun z : AlM => z.1) e
  have e2 : (ex (frT h.get? (asM h.get? n)) && (sysB (frT h.get? (asM h.get? n)) && tabsB h.get? tf (frT h.get? (asM h.get? n)))) = true := congrArg (fun z : AlM => z.2) e
  obtain ⟨h1, h2⟩ := ba e2
  obtain ⟨h3, h4⟩ := ba h2
  have key : ∀ p ∈ tf, PySem.W.codeHdIn (frT h.get? (asM h.get? n)) (cT (frT h.get? (asM h.get? n)) p).1 (cT (frT h.get? (asM h.get? n)) p).2 = true ∧ ∃ o, h.get? (cT (frT h.get? (asM h.get? n)) p).2 = some o ∧ emptyTab o = true := fun p hp => by
    obtain ⟨h5, h6⟩ := ba (List.all_eq_true.mp h4 p hp)
    refine ⟨h5, ?_⟩
    cases q : h.get? (cT (frT h.get? (asM h.get? n)) p).2 with
    | none => rw [q] at h6; cases h6
    | some o => rw [q] at h6; exact ⟨o, rfl, h6⟩
  exact ⟨e1, h1, sysB_ok h3, fun p hp => (key p hp).1, fun p hp => by
    obtain ⟨_, o, q, z⟩ := key p hp
    exact frT_none q z, fun p hp => by
    obtain ⟨_, o, q, z⟩ := key p hp
    rw [q, emptyTab_eq z]⟩
def hookM (n : Nat) (fa : List Fa) (fn : List DefD) (tf : List Defn) (ex : PySem.W.Frag → Bool) : PySem.W.Hook where
  α := AlM
  obs := fun s => obsM n fa fn tf ex s.heap.get?
  val := fun _ => (valD fn, true)
  says := fun _ h => ∃ K : PySem.W.Frag, K.In h ∧ SaysM fa fn tf ex h K
  of := fun _ _ e => ⟨_, frT_in, saysM_of e⟩
  keeps := fun _ _ _ ⟨K, hK, c⟩ k => ⟨K, PySem.W.Frag.In.keeps hK k, ⟨c.d, c.more, c.sys, c.hd, c.out, fun p hp => k _ _ (c.empty p hp)⟩⟩
theorem obsM_eq {n : Nat} {fa : List Fa} {fn : List DefD} {tf : List Defn} {ex : PySem.W.Frag → Bool} {g : Addr → Option Obj} {s : Shared} (h : ∀ a, g a = s.heap.get? a) : obsM n fa fn tf ex g = (hookM n fa fn tf ex).obs s := by
  have e : g = s.heap.get? := funext h
  rw [e] <;> rfl

/-! ### the exceptions' classes -/
def oexB (K : PySem.W.Frag) (C : Addr) : Bool := match K.lookup C with
  | some ⟨.type t, _, .cls cd, sl⟩ => (match cd.mro, sl.toList with
    | .ref C' :: bm, [_, _, _, _, some (.builtin n), _] => decide (t = "type") && (C' == C && (decide (n = "ValueError.__new__") && (PySem.HandSPX.refsVE bm && (cd.hasDict && !cd.hasDel))))
    | _, _ => false)
  | _ => false
theorem oexB_ok {K : PySem.W.Frag} {C : Addr} (h : oexB K C = true) : ∃ nm q N bs bm sn sub ab col dd k0 k1 k2 k3 k5, K.lookup C = some (excClassObj nm q C N bs bm true sn sub ab col dd k0 k1 k2 k3 k5 "ValueError.__new__") ∧ PySem.HandSPX.refsVE bm = true := by
  unfold oexB at h
  split at h
  · rename_i t dd cd sl ho
    split at h
    · rename_i C' bm k0 k1 k2 k3 n k5 hm hs
      simp only [Bool.and_eq_true, beq_iff_eq, Bool.not_eq_true', decide_eq_true_eq] at h
      obtain ⟨rfl, rfl, rfl, hv, hh, hdel⟩ := h
      obtain ⟨nm, bs, mro, ns, qn, hd, sn, sub, ab, col, del⟩ := cd
      dsimp only at hm hdel hh
      subst hm hdel hh
      have hsl : sl = #[k0, k1, k2, k3, some (.builtin "ValueError.__new__"), k5] := by
        obtain ⟨l⟩ := sl
        simp only at hs
        rw [hs]
      subst hsl
      exact ⟨nm, qn, ns, bs, bm, sn, sub, ab, col, dd, k0, k1, k2, k3, k5, ho, hv⟩
    · cases h
  · cases h
def caOf (K : PySem.W.Frag) (ts : List ExI) (c : Nat) : Addr := match ts[c]? with
  | some e => ga K e.name
  | none => 0
def xcB (K : PySem.W.Frag) (C : Addr) : Bool :=
  decide (PySem.W.findIn K (.ref C) "__getattribute__" = some (some (.builtin "BaseException.__getattribute__"))) && (decide (PySem.W.findIn K (.ref C) "__getattr__" = some none) && (decide (PySem.W.subIn K (.ref C) (.type "BaseException") = some true) && (PySem.W.hasDictIn K C &&
  (decide (PySem.W.findIn K (.ref C) "__class__" = some (some (.builtin "object.__class__"))) && decide (PySem.W.mroIn K C (.type "object") = some true)))))
def xgB (K : PySem.W.Frag) : Bool := decide (PySem.W.specialIn K (.builtin "object.__class__") "__get__" = some (some (.builtin "getset_descriptor.__get__"))) && decide (PySem.W.takesIn K (.builtin "object.__class__") = some true)
def mkB (K : PySem.W.Frag) (e : ExI) : Bool := if e.fields = [] then (Fa.exc e.name).ok K else
  oexB K (ga K e.name) && (eqO (PySem.W.findIn K (.ref (ga K e.name)) "__setattr__") (some (some (.builtin "object.__setattr__"))) && (decide (PySem.W.typeIn K (.ref (ga K e.name)) = some (.type "type")) && (PySem.W.keepIn K (.ref (ga K e.name)) &&
  (eqO (PySem.W.findIn K (.ref (ga K e.name)) "__init__") (some (some (.ref (ma K (ga K e.name) "__init__")))) && (decide (PySem.W.typeIn K (.ref (ma K (ga K e.name) "__init__")) = some (.type "function")) && (decide e.fields.Nodup && decide (e.fields.length ≤ 900)))))))
def kitsB (K : PySem.W.Frag) (ts : List ExI) (root : Nat) : Bool := (List.range ts.length).all fun c => (List.range ts.length).all fun c' => decide (PySem.W.kitOne K (.ref (caOf K ts c)) (.ref (caOf K ts c')) = some (c == c' || c' == root))
def exB (ts : List ExI) (root : Nat) (K : PySem.W.Frag) : Bool := xgB K && (kitsB K ts root && (ts.all fun e => (Fa.glo e.name).ok K && (xcB K (ga K e.name) && (mkB K e && ((e.fields.all fun f => eqO (PySem.W.findIn K (.ref (ga K e.name)) f) (some none)) &&
  (decide (PySem.W.kitOne K (.ref (ga K e.name)) (.type "ValueError") = some true) && decide (PySem.W.exmOne K (.ref (ga K e.name)) (.ref (caOf K ts root)) = some true)))))))
theorem exB_ok {w : Wd} {ts : List ExI} {root : Nat} {h : Heap} (X : w.K.In h) (G : h.Ns mainGlobals w.mg) (hca : w.ca = caOf w.K ts) (c : exB ts root w.K = true)
    (hini : ∀ e ∈ ts, e.fields ≠ [] → ∃ fd, FnOk w.P w.wd w.K w.mg w.base (L2.CX w.P w.wd) 1 (ma w.K (ga w.K e.name) "__init__") fd (("self" : Str) :: e.fields) (spIni w.K e.fields) ∧ L2.Binds w.K fd (("self" : Str) :: e.fields) []) : TopX w ts root ∧ ExcW w ts := by
  unfold exB at c
  obtain ⟨c1, c⟩ := ba c
  obtain ⟨c2, c⟩ := ba c
  unfold xgB at c1
  obtain ⟨g1, g2⟩ := ba c1
  have all := fun i e (he : ts[i]? = some e) => List.all_eq_true.mp c e (List.mem_of_getElem? he)
  have ea : ∀ i e, ts[i]? = some e → w.ca i = ga w.K e.name := fun i e he => by rw [hca]; unfold caOf; rw [he]
  have xcs : ∀ i e, ts[i]? = some e → ExcC w.K (w.ca i) := fun i e he => by
    obtain ⟨_, h⟩ := ba (all i e he)
    obtain ⟨h1, _⟩ := ba h
    unfold xcB at h1
    obtain ⟨x1, h1⟩ := ba h1
    obtain ⟨x2, h1⟩ := ba h1
    obtain ⟨x3, h1⟩ := ba h1
    obtain ⟨x4, h1⟩ := ba h1
    obtain ⟨x5, x6⟩ := ba h1
    rw [ea i e he]
    exact ⟨of_decide_eq_true x1, of_decide_eq_true x2, of_decide_eq_true x3, x4, of_decide_eq_true x5, of_decide_eq_true g1, of_decide_eq_true g2, of_decide_eq_true x6⟩
  have nms : ∀ i e, ts[i]? = some e → w.mg e.name = some (.ref (w.ca i)) := fun i e he => by
    rw [ea i e he]
    exact glo_ok X G (ba (all i e he)).1
  have nos : ∀ i e, ts[i]? = some e → ∀ f ∈ e.fields, PySem.W.findIn w.K (.ref (w.ca i)) f = some none := fun i e he f hf => by
    obtain ⟨_, h⟩ := ba (all i e he)
    obtain ⟨_, h⟩ := ba h
    obtain ⟨_, h⟩ := ba h
    obtain ⟨h, _⟩ := ba h
    rw [ea i e he]
    exact eqO_ok (List.all_eq_true.mp h f hf)
  refine ⟨⟨nms, xcs, fun i e f he hf => nos i e he f hf, fun i j e e' he he' => ?_, fun i e he => ?_, fun i e he => ?_⟩, ⟨nms, fun i e he hf => ?_, fun i e he hf => ?_⟩⟩
  · unfold kitsB at c2
    have hi : i ∈ List.range ts.length := List.mem_range.mpr (List.getElem?_eq_some_iff.mp he).1
    have hj : j ∈ List.range ts.length := List.mem_range.mpr (List.getElem?_eq_some_iff.mp he').1
    rw [hca]
    exact of_decide_eq_true (List.all_eq_true.mp (List.all_eq_true.mp c2 i hi) j hj)
  · obtain ⟨_, h⟩ := ba (all i e he)
    obtain ⟨_, h⟩ := ba h
    obtain ⟨_, h⟩ := ba h
    obtain ⟨_, h⟩ := ba h
    obtain ⟨h, _⟩ := ba h
    rw [ea i e he]
    exact of_decide_eq_true h
  · obtain ⟨_, h⟩ := ba (all i e he)
    obtain ⟨_, h⟩ := ba h
    obtain ⟨_, h⟩ := ba h
    obtain ⟨_, h⟩ := ba h
    obtain ⟨_, h⟩ := ba h
    rw [ea i e he, hca]
    exact of_decide_eq_true h
  · obtain ⟨_, h⟩ := ba (all i e he)
    obtain ⟨_, h⟩ := ba h
    obtain ⟨h, _⟩ := ba h
    unfold mkB at h
    rw [if_neg hf] at h
    obtain ⟨m1, h⟩ := ba h
    obtain ⟨m2, h⟩ := ba h
    obtain ⟨m3, h⟩ := ba h
    obtain ⟨m4, h⟩ := ba h
    obtain ⟨m5, h⟩ := ba h
    obtain ⟨m6, h⟩ := ba h
    obtain ⟨m7, m8⟩ := ba h
    have xs := (xcs i e he).hs
    have no := nos i e he
    rw [ea i e he] at xs no ⊢
    obtain ⟨fd, F, B⟩ := hini e (List.mem_of_getElem? he) hf
    exact ⟨of_decide_eq_true m7, of_decide_eq_true m8, ⟨oexB_ok m1, eqO_ok m2, xs, of_decide_eq_true m3, m4⟩, no, _, fd, eqO_ok m5, of_decide_eq_true m6, F, B⟩
  · obtain ⟨_, h⟩ := ba (all i e he)
    obtain ⟨_, h⟩ := ba h
    obtain ⟨h, _⟩ := ba h
    unfold mkB at h
    rw [if_pos hf] at h
    rw [ea i e he]
    exact exc_ok h
end Mir

/-! Mir, part 18: orders by name. -/
namespace Mir
open PySem PySem.Spec PyProof.Rows L2
def oLt (i j : Int) : Bool := decide (i < j)
def oLtE (i j : Int) : Bool := decide (i ≤ j)
def oGt (i j : Int) : Bool := decide (j < i)
def oGtE (i j : Int) : Bool := decide (j ≤ i)
section
variable {w : Wd} {cc : CC} {n : Nat} {ex : Ex} {W : WX}
theorem op_LtM : ∀ X, CtxOk w cc n ex W X → OpR X (compareOp .Lt) (rI0 fun i j => .bl (oLt i j)) := fun X _ => op_lt
theorem op_LtEM : ∀ X, CtxOk w cc n ex W X → OpR X (compareOp .LtE) (rI0 fun i j => .bl (oLtE i j)) := fun X _ => op_le
theorem op_GtM : ∀ X, CtxOk w cc n ex W X → OpR X (compareOp .Gt) (rI0 fun i j => .bl (oGt i j)) := fun X _ => op_gt
theorem op_GtEM : ∀ X, CtxOk w cc n ex W X → OpR X (compareOp .GtE) (rI0 fun i j => .bl (oGtE i j)) := fun X _ => op_ge
end
end Mir

namespace K01
open PySem PySem.Spec PyProof.Rows L2 Mir
def top (i : Nat) : Stmt := PySem.Challenge.pw_oneplus_k01_errors_as_told.main.body.getD i (.Pass ⟨0, 0, 0, 0⟩)
def meth (i : Nat) : Stmt := match top i with
  | .ClassDef _ _ _ b _ _ _ _ _ _ _ => b.getD 0 (.Pass ⟨0, 0, 0, 0⟩)
  | _ => .Pass ⟨0, 0, 0, 0⟩
def exts : List ExI := [⟨"PlusError", []⟩, ⟨"BadNumber", ["what", "number"]⟩, ⟨"BadRow", ["what", "row"]⟩, ⟨"BadTable", ["what"]⟩, ⟨"BadPoly", ["what"]⟩, ⟨"BadLot", ["what", "lot"]⟩, ⟨"BadName", ["name"]⟩, ⟨"BadText", ["line", "word"]⟩, ⟨"NoPlace", ["what", "index"]⟩, ⟨"NoName", ["name"]⟩, ⟨"TakenName", ["name"]⟩, ⟨"Unlike", ["what"]⟩, ⟨"NotThere", ["paper"]⟩, ⟨"TooMany", ["what", "many", "limit"]⟩, ⟨"NotKept", ["promise", "witness"]⟩, ⟨"NothingToUndo", []⟩, ⟨"NothingToRedo", []⟩]
abbrev s_law_pen : Stmt := top 19
abbrev s_law_draw : Stmt := top 20
abbrev s_law_pick : Stmt := top 21
abbrev s_law_kinds : Stmt := top 22
abbrev s_law_more_kinds : Stmt := top 23
abbrev s_law_field : Stmt := top 24
abbrev s_law_raised : Stmt := top 25
abbrev s_law_raised_too : Stmt := top 26
abbrev s_law_told : Stmt := top 27
abbrev s_law_due : Stmt := top 28
abbrev s_law : Stmt := top 29
abbrev i_BadNumber : Stmt := meth 2
abbrev i_BadRow : Stmt := meth 3
abbrev i_BadTable : Stmt := meth 4
abbrev i_BadPoly : Stmt := meth 5
abbrev i_BadLot : Stmt := meth 6
abbrev i_BadName : Stmt := meth 7
abbrev i_BadText : Stmt := meth 8
abbrev i_NoPlace : Stmt := meth 9
abbrev i_NoName : Stmt := meth 10
abbrev i_TakenName : Stmt := meth 11
abbrev i_Unlike : Stmt := meth 12
abbrev i_NotThere : Stmt := meth 13
abbrev i_TooMany : Stmt := meth 14
abbrev i_NotKept : Stmt := meth 15
def d_law_pen : He.DefD := ⟨("_law_pen", none), "_law_pen", "_law_pen", defArgs s_law_pen, defBody s_law_pen, defScope s_law_pen, [], []⟩
def d_law_draw : He.DefD := ⟨("_law_draw", none), "_law_draw", "_law_draw", defArgs s_law_draw, defBody s_law_draw, defScope s_law_draw, [], []⟩
def d_law_pick : He.DefD := ⟨("_law_pick", none), "_law_pick", "_law_pick", defArgs s_law_pick, defBody s_law_pick, defScope s_law_pick, [], []⟩
def d_law_kinds : He.DefD := ⟨("_law_kinds", none), "_law_kinds", "_law_kinds", defArgs s_law_kinds, defBody s_law_kinds, defScope s_law_kinds, [], []⟩
def d_law_more_kinds : He.DefD := ⟨("_law_more_kinds", none), "_law_more_kinds", "_law_more_kinds", defArgs s_law_more_kinds, defBody s_law_more_kinds, defScope s_law_more_kinds, [], []⟩
def d_law_field : He.DefD := ⟨("_law_field", none), "_law_field", "_law_field", defArgs s_law_field, defBody s_law_field, defScope s_law_field, [], []⟩
def d_law_raised : He.DefD := ⟨("_law_raised", none), "_law_raised", "_law_raised", defArgs s_law_raised, defBody s_law_raised, defScope s_law_raised, [], []⟩
def d_law_raised_too : He.DefD := ⟨("_law_raised_too", none), "_law_raised_too", "_law_raised_too", defArgs s_law_raised_too, defBody s_law_raised_too, defScope s_law_raised_too, [], []⟩
def d_law_told : He.DefD := ⟨("_law_told", none), "_law_told", "_law_told", defArgs s_law_told, defBody s_law_told, defScope s_law_told, [], []⟩
def d_law_due : He.DefD := ⟨("_law_due", none), "_law_due", "_law_due", defArgs s_law_due, defBody s_law_due, defScope s_law_due, [], []⟩
def d_law : He.DefD := ⟨("law", none), "law", "law", defArgs s_law, defBody s_law, defScope s_law, [], []⟩
def di_BadNumber : He.DefD := ⟨("BadNumber", some "__init__"), "__init__", "BadNumber.__init__", defArgs i_BadNumber, defBody i_BadNumber, defScope i_BadNumber, [], []⟩
def di_BadRow : He.DefD := ⟨("BadRow", some "__init__"), "__init__", "BadRow.__init__", defArgs i_BadRow, defBody i_BadRow, defScope i_BadRow, [], []⟩
def di_BadTable : He.DefD := ⟨("BadTable", some "__init__"), "__init__", "BadTable.__init__", defArgs i_BadTable, defBody i_BadTable, defScope i_BadTable, [], []⟩
def di_BadPoly : He.DefD := ⟨("BadPoly", some "__init__"), "__init__", "BadPoly.__init__", defArgs i_BadPoly, defBody i_BadPoly, defScope i_BadPoly, [], []⟩
def di_BadLot : He.DefD := ⟨("BadLot", some "__init__"), "__init__", "BadLot.__init__", defArgs i_BadLot, defBody i_BadLot, defScope i_BadLot, [], []⟩
def di_BadName : He.DefD := ⟨("BadName", some "__init__"), "__init__", "BadName.__init__", defArgs i_BadName, defBody i_BadName, defScope i_BadName, [], []⟩
def di_BadText : He.DefD := ⟨("BadText", some "__init__"), "__init__", "BadText.__init__", defArgs i_BadText, defBody i_BadText, defScope i_BadText, [], []⟩
def di_NoPlace : He.DefD := ⟨("NoPlace", some "__init__"), "__init__", "NoPlace.__init__", defArgs i_NoPlace, defBody i_NoPlace, defScope i_NoPlace, [], []⟩
def di_NoName : He.DefD := ⟨("NoName", some "__init__"), "__init__", "NoName.__init__", defArgs i_NoName, defBody i_NoName, defScope i_NoName, [], []⟩
def di_TakenName : He.DefD := ⟨("TakenName", some "__init__"), "__init__", "TakenName.__init__", defArgs i_TakenName, defBody i_TakenName, defScope i_TakenName, [], []⟩
def di_Unlike : He.DefD := ⟨("Unlike", some "__init__"), "__init__", "Unlike.__init__", defArgs i_Unlike, defBody i_Unlike, defScope i_Unlike, [], []⟩
def di_NotThere : He.DefD := ⟨("NotThere", some "__init__"), "__init__", "NotThere.__init__", defArgs i_NotThere, defBody i_NotThere, defScope i_NotThere, [], []⟩
def di_TooMany : He.DefD := ⟨("TooMany", some "__init__"), "__init__", "TooMany.__init__", defArgs i_TooMany, defBody i_TooMany, defScope i_TooMany, [], []⟩
def di_NotKept : He.DefD := ⟨("NotKept", some "__init__"), "__init__", "NotKept.__init__", defArgs i_NotKept, defBody i_NotKept, defScope i_NotKept, [], []⟩
def fns : List He.DefD := [d_law_pen, d_law_draw, d_law_pick, d_law_kinds, d_law_more_kinds, d_law_field, d_law_raised, d_law_raised_too, d_law_told, d_law_due, d_law, di_BadNumber, di_BadRow, di_BadTable, di_BadPoly, di_BadLot, di_BadName, di_BadText, di_NoPlace, di_NoName, di_TakenName, di_Unlike, di_NotThere, di_TooMany, di_NotKept]
def glos : List Str := ["_law_pen", "_law_draw", "_law_pick", "_law_kinds", "_law_more_kinds", "_law_field", "_law_raised", "_law_raised_too", "_law_told", "_law_due", "law"]
def frees : List Str := ["ValueError", "int", "isinstance", "len", "list", "range", "repr"]
structure Top (w : Wd) : Prop where
  sys : SysOk w.K
  fr : ∀ x : Str, x ∈ frees → w.mg x = none
  tx : TopX w exts 0
  te : ExcW w exts
  d : ∀ (i : Nat) {d : He.DefD}, fns[i]? = some d → ∃ fd, FunD w.K d.name d.qual d.params d.body d.scope (d.dvs w.K) (d.kws w.K) (He.fAd w.K d.at_) fd
  g : ∀ x : Str, x ∈ glos → w.mg x = some (.ref (He.ga w.K x))
theorem Top.frs {w : Wd} (T : Top w) (bs : List BT) (h : (bs.all fun b => frees.contains (Str.ofString b.nm)) = true) : ∀ b ∈ bs, w.mg (Str.ofString b.nm) = none := fun b hb => T.fr _ (by simpa using List.all_eq_true.mp h b hb)
/-! ### _law_draw -/
def n_law_draw : List Str := ["pen", "many", "cell", "digit", "blend"]
def b_law_draw : MS :=
  mSeq (mPenSet 0 .count (mOp addPV (mPenI 0 .count) (mC (.int 1))))
  (mSeq (mIf (mAndT (boolOf (mOp (eqOp) (mPenI 0 .digits) (mC (.int 0)))) (boolOf (mOp ((ordPV oLt)) (mPenI 0 .at_) (mPenLen 0))))
    (mSeq (mSet 2 (mPenCell 0 .at_))
    (mSeq (mPenSet 0 .at_ (mOp addPV (mPenI 0 .at_) (mC (.int 1))))
    (mSeq (mIf (boolOf (mOp ((ordPV oGtE)) (mVarX 2) (mOp powPV (mC (.int 10)) (mC (.int 18)))))
      (mSeq (mPenSet 0 .digits (mOp subPV (mVarX 2) (mOp powPV (mC (.int 10)) (mC (.int 18)))))
      (mNx))
      (mSeq (mPenSet 0 .fold (mOp modPV (mBlt intcPV (mConsX (mOp addPV (mOp mulPV (mPenI 0 .fold) (mC (.int 69069))) (mVarX 2)) (mNilX))) (mC (.int 2147483587))))
      (mNx)))
    (mNx))))
    (mNx))
  (mSeq (mIf (boolOf (mOp ((ordPV oGt)) (mPenI 0 .digits) (mC (.int 0))))
    (mSeq (mSet 3 (mOp modPV (mBlt intcPV (mConsX (mPenI 0 .digits) (mNilX))) (mVarX 1)))
    (mSeq (mPenSet 0 .digits (mOp divPV (mPenI 0 .digits) (mVarX 1)))
    (mSeq (mRet (mVar 3))
    (mNx))))
    (mNx))
  (mSeq (mSet 4 (mOp modPV (mBlt intcPV (mConsX (mOp addPV (mOp addPV (mOp mulPV (mPenI 0 .fold) (mC (.int 48271))) (mOp mulPV (mPenI 0 .count) (mC (.int 7919)))) (mC (.int 13))) (mNilX))) (mC (.int 2147483647))))
  (mSeq (mSet 4 (mOp modPV (mBlt intcPV (mConsX (mOp addPV (mOp addPV (mOp mulPV (mVarX 4) (mVarX 4)) (mOp mulPV (mC (.int 31)) (mVarX 4))) (mPenI 0 .count)) (mNilX))) (mC (.int 2147483629))))
  (mSeq (mPenSet 0 .fold (mOp modPV (mBlt intcPV (mConsX (mOp addPV (mOp mulPV (mVarX 4) (mC (.int 16807))) (mC (.int 7))) (mNilX))) (mC (.int 2147483647))))
  (mSeq (mRet (mOp modPV (mBlt intcPV (mConsX (mOp divPV (mVarX 4) (mC (.int 64))) (mNilX))) (mVarX 1)))
  (mNx)))))))
theorem v_law_draw_blend : varOk ⟨defScope s_law_draw, n_law_draw, false, true⟩ 4 "blend" = true := by decide +kernel
theorem v_law_draw_cell : varOk ⟨defScope s_law_draw, n_law_draw, false, true⟩ 2 "cell" = true := by decide +kernel
theorem v_law_draw_digit : varOk ⟨defScope s_law_draw, n_law_draw, false, true⟩ 3 "digit" = true := by decide +kernel
theorem v_law_draw_many : varOk ⟨defScope s_law_draw, n_law_draw, false, true⟩ 1 "many" = true := by decide +kernel
theorem v_law_draw_pen : varOk ⟨defScope s_law_draw, n_law_draw, false, true⟩ 0 "pen" = true := by decide +kernel
theorem t_law_draw_blend : stoOk ⟨defScope s_law_draw, n_law_draw, false, true⟩ 4 "blend" = true := by decide +kernel
theorem t_law_draw_cell : stoOk ⟨defScope s_law_draw, n_law_draw, false, true⟩ 2 "cell" = true := by decide +kernel
theorem t_law_draw_digit : stoOk ⟨defScope s_law_draw, n_law_draw, false, true⟩ 3 "digit" = true := by decide +kernel
theorem g_law_draw_int : glB ⟨defScope s_law_draw, n_law_draw, false, true⟩ "int" = true := by decide +kernel
theorem g_law_draw_len : glB ⟨defScope s_law_draw, n_law_draw, false, true⟩ "len" = true := by decide +kernel
theorem sc_law_draw : FnScope n_law_draw (["pen", "many"] : List Str) (defScope s_law_draw) := ⟨rfl, rfl, rfl, by decide +kernel, rfl, by decide +kernel, by decide +kernel⟩
theorem w_law_draw {w : Wd} (T : Top w) (W : WX) : SSs w ⟨defScope s_law_draw, n_law_draw, false, true⟩ 0 [] W (defBody s_law_draw) b_law_draw :=
  (sss_cons (ss_penSet .count v_law_draw_pen rfl (se_bin op_addM add_s (SE.x (se_penI .count v_law_draw_pen)) (SE.x se_int)))
  (sss_cons (ss_if (SW.t (sw_and (st_cmp op_eqM eq_s rfl (SE.x (se_penI .digits v_law_draw_pen)) (SE.x se_int)) (sw_one (st_cmp op_LtM ord_s rfl (SE.x (se_penI .at_ v_law_draw_pen)) (SE.x (se_penLen v_law_draw_pen g_law_draw_len (T.fr "len" (by decide))))))))
    (sss_cons (ss_set t_law_draw_cell rfl (se_penCell .at_ v_law_draw_pen))
    (sss_cons (ss_penSet .at_ v_law_draw_pen rfl (se_bin op_addM add_s (SE.x (se_penI .at_ v_law_draw_pen)) (SE.x se_int)))
    (sss_cons (ss_if (st_cmp op_GtEM ord_s rfl (sx_var v_law_draw_cell) (SE.x (se_bin op_powM pow_s (SE.x se_int) (SE.x se_int))))
      (sss_cons (ss_penSet .digits v_law_draw_pen rfl (se_bin op_subM sub_s (sx_var v_law_draw_cell) (SE.x (se_bin op_powM pow_s (SE.x se_int) (SE.x se_int)))))
      sss_nil)
      (sss_cons (ss_penSet .fold v_law_draw_pen rfl (se_bin op_modM mod_s (SE.x (se_bty call_intM intc_s g_law_draw_int (T.fr "int" (by decide)) PySem.Pv.boot_int rfl (sxa_cons rfl (SE.x (se_bin op_addM add_s (SE.x (se_bin op_mulM mul_s (SE.x (se_penI .fold v_law_draw_pen)) (SE.x se_int))) (sx_var v_law_draw_cell))) sxa_nil))) (SE.x se_int)))
      sss_nil))
    sss_nil)))
    sss_nil)
  (sss_cons (ss_if (st_cmp op_GtM ord_s rfl (SE.x (se_penI .digits v_law_draw_pen)) (SE.x se_int))
    (sss_cons (ss_set t_law_draw_digit rfl (se_bin op_modM mod_s (SE.x (se_bty call_intM intc_s g_law_draw_int (T.fr "int" (by decide)) PySem.Pv.boot_int rfl (sxa_cons rfl (SE.x (se_penI .digits v_law_draw_pen)) sxa_nil))) (sx_var v_law_draw_many)))
    (sss_cons (ss_penSet .digits v_law_draw_pen rfl (se_bin op_divM div_s (SE.x (se_penI .digits v_law_draw_pen)) (sx_var v_law_draw_many)))
    (sss_cons (ss_ret (se_var v_law_draw_digit))
    sss_nil)))
    sss_nil)
  (sss_cons (ss_set t_law_draw_blend rfl (se_bin op_modM mod_s (SE.x (se_bty call_intM intc_s g_law_draw_int (T.fr "int" (by decide)) PySem.Pv.boot_int rfl (sxa_cons rfl (SE.x (se_bin op_addM add_s (SE.x (se_bin op_addM add_s (SE.x (se_bin op_mulM mul_s (SE.x (se_penI .fold v_law_draw_pen)) (SE.x se_int))) (SE.x (se_bin op_mulM mul_s (SE.x (se_penI .count v_law_draw_pen)) (SE.x se_int))))) (SE.x se_int))) sxa_nil))) (SE.x se_int)))
  (sss_cons (ss_set t_law_draw_blend rfl (se_bin op_modM mod_s (SE.x (se_bty call_intM intc_s g_law_draw_int (T.fr "int" (by decide)) PySem.Pv.boot_int rfl (sxa_cons rfl (SE.x (se_bin op_addM add_s (SE.x (se_bin op_addM add_s (SE.x (se_bin op_mulM mul_s (sx_var v_law_draw_blend) (sx_var v_law_draw_blend))) (SE.x (se_bin op_mulM mul_s (SE.x se_int) (sx_var v_law_draw_blend))))) (SE.x (se_penI .count v_law_draw_pen)))) sxa_nil))) (SE.x se_int)))
  (sss_cons (ss_penSet .fold v_law_draw_pen rfl (se_bin op_modM mod_s (SE.x (se_bty call_intM intc_s g_law_draw_int (T.fr "int" (by decide)) PySem.Pv.boot_int rfl (sxa_cons rfl (SE.x (se_bin op_addM add_s (SE.x (se_bin op_mulM mul_s (sx_var v_law_draw_blend) (SE.x se_int))) (SE.x se_int))) sxa_nil))) (SE.x se_int)))
  (sss_cons (ss_ret (se_bin op_modM mod_s (SE.x (se_bty call_intM intc_s g_law_draw_int (T.fr "int" (by decide)) PySem.Pv.boot_int rfl (sxa_cons rfl (SE.x (se_bin op_divM div_s (sx_var v_law_draw_blend) (SE.x se_int))) sxa_nil))) (sx_var v_law_draw_many)))
  sss_nil)))))))
def m_law_draw : MF := mFn n_law_draw b_law_draw
theorem own_law_draw {w : Wd} (T : Top w) : Own w "_law_draw" false 1 2 m_law_draw := by
  obtain ⟨fd, Fd⟩ := T.d 1 (d := d_law_draw) rfl
  exact ⟨_, fd, (["pen", "many"] : List Str), rfl, T.g "_law_draw" (by decide), Fd.kp, Fd.bindsN fun _ _ _ _ _ _ us hl => match us, hl with | [_, _], _ => rfl, fn_body Fd sc_law_draw (fun ex hex W => by
    obtain rfl := hex rfl
    exact w_law_draw T W)⟩
/-! ### _law_pick -/
def n_law_pick : List Str := ["pen", "some"]
def b_law_pick : MS :=
  mSeq (mRet (mOp ixPV (mVarX 1) (mCall 2 m_law_draw (mCons (mVarV 0) (mCons (mV (mBlt lenPV (mConsX (mVarX 1) (mNilX)))) (mNil))))))
  (mNx)
theorem v_law_pick_pen : varOk ⟨defScope s_law_pick, n_law_pick, false, true⟩ 0 "pen" = true := by decide +kernel
theorem v_law_pick_some : varOk ⟨defScope s_law_pick, n_law_pick, false, true⟩ 1 "some" = true := by decide +kernel
theorem g_law_pick__law_draw : glB ⟨defScope s_law_pick, n_law_pick, false, true⟩ "_law_draw" = true := by decide +kernel
theorem g_law_pick_len : glB ⟨defScope s_law_pick, n_law_pick, false, true⟩ "len" = true := by decide +kernel
theorem sc_law_pick : FnScope n_law_pick (["pen", "some"] : List Str) (defScope s_law_pick) := ⟨rfl, rfl, rfl, by decide +kernel, rfl, by decide +kernel, by decide +kernel⟩
theorem w_law_pick {w : Wd} (T : Top w) (W : WX) : SSs w ⟨defScope s_law_pick, n_law_pick, false, true⟩ 1 [] W (defBody s_law_pick) b_law_pick :=
  (sss_cons (ss_ret (se_ix rfl (sx_var v_law_pick_some) (SE.x (se_call (own_law_draw T) (fun _ => rfl) (by decide) g_law_pick__law_draw rfl (sa_cons rfl (sv_var v_law_pick_pen) (sa_cons rfl (SE.v (se_blt call_lenM len_s g_law_pick_len (T.fr "len" (by decide)) boot_len rfl (sxa_cons rfl (sx_var v_law_pick_some) sxa_nil))) sa_nil))))))
  sss_nil)
def m_law_pick : MF := mFn n_law_pick b_law_pick
theorem own_law_pick {w : Wd} (T : Top w) : Own w "_law_pick" false 2 2 m_law_pick := by
  obtain ⟨fd, Fd⟩ := T.d 2 (d := d_law_pick) rfl
  exact ⟨_, fd, (["pen", "some"] : List Str), rfl, T.g "_law_pick" (by decide), Fd.kp, Fd.bindsN fun _ _ _ _ _ _ us hl => match us, hl with | [_, _], _ => rfl, fn_body Fd sc_law_pick (fun ex hex W => by
    obtain rfl := hex rfl
    exact w_law_pick T W)⟩
/-! ### _law_more_kinds -/
def n_law_more_kinds : List Str := ["e", "found"]
def b_law_more_kinds : MS :=
  mSeq (mSetL 1 (mLst (mNil)))
  (mSeq (mIf (boolOf (mIsE 17 0 0 (.own 9)))
    (mSeq (mApp 1 (mTup (mCons (mV (mC (.str "noname"))) (mCons (mV (mOne reprPV (mAttE' exts 0 "name"))) (mNil)))))
    (mNx))
    (mNx))
  (mSeq (mIf (boolOf (mIsE 17 0 0 (.own 10)))
    (mSeq (mApp 1 (mTup (mCons (mV (mC (.str "taken"))) (mCons (mV (mOne reprPV (mAttE' exts 0 "name"))) (mNil)))))
    (mNx))
    (mNx))
  (mSeq (mIf (boolOf (mIsE 17 0 0 (.own 11)))
    (mSeq (mApp 1 (mTup (mCons (mV (mC (.str "unlike"))) (mCons (mV (mAttE' exts 0 "what")) (mNil)))))
    (mNx))
    (mNx))
  (mSeq (mIf (boolOf (mIsE 17 0 0 (.own 12)))
    (mSeq (mApp 1 (mTup (mCons (mV (mC (.str "notthere"))) (mCons (mV (mAttE' exts 0 "paper")) (mNil)))))
    (mNx))
    (mNx))
  (mSeq (mIf (boolOf (mIsE 17 0 0 (.own 13)))
    (mSeq (mApp 1 (mTup (mCons (mV (mC (.str "many"))) (mCons (mV (mAttE' exts 0 "what")) (mCons (mV (mAttE' exts 0 "many")) (mCons (mV (mAttE' exts 0 "limit")) (mNil)))))))
    (mNx))
    (mNx))
  (mSeq (mIf (boolOf (mIsE 17 0 0 (.own 14)))
    (mSeq (mApp 1 (mTup (mCons (mV (mC (.str "kept"))) (mCons (mV (mAttE' exts 0 "promise")) (mCons (mV (mAttE' exts 0 "witness")) (mNil))))))
    (mNx))
    (mNx))
  (mSeq (mIf (boolOf (mIsE 17 0 0 (.own 15)))
    (mSeq (mApp 1 (mTup (mCons (mV (mC (.str "undo"))) (mNil))))
    (mNx))
    (mNx))
  (mSeq (mIf (boolOf (mIsE 17 0 0 (.own 16)))
    (mSeq (mApp 1 (mTup (mCons (mV (mC (.str "redo"))) (mNil))))
    (mNx))
    (mNx))
  (mSeq (mFrz 1 (mRet (mVar 1)))
  (mNx))))))))))
theorem v_law_more_kinds_e : varOk ⟨defScope s_law_more_kinds, n_law_more_kinds, true, true⟩ 0 "e" = true := by decide +kernel
theorem v_law_more_kinds_found : varOk ⟨defScope s_law_more_kinds, n_law_more_kinds, true, true⟩ 1 "found" = true := by decide +kernel
theorem t_law_more_kinds_found : stoOk ⟨defScope s_law_more_kinds, n_law_more_kinds, true, true⟩ 1 "found" = true := by decide +kernel
theorem g_law_more_kinds_isinstance : glB ⟨defScope s_law_more_kinds, n_law_more_kinds, true, true⟩ "isinstance" = true := by decide +kernel
theorem g_law_more_kinds_repr : glB ⟨defScope s_law_more_kinds, n_law_more_kinds, true, true⟩ "repr" = true := by decide +kernel
theorem sc_law_more_kinds : FnScope n_law_more_kinds (["e"] : List Str) (defScope s_law_more_kinds) := ⟨rfl, rfl, rfl, by decide +kernel, rfl, by decide +kernel, by decide +kernel⟩
theorem w_law_more_kinds {w : Wd} (T : Top w) (ex : Ex) (W : WX) : SSs w ⟨defScope s_law_more_kinds, n_law_more_kinds, true, true⟩ 0 ex W (defBody s_law_more_kinds) b_law_more_kinds :=
  (sss_cons (ss_setL t_law_more_kinds_found rfl (sl_lst sa_nil))
  (sss_cons (ss_if (SE.t rfl (se_isE (k := (.own 9)) (x := "NoName") T.tx v_law_more_kinds_e g_law_more_kinds_isinstance (T.fr "isinstance" (by decide)) (T.fr "ValueError" (by decide)) (by decide +kernel)))
    (sss_cons (ss_app v_law_more_kinds_found rfl rfl (se_tup (sa_cons rfl (SE.v se_str) (sa_cons rfl (SE.v (se_repr T.sys rfl g_law_more_kinds_repr (T.fr "repr" (by decide)) (se_attE T.tx v_law_more_kinds_e))) sa_nil))))
    sss_nil)
    sss_nil)
  (sss_cons (ss_if (SE.t rfl (se_isE (k := (.own 10)) (x := "TakenName") T.tx v_law_more_kinds_e g_law_more_kinds_isinstance (T.fr "isinstance" (by decide)) (T.fr "ValueError" (by decide)) (by decide +kernel)))
    (sss_cons (ss_app v_law_more_kinds_found rfl rfl (se_tup (sa_cons rfl (SE.v se_str) (sa_cons rfl (SE.v (se_repr T.sys rfl g_law_more_kinds_repr (T.fr "repr" (by decide)) (se_attE T.tx v_law_more_kinds_e))) sa_nil))))
    sss_nil)
    sss_nil)
  (sss_cons (ss_if (SE.t rfl (se_isE (k := (.own 11)) (x := "Unlike") T.tx v_law_more_kinds_e g_law_more_kinds_isinstance (T.fr "isinstance" (by decide)) (T.fr "ValueError" (by decide)) (by decide +kernel)))
    (sss_cons (ss_app v_law_more_kinds_found rfl rfl (se_tup (sa_cons rfl (SE.v se_str) (sa_cons rfl (SE.v (se_attE T.tx v_law_more_kinds_e)) sa_nil))))
    sss_nil)
    sss_nil)
  (sss_cons (ss_if (SE.t rfl (se_isE (k := (.own 12)) (x := "NotThere") T.tx v_law_more_kinds_e g_law_more_kinds_isinstance (T.fr "isinstance" (by decide)) (T.fr "ValueError" (by decide)) (by decide +kernel)))
    (sss_cons (ss_app v_law_more_kinds_found rfl rfl (se_tup (sa_cons rfl (SE.v se_str) (sa_cons rfl (SE.v (se_attE T.tx v_law_more_kinds_e)) sa_nil))))
    sss_nil)
    sss_nil)
  (sss_cons (ss_if (SE.t rfl (se_isE (k := (.own 13)) (x := "TooMany") T.tx v_law_more_kinds_e g_law_more_kinds_isinstance (T.fr "isinstance" (by decide)) (T.fr "ValueError" (by decide)) (by decide +kernel)))
    (sss_cons (ss_app v_law_more_kinds_found rfl rfl (se_tup (sa_cons rfl (SE.v se_str) (sa_cons rfl (SE.v (se_attE T.tx v_law_more_kinds_e)) (sa_cons rfl (SE.v (se_attE T.tx v_law_more_kinds_e)) (sa_cons rfl (SE.v (se_attE T.tx v_law_more_kinds_e)) sa_nil))))))
    sss_nil)
    sss_nil)
  (sss_cons (ss_if (SE.t rfl (se_isE (k := (.own 14)) (x := "NotKept") T.tx v_law_more_kinds_e g_law_more_kinds_isinstance (T.fr "isinstance" (by decide)) (T.fr "ValueError" (by decide)) (by decide +kernel)))
    (sss_cons (ss_app v_law_more_kinds_found rfl rfl (se_tup (sa_cons rfl (SE.v se_str) (sa_cons rfl (SE.v (se_attE T.tx v_law_more_kinds_e)) (sa_cons rfl (SE.v (se_attE T.tx v_law_more_kinds_e)) sa_nil)))))
    sss_nil)
    sss_nil)
  (sss_cons (ss_if (SE.t rfl (se_isE (k := (.own 15)) (x := "NothingToUndo") T.tx v_law_more_kinds_e g_law_more_kinds_isinstance (T.fr "isinstance" (by decide)) (T.fr "ValueError" (by decide)) (by decide +kernel)))
    (sss_cons (ss_app v_law_more_kinds_found rfl rfl (se_tup (sa_cons rfl (SE.v se_str) sa_nil)))
    sss_nil)
    sss_nil)
  (sss_cons (ss_if (SE.t rfl (se_isE (k := (.own 16)) (x := "NothingToRedo") T.tx v_law_more_kinds_e g_law_more_kinds_isinstance (T.fr "isinstance" (by decide)) (T.fr "ValueError" (by decide)) (by decide +kernel)))
    (sss_cons (ss_app v_law_more_kinds_found rfl rfl (se_tup (sa_cons rfl (SE.v se_str) sa_nil)))
    sss_nil)
    sss_nil)
  (sss_cons (ss_frz 1 (ss_ret (se_var v_law_more_kinds_found)))
  sss_nil))))))))))
def m_law_more_kinds : MF := mFn n_law_more_kinds b_law_more_kinds
theorem own_law_more_kinds {w : Wd} (T : Top w) : Own w "_law_more_kinds" true 1 1 m_law_more_kinds := by
  obtain ⟨fd, Fd⟩ := T.d 4 (d := d_law_more_kinds) rfl
  exact ⟨_, fd, (["e"] : List Str), rfl, T.g "_law_more_kinds" (by decide), Fd.kp, Fd.bindsN fun _ _ _ _ _ _ us hl => match us, hl with | [_], _ => rfl, fn_body Fd sc_law_more_kinds (fun ex hex W => w_law_more_kinds T ex W)⟩
/-! ### _law_kinds -/
def n_law_kinds : List Str := ["e", "found"]
def b_law_kinds : MS :=
  mSeq (mSetL 1 (mLst (mNil)))
  (mSeq (mIf (boolOf (mIsE 17 0 0 (.own 1)))
    (mSeq (mApp 1 (mTup (mCons (mV (mC (.str "number"))) (mCons (mV (mAttE' exts 0 "what")) (mCons (mV (mOne reprPV (mAttE' exts 0 "number"))) (mNil))))))
    (mNx))
    (mNx))
  (mSeq (mIf (boolOf (mIsE 17 0 0 (.own 2)))
    (mSeq (mApp 1 (mTup (mCons (mV (mC (.str "row"))) (mCons (mV (mAttE' exts 0 "what")) (mCons (mV (mOne reprPV (mAttE' exts 0 "row"))) (mNil))))))
    (mNx))
    (mNx))
  (mSeq (mIf (boolOf (mIsE 17 0 0 (.own 3)))
    (mSeq (mApp 1 (mTup (mCons (mV (mC (.str "table"))) (mCons (mV (mAttE' exts 0 "what")) (mNil)))))
    (mNx))
    (mNx))
  (mSeq (mIf (boolOf (mIsE 17 0 0 (.own 4)))
    (mSeq (mApp 1 (mTup (mCons (mV (mC (.str "poly"))) (mCons (mV (mAttE' exts 0 "what")) (mNil)))))
    (mNx))
    (mNx))
  (mSeq (mIf (boolOf (mIsE 17 0 0 (.own 5)))
    (mSeq (mApp 1 (mTup (mCons (mV (mC (.str "lot"))) (mCons (mV (mAttE' exts 0 "what")) (mCons (mV (mOne reprPV (mAttE' exts 0 "lot"))) (mNil))))))
    (mNx))
    (mNx))
  (mSeq (mIf (boolOf (mIsE 17 0 0 (.own 6)))
    (mSeq (mApp 1 (mTup (mCons (mV (mC (.str "badname"))) (mCons (mV (mOne reprPV (mAttE' exts 0 "name"))) (mNil)))))
    (mNx))
    (mNx))
  (mSeq (mIf (boolOf (mIsE 17 0 0 (.own 7)))
    (mSeq (mApp 1 (mTup (mCons (mV (mC (.str "text"))) (mCons (mV (mAttE' exts 0 "line")) (mCons (mV (mAttE' exts 0 "word")) (mNil))))))
    (mNx))
    (mNx))
  (mSeq (mIf (boolOf (mIsE 17 0 0 (.own 8)))
    (mSeq (mApp 1 (mTup (mCons (mV (mC (.str "place"))) (mCons (mV (mAttE' exts 0 "what")) (mCons (mV (mOne reprPV (mAttE' exts 0 "index"))) (mNil))))))
    (mNx))
    (mNx))
  (mSeq (mRet (mOp addPV (mVarX 1) (mCall 1 m_law_more_kinds (mCons (mVarV 0) (mNil)))))
  (mNx))))))))))
theorem v_law_kinds_e : varOk ⟨defScope s_law_kinds, n_law_kinds, true, true⟩ 0 "e" = true := by decide +kernel
theorem v_law_kinds_found : varOk ⟨defScope s_law_kinds, n_law_kinds, true, true⟩ 1 "found" = true := by decide +kernel
theorem t_law_kinds_found : stoOk ⟨defScope s_law_kinds, n_law_kinds, true, true⟩ 1 "found" = true := by decide +kernel
theorem g_law_kinds__law_more_kinds : glB ⟨defScope s_law_kinds, n_law_kinds, true, true⟩ "_law_more_kinds" = true := by decide +kernel
theorem g_law_kinds_isinstance : glB ⟨defScope s_law_kinds, n_law_kinds, true, true⟩ "isinstance" = true := by decide +kernel
theorem g_law_kinds_repr : glB ⟨defScope s_law_kinds, n_law_kinds, true, true⟩ "repr" = true := by decide +kernel
theorem sc_law_kinds : FnScope n_law_kinds (["e"] : List Str) (defScope s_law_kinds) := ⟨rfl, rfl, rfl, by decide +kernel, rfl, by decide +kernel, by decide +kernel⟩
theorem w_law_kinds {w : Wd} (T : Top w) (ex : Ex) (W : WX) : SSs w ⟨defScope s_law_kinds, n_law_kinds, true, true⟩ 1 ex W (defBody s_law_kinds) b_law_kinds :=
  (sss_cons (ss_setL t_law_kinds_found rfl (sl_lst sa_nil))
  (sss_cons (ss_if (SE.t rfl (se_isE (k := (.own 1)) (x := "BadNumber") T.tx v_law_kinds_e g_law_kinds_isinstance (T.fr "isinstance" (by decide)) (T.fr "ValueError" (by decide)) (by decide +kernel)))
    (sss_cons (ss_app v_law_kinds_found rfl rfl (se_tup (sa_cons rfl (SE.v se_str) (sa_cons rfl (SE.v (se_attE T.tx v_law_kinds_e)) (sa_cons rfl (SE.v (se_repr T.sys rfl g_law_kinds_repr (T.fr "repr" (by decide)) (se_attE T.tx v_law_kinds_e))) sa_nil)))))
    sss_nil)
    sss_nil)
  (sss_cons (ss_if (SE.t rfl (se_isE (k := (.own 2)) (x := "BadRow") T.tx v_law_kinds_e g_law_kinds_isinstance (T.fr "isinstance" (by decide)) (T.fr "ValueError" (by decide)) (by decide +kernel)))
    (sss_cons (ss_app v_law_kinds_found rfl rfl (se_tup (sa_cons rfl (SE.v se_str) (sa_cons rfl (SE.v (se_attE T.tx v_law_kinds_e)) (sa_cons rfl (SE.v (se_repr T.sys rfl g_law_kinds_repr (T.fr "repr" (by decide)) (se_attE T.tx v_law_kinds_e))) sa_nil)))))
    sss_nil)
    sss_nil)
  (sss_cons (ss_if (SE.t rfl (se_isE (k := (.own 3)) (x := "BadTable") T.tx v_law_kinds_e g_law_kinds_isinstance (T.fr "isinstance" (by decide)) (T.fr "ValueError" (by decide)) (by decide +kernel)))
    (sss_cons (ss_app v_law_kinds_found rfl rfl (se_tup (sa_cons rfl (SE.v se_str) (sa_cons rfl (SE.v (se_attE T.tx v_law_kinds_e)) sa_nil))))
    sss_nil)
    sss_nil)
  (sss_cons (ss_if (SE.t rfl (se_isE (k := (.own 4)) (x := "BadPoly") T.tx v_law_kinds_e g_law_kinds_isinstance (T.fr "isinstance" (by decide)) (T.fr "ValueError" (by decide)) (by decide +kernel)))
    (sss_cons (ss_app v_law_kinds_found rfl rfl (se_tup (sa_cons rfl (SE.v se_str) (sa_cons rfl (SE.v (se_attE T.tx v_law_kinds_e)) sa_nil))))
    sss_nil)
    sss_nil)
  (sss_cons (ss_if (SE.t rfl (se_isE (k := (.own 5)) (x := "BadLot") T.tx v_law_kinds_e g_law_kinds_isinstance (T.fr "isinstance" (by decide)) (T.fr "ValueError" (by decide)) (by decide +kernel)))
    (sss_cons (ss_app v_law_kinds_found rfl rfl (se_tup (sa_cons rfl (SE.v se_str) (sa_cons rfl (SE.v (se_attE T.tx v_law_kinds_e)) (sa_cons rfl (SE.v (se_repr T.sys rfl g_law_kinds_repr (T.fr "repr" (by decide)) (se_attE T.tx v_law_kinds_e))) sa_nil)))))
    sss_nil)
    sss_nil)
  (sss_cons (ss_if (SE.t rfl (se_isE (k := (.own 6)) (x := "BadName") T.tx v_law_kinds_e g_law_kinds_isinstance (T.fr "isinstance" (by decide)) (T.fr "ValueError" (by decide)) (by decide +kernel)))
    (sss_cons (ss_app v_law_kinds_found rfl rfl (se_tup (sa_cons rfl (SE.v se_str) (sa_cons rfl (SE.v (se_repr T.sys rfl g_law_kinds_repr (T.fr "repr" (by decide)) (se_attE T.tx v_law_kinds_e))) sa_nil))))
    sss_nil)
    sss_nil)
  (sss_cons (ss_if (SE.t rfl (se_isE (k := (.own 7)) (x := "BadText") T.tx v_law_kinds_e g_law_kinds_isinstance (T.fr "isinstance" (by decide)) (T.fr "ValueError" (by decide)) (by decide +kernel)))
    (sss_cons (ss_app v_law_kinds_found rfl rfl (se_tup (sa_cons rfl (SE.v se_str) (sa_cons rfl (SE.v (se_attE T.tx v_law_kinds_e)) (sa_cons rfl (SE.v (se_attE T.tx v_law_kinds_e)) sa_nil)))))
    sss_nil)
    sss_nil)
  (sss_cons (ss_if (SE.t rfl (se_isE (k := (.own 8)) (x := "NoPlace") T.tx v_law_kinds_e g_law_kinds_isinstance (T.fr "isinstance" (by decide)) (T.fr "ValueError" (by decide)) (by decide +kernel)))
    (sss_cons (ss_app v_law_kinds_found rfl rfl (se_tup (sa_cons rfl (SE.v se_str) (sa_cons rfl (SE.v (se_attE T.tx v_law_kinds_e)) (sa_cons rfl (SE.v (se_repr T.sys rfl g_law_kinds_repr (T.fr "repr" (by decide)) (se_attE T.tx v_law_kinds_e))) sa_nil)))))
    sss_nil)
    sss_nil)
  (sss_cons (ss_ret (se_bin op_addM add_s (sx_var v_law_kinds_found) (SE.x (se_call (own_law_more_kinds T) (fun z => nomatch z) (by decide) g_law_kinds__law_more_kinds rfl (sa_cons rfl (sv_var v_law_kinds_e) sa_nil)))))
  sss_nil))))))))))
def m_law_kinds : MF := mFn n_law_kinds b_law_kinds
theorem own_law_kinds {w : Wd} (T : Top w) : Own w "_law_kinds" true 2 1 m_law_kinds := by
  obtain ⟨fd, Fd⟩ := T.d 3 (d := d_law_kinds) rfl
  exact ⟨_, fd, (["e"] : List Str), rfl, T.g "_law_kinds" (by decide), Fd.kp, Fd.bindsN fun _ _ _ _ _ _ us hl => match us, hl with | [_], _ => rfl, fn_body Fd sc_law_kinds (fun ex hex W => w_law_kinds T ex W)⟩
/-! ### _law_field -/
def n_law_field : List Str := ["pen", "way"]
def b_law_field : MS :=
  mSeq (mSet 1 (mCall 2 m_law_draw (mCons (mVarV 0) (mCons (mV (mC (.int 8))) (mNil)))))
  (mSeq (mIf (boolOf (mOp (eqOp) (mVarX 1) (mC (.int 0))))
    (mSeq (mRet (mLE (mLst (mCons (mV (mCall 2 m_law_draw (mCons (mVarV 0) (mCons (mV (mC (.int 100))) (mNil))))) (mCons (mV (mLE (mLst (mNil)))) (mNil))))))
    (mNx))
    (mNx))
  (mSeq (mIf (boolOf (mOp (eqOp) (mVarX 1) (mC (.int 1))))
    (mSeq (mRet (mTup (mCons (mV (mC (.str "a"))) (mCons (mV (mTup (mCons (mV (mCall 2 m_law_draw (mCons (mVarV 0) (mCons (mV (mOp powPV (mC (.int 10)) (mC (.int 6)))) (mNil))))) (mNil)))) (mNil)))))
    (mNx))
    (mNx))
  (mSeq (mRet (mCall 2 m_law_pick (mCons (mVarV 0) (mCons (mV (mLE (mLst (mCons (mV (mC .non)) (mCons (mV (mC (.bl true))) (mCons (mV (mC (.bl false))) (mCons (mV (mC (.int 0))) (mCons (mV (mNeg (mC (.int 1)))) (mCons (mV (mC (.str "x"))) (mCons (mV (mC (.str ""))) (mCons (mV (mOp powPV (mC (.int 10)) (mC (.int 40)))) (mCons (mV (mC (.dic [(.inr "k", .int 1)]))) (mNil))))))))))))) (mNil)))))
  (mNx))))
theorem v_law_field_pen : varOk ⟨defScope s_law_field, n_law_field, false, true⟩ 0 "pen" = true := by decide +kernel
theorem v_law_field_way : varOk ⟨defScope s_law_field, n_law_field, false, true⟩ 1 "way" = true := by decide +kernel
theorem t_law_field_way : stoOk ⟨defScope s_law_field, n_law_field, false, true⟩ 1 "way" = true := by decide +kernel
theorem g_law_field__law_draw : glB ⟨defScope s_law_field, n_law_field, false, true⟩ "_law_draw" = true := by decide +kernel
theorem g_law_field__law_pick : glB ⟨defScope s_law_field, n_law_field, false, true⟩ "_law_pick" = true := by decide +kernel
theorem sc_law_field : FnScope n_law_field (["pen"] : List Str) (defScope s_law_field) := ⟨rfl, rfl, rfl, by decide +kernel, rfl, by decide +kernel, by decide +kernel⟩
theorem w_law_field {w : Wd} (T : Top w) (W : WX) : SSs w ⟨defScope s_law_field, n_law_field, false, true⟩ 2 [] W (defBody s_law_field) b_law_field :=
  (sss_cons (ss_set t_law_field_way rfl (se_call (own_law_draw T) (fun _ => rfl) (by decide) g_law_field__law_draw rfl (sa_cons rfl (sv_var v_law_field_pen) (sa_cons rfl (SE.v se_int) sa_nil))))
  (sss_cons (ss_if (st_cmp op_eqM eq_s rfl (sx_var v_law_field_way) (SE.x se_int))
    (sss_cons (ss_ret (SL.e (sl_lst (sa_cons rfl (SE.v (se_call (own_law_draw T) (fun _ => rfl) (by decide) g_law_field__law_draw rfl (sa_cons rfl (sv_var v_law_field_pen) (sa_cons rfl (SE.v se_int) sa_nil)))) (sa_cons rfl (SE.v (SL.e (sl_lst sa_nil))) sa_nil)))))
    sss_nil)
    sss_nil)
  (sss_cons (ss_if (st_cmp op_eqM eq_s rfl (sx_var v_law_field_way) (SE.x se_int))
    (sss_cons (ss_ret (se_tup (sa_cons rfl (SE.v se_str) (sa_cons rfl (SE.v (se_tup (sa_cons rfl (SE.v (se_call (own_law_draw T) (fun _ => rfl) (by decide) g_law_field__law_draw rfl (sa_cons rfl (sv_var v_law_field_pen) (sa_cons rfl (SE.v (se_bin op_powM pow_s (SE.x se_int) (SE.x se_int))) sa_nil)))) sa_nil))) sa_nil))))
    sss_nil)
    sss_nil)
  (sss_cons (ss_ret (se_call (own_law_pick T) (fun _ => rfl) (by decide) g_law_field__law_pick rfl (sa_cons rfl (sv_var v_law_field_pen) (sa_cons rfl (SE.v (SL.e (sl_lst (sa_cons rfl (SE.v se_non) (sa_cons rfl (SE.v se_bl) (sa_cons rfl (SE.v se_bl) (sa_cons rfl (SE.v se_int) (sa_cons rfl (SE.v (se_neg se_int)) (sa_cons rfl (SE.v se_str) (sa_cons rfl (SE.v se_str) (sa_cons rfl (SE.v (se_bin op_powM pow_s (SE.x se_int) (SE.x se_int))) (sa_cons rfl (SE.v se_dic1) sa_nil)))))))))))) sa_nil))))
  sss_nil))))
def m_law_field : MF := mFn n_law_field b_law_field
theorem own_law_field {w : Wd} (T : Top w) : Own w "_law_field" false 3 1 m_law_field := by
  obtain ⟨fd, Fd⟩ := T.d 5 (d := d_law_field) rfl
  exact ⟨_, fd, (["pen"] : List Str), rfl, T.g "_law_field" (by decide), Fd.kp, Fd.bindsN fun _ _ _ _ _ _ us hl => match us, hl with | [_], _ => rfl, fn_body Fd sc_law_field (fun ex hex W => by
    obtain rfl := hex rfl
    exact w_law_field T W)⟩
/-! ### _law_raised -/
def n_law_raised : List Str := ["kind", "one", "two", "three"]
def b_law_raised : MS :=
  mSeq (mIf (boolOf (mOp (eqOp) (mVarX 0) (mC (.int 0))))
    (mSeq (mRaise 1 ["what", "number"] (mCons (mVarV 1) (mCons (mVarV 2) (mNil))))
    (mNx))
    (mNx))
  (mSeq (mIf (boolOf (mOp (eqOp) (mVarX 0) (mC (.int 1))))
    (mSeq (mRaise 2 ["what", "row"] (mCons (mVarV 1) (mCons (mVarV 2) (mNil))))
    (mNx))
    (mNx))
  (mSeq (mIf (boolOf (mOp (eqOp) (mVarX 0) (mC (.int 2))))
    (mSeq (mRaise 3 ["what"] (mCons (mVarV 1) (mNil)))
    (mNx))
    (mNx))
  (mSeq (mIf (boolOf (mOp (eqOp) (mVarX 0) (mC (.int 3))))
    (mSeq (mRaise 4 ["what"] (mCons (mVarV 1) (mNil)))
    (mNx))
    (mNx))
  (mSeq (mIf (boolOf (mOp (eqOp) (mVarX 0) (mC (.int 4))))
    (mSeq (mRaise 5 ["what", "lot"] (mCons (mVarV 1) (mCons (mVarV 2) (mNil))))
    (mNx))
    (mNx))
  (mSeq (mIf (boolOf (mOp (eqOp) (mVarX 0) (mC (.int 5))))
    (mSeq (mRaise 6 ["name"] (mCons (mVarV 1) (mNil)))
    (mNx))
    (mNx))
  (mSeq (mIf (boolOf (mOp (eqOp) (mVarX 0) (mC (.int 6))))
    (mSeq (mRaise 7 ["line", "word"] (mCons (mVarV 1) (mCons (mVarV 2) (mNil))))
    (mNx))
    (mNx))
  (mSeq (mIf (boolOf (mOp (eqOp) (mVarX 0) (mC (.int 7))))
    (mSeq (mRaise 8 ["what", "index"] (mCons (mVarV 1) (mCons (mVarV 2) (mNil))))
    (mNx))
    (mNx))
  (mNx))))))))
theorem v_law_raised_kind : varOk ⟨defScope s_law_raised, n_law_raised, false, true⟩ 0 "kind" = true := by decide +kernel
theorem v_law_raised_one : varOk ⟨defScope s_law_raised, n_law_raised, false, true⟩ 1 "one" = true := by decide +kernel
theorem v_law_raised_two : varOk ⟨defScope s_law_raised, n_law_raised, false, true⟩ 2 "two" = true := by decide +kernel
theorem g_law_raised_BadLot : glB ⟨defScope s_law_raised, n_law_raised, false, true⟩ "BadLot" = true := by decide +kernel
theorem g_law_raised_BadName : glB ⟨defScope s_law_raised, n_law_raised, false, true⟩ "BadName" = true := by decide +kernel
theorem g_law_raised_BadNumber : glB ⟨defScope s_law_raised, n_law_raised, false, true⟩ "BadNumber" = true := by decide +kernel
theorem g_law_raised_BadPoly : glB ⟨defScope s_law_raised, n_law_raised, false, true⟩ "BadPoly" = true := by decide +kernel
theorem g_law_raised_BadRow : glB ⟨defScope s_law_raised, n_law_raised, false, true⟩ "BadRow" = true := by decide +kernel
theorem g_law_raised_BadTable : glB ⟨defScope s_law_raised, n_law_raised, false, true⟩ "BadTable" = true := by decide +kernel
theorem g_law_raised_BadText : glB ⟨defScope s_law_raised, n_law_raised, false, true⟩ "BadText" = true := by decide +kernel
theorem g_law_raised_NoPlace : glB ⟨defScope s_law_raised, n_law_raised, false, true⟩ "NoPlace" = true := by decide +kernel
theorem sc_law_raised : FnScope n_law_raised (["kind", "one", "two", "three"] : List Str) (defScope s_law_raised) := ⟨rfl, rfl, rfl, by decide +kernel, rfl, by decide +kernel, by decide +kernel⟩
theorem w_law_raised {w : Wd} (T : Top w) (W : WX) : SSs w ⟨defScope s_law_raised, n_law_raised, false, true⟩ 2 [] W (defBody s_law_raised) b_law_raised :=
  (sss_cons (ss_if (st_cmp op_eqM eq_s rfl (sx_var v_law_raised_kind) (SE.x se_int))
    (sss_cons (ss_raise T.te (c := 1) (by decide) rfl rfl rfl (by simp) g_law_raised_BadNumber rfl (sa_cons rfl (sv_var v_law_raised_one) (sa_cons rfl (sv_var v_law_raised_two) sa_nil)))
    sss_nil)
    sss_nil)
  (sss_cons (ss_if (st_cmp op_eqM eq_s rfl (sx_var v_law_raised_kind) (SE.x se_int))
    (sss_cons (ss_raise T.te (c := 2) (by decide) rfl rfl rfl (by simp) g_law_raised_BadRow rfl (sa_cons rfl (sv_var v_law_raised_one) (sa_cons rfl (sv_var v_law_raised_two) sa_nil)))
    sss_nil)
    sss_nil)
  (sss_cons (ss_if (st_cmp op_eqM eq_s rfl (sx_var v_law_raised_kind) (SE.x se_int))
    (sss_cons (ss_raise T.te (c := 3) (by decide) rfl rfl rfl (by simp) g_law_raised_BadTable rfl (sa_cons rfl (sv_var v_law_raised_one) sa_nil))
    sss_nil)
    sss_nil)
  (sss_cons (ss_if (st_cmp op_eqM eq_s rfl (sx_var v_law_raised_kind) (SE.x se_int))
    (sss_cons (ss_raise T.te (c := 4) (by decide) rfl rfl rfl (by simp) g_law_raised_BadPoly rfl (sa_cons rfl (sv_var v_law_raised_one) sa_nil))
    sss_nil)
    sss_nil)
  (sss_cons (ss_if (st_cmp op_eqM eq_s rfl (sx_var v_law_raised_kind) (SE.x se_int))
    (sss_cons (ss_raise T.te (c := 5) (by decide) rfl rfl rfl (by simp) g_law_raised_BadLot rfl (sa_cons rfl (sv_var v_law_raised_one) (sa_cons rfl (sv_var v_law_raised_two) sa_nil)))
    sss_nil)
    sss_nil)
  (sss_cons (ss_if (st_cmp op_eqM eq_s rfl (sx_var v_law_raised_kind) (SE.x se_int))
    (sss_cons (ss_raise T.te (c := 6) (by decide) rfl rfl rfl (by simp) g_law_raised_BadName rfl (sa_cons rfl (sv_var v_law_raised_one) sa_nil))
    sss_nil)
    sss_nil)
  (sss_cons (ss_if (st_cmp op_eqM eq_s rfl (sx_var v_law_raised_kind) (SE.x se_int))
    (sss_cons (ss_raise T.te (c := 7) (by decide) rfl rfl rfl (by simp) g_law_raised_BadText rfl (sa_cons rfl (sv_var v_law_raised_one) (sa_cons rfl (sv_var v_law_raised_two) sa_nil)))
    sss_nil)
    sss_nil)
  (sss_cons (ss_if (st_cmp op_eqM eq_s rfl (sx_var v_law_raised_kind) (SE.x se_int))
    (sss_cons (ss_raise T.te (c := 8) (by decide) rfl rfl rfl (by simp) g_law_raised_NoPlace rfl (sa_cons rfl (sv_var v_law_raised_one) (sa_cons rfl (sv_var v_law_raised_two) sa_nil)))
    sss_nil)
    sss_nil)
  sss_nil))))))))
def m_law_raised : MF := mFn n_law_raised b_law_raised
theorem own_law_raised {w : Wd} (T : Top w) : Own w "_law_raised" false 3 4 m_law_raised := by
  obtain ⟨fd, Fd⟩ := T.d 6 (d := d_law_raised) rfl
  exact ⟨_, fd, (["kind", "one", "two", "three"] : List Str), rfl, T.g "_law_raised" (by decide), Fd.kp, Fd.bindsN fun _ _ _ _ _ _ us hl => match us, hl with | [_, _, _, _], _ => rfl, fn_body Fd sc_law_raised (fun ex hex W => by
    obtain rfl := hex rfl
    exact w_law_raised T W)⟩
/-! ### _law_raised_too -/
def n_law_raised_too : List Str := ["kind", "one", "two", "three"]
def b_law_raised_too : MS :=
  mSeq (mIf (boolOf (mOp (eqOp) (mVarX 0) (mC (.int 8))))
    (mSeq (mRaise 9 ["name"] (mCons (mVarV 1) (mNil)))
    (mNx))
    (mNx))
  (mSeq (mIf (boolOf (mOp (eqOp) (mVarX 0) (mC (.int 9))))
    (mSeq (mRaise 10 ["name"] (mCons (mVarV 1) (mNil)))
    (mNx))
    (mNx))
  (mSeq (mIf (boolOf (mOp (eqOp) (mVarX 0) (mC (.int 10))))
    (mSeq (mRaise 11 ["what"] (mCons (mVarV 1) (mNil)))
    (mNx))
    (mNx))
  (mSeq (mIf (boolOf (mOp (eqOp) (mVarX 0) (mC (.int 11))))
    (mSeq (mRaise 12 ["paper"] (mCons (mVarV 1) (mNil)))
    (mNx))
    (mNx))
  (mSeq (mIf (boolOf (mOp (eqOp) (mVarX 0) (mC (.int 12))))
    (mSeq (mRaise 13 ["what", "many", "limit"] (mCons (mVarV 1) (mCons (mVarV 2) (mCons (mVarV 3) (mNil)))))
    (mNx))
    (mNx))
  (mSeq (mIf (boolOf (mOp (eqOp) (mVarX 0) (mC (.int 13))))
    (mSeq (mRaise 14 ["promise", "witness"] (mCons (mVarV 1) (mCons (mVarV 2) (mNil))))
    (mNx))
    (mNx))
  (mSeq (mIf (boolOf (mOp (eqOp) (mVarX 0) (mC (.int 14))))
    (mSeq (mRaise0 15)
    (mNx))
    (mNx))
  (mSeq (mIf (boolOf (mOp (eqOp) (mVarX 0) (mC (.int 15))))
    (mSeq (mRaise0 16)
    (mNx))
    (mNx))
  (mNx))))))))
theorem v_law_raised_too_kind : varOk ⟨defScope s_law_raised_too, n_law_raised_too, false, true⟩ 0 "kind" = true := by decide +kernel
theorem v_law_raised_too_one : varOk ⟨defScope s_law_raised_too, n_law_raised_too, false, true⟩ 1 "one" = true := by decide +kernel
theorem v_law_raised_too_three : varOk ⟨defScope s_law_raised_too, n_law_raised_too, false, true⟩ 3 "three" = true := by decide +kernel
theorem v_law_raised_too_two : varOk ⟨defScope s_law_raised_too, n_law_raised_too, false, true⟩ 2 "two" = true := by decide +kernel
theorem g_law_raised_too_NoName : glB ⟨defScope s_law_raised_too, n_law_raised_too, false, true⟩ "NoName" = true := by decide +kernel
theorem g_law_raised_too_NotKept : glB ⟨defScope s_law_raised_too, n_law_raised_too, false, true⟩ "NotKept" = true := by decide +kernel
theorem g_law_raised_too_NotThere : glB ⟨defScope s_law_raised_too, n_law_raised_too, false, true⟩ "NotThere" = true := by decide +kernel
theorem g_law_raised_too_NothingToRedo : glB ⟨defScope s_law_raised_too, n_law_raised_too, false, true⟩ "NothingToRedo" = true := by decide +kernel
theorem g_law_raised_too_NothingToUndo : glB ⟨defScope s_law_raised_too, n_law_raised_too, false, true⟩ "NothingToUndo" = true := by decide +kernel
theorem g_law_raised_too_TakenName : glB ⟨defScope s_law_raised_too, n_law_raised_too, false, true⟩ "TakenName" = true := by decide +kernel
theorem g_law_raised_too_TooMany : glB ⟨defScope s_law_raised_too, n_law_raised_too, false, true⟩ "TooMany" = true := by decide +kernel
theorem g_law_raised_too_Unlike : glB ⟨defScope s_law_raised_too, n_law_raised_too, false, true⟩ "Unlike" = true := by decide +kernel
theorem sc_law_raised_too : FnScope n_law_raised_too (["kind", "one", "two", "three"] : List Str) (defScope s_law_raised_too) := ⟨rfl, rfl, rfl, by decide +kernel, rfl, by decide +kernel, by decide +kernel⟩
theorem w_law_raised_too {w : Wd} (T : Top w) (W : WX) : SSs w ⟨defScope s_law_raised_too, n_law_raised_too, false, true⟩ 2 [] W (defBody s_law_raised_too) b_law_raised_too :=
  (sss_cons (ss_if (st_cmp op_eqM eq_s rfl (sx_var v_law_raised_too_kind) (SE.x se_int))
    (sss_cons (ss_raise T.te (c := 9) (by decide) rfl rfl rfl (by simp) g_law_raised_too_NoName rfl (sa_cons rfl (sv_var v_law_raised_too_one) sa_nil))
    sss_nil)
    sss_nil)
  (sss_cons (ss_if (st_cmp op_eqM eq_s rfl (sx_var v_law_raised_too_kind) (SE.x se_int))
    (sss_cons (ss_raise T.te (c := 10) (by decide) rfl rfl rfl (by simp) g_law_raised_too_TakenName rfl (sa_cons rfl (sv_var v_law_raised_too_one) sa_nil))
    sss_nil)
    sss_nil)
  (sss_cons (ss_if (st_cmp op_eqM eq_s rfl (sx_var v_law_raised_too_kind) (SE.x se_int))
    (sss_cons (ss_raise T.te (c := 11) (by decide) rfl rfl rfl (by simp) g_law_raised_too_Unlike rfl (sa_cons rfl (sv_var v_law_raised_too_one) sa_nil))
    sss_nil)
    sss_nil)
  (sss_cons (ss_if (st_cmp op_eqM eq_s rfl (sx_var v_law_raised_too_kind) (SE.x se_int))
    (sss_cons (ss_raise T.te (c := 12) (by decide) rfl rfl rfl (by simp) g_law_raised_too_NotThere rfl (sa_cons rfl (sv_var v_law_raised_too_one) sa_nil))
    sss_nil)
    sss_nil)
  (sss_cons (ss_if (st_cmp op_eqM eq_s rfl (sx_var v_law_raised_too_kind) (SE.x se_int))
    (sss_cons (ss_raise T.te (c := 13) (by decide) rfl rfl rfl (by simp) g_law_raised_too_TooMany rfl (sa_cons rfl (sv_var v_law_raised_too_one) (sa_cons rfl (sv_var v_law_raised_too_two) (sa_cons rfl (sv_var v_law_raised_too_three) sa_nil))))
    sss_nil)
    sss_nil)
  (sss_cons (ss_if (st_cmp op_eqM eq_s rfl (sx_var v_law_raised_too_kind) (SE.x se_int))
    (sss_cons (ss_raise T.te (c := 14) (by decide) rfl rfl rfl (by simp) g_law_raised_too_NotKept rfl (sa_cons rfl (sv_var v_law_raised_too_one) (sa_cons rfl (sv_var v_law_raised_too_two) sa_nil)))
    sss_nil)
    sss_nil)
  (sss_cons (ss_if (st_cmp op_eqM eq_s rfl (sx_var v_law_raised_too_kind) (SE.x se_int))
    (sss_cons (ss_raise0 T.te (c := 15) rfl rfl rfl rfl g_law_raised_too_NothingToUndo)
    sss_nil)
    sss_nil)
  (sss_cons (ss_if (st_cmp op_eqM eq_s rfl (sx_var v_law_raised_too_kind) (SE.x se_int))
    (sss_cons (ss_raise0 T.te (c := 16) rfl rfl rfl rfl g_law_raised_too_NothingToRedo)
    sss_nil)
    sss_nil)
  sss_nil))))))))
def m_law_raised_too : MF := mFn n_law_raised_too b_law_raised_too
theorem own_law_raised_too {w : Wd} (T : Top w) : Own w "_law_raised_too" false 3 4 m_law_raised_too := by
  obtain ⟨fd, Fd⟩ := T.d 7 (d := d_law_raised_too) rfl
  exact ⟨_, fd, (["kind", "one", "two", "three"] : List Str), rfl, T.g "_law_raised_too" (by decide), Fd.kp, Fd.bindsN fun _ _ _ _ _ _ us hl => match us, hl with | [_, _, _, _], _ => rfl, fn_body Fd sc_law_raised_too (fun ex hex W => by
    obtain rfl := hex rfl
    exact w_law_raised_too T W)⟩
/-! ### _law_told -/
def n_law_told : List Str := ["kind", "one", "two", "three", "found", "e"]
def b_law_told : MS :=
  mSeq (mSet 4 (mC .non))
  (mSeq (mTry exts.length 5
    (mSeq (mExpr (mCall 4 m_law_raised (mCons (mVarV 0) (mCons (mVarV 1) (mCons (mVarV 2) (mCons (mVarV 3) (mNil)))))))
    (mSeq (mExpr (mCall 4 m_law_raised_too (mCons (mVarV 0) (mCons (mVarV 1) (mCons (mVarV 2) (mCons (mVarV 3) (mNil)))))))
    (mNx)))
    (mSeq (mIf (boolOf (mIsE 17 0 5 .ve))
      (mSeq (mSet 4 (mCall 1 m_law_kinds (mCons (mVarV 5) (mNil))))
      (mNx))
      (mNx))
    (mNx)))
  (mSeq (mRet (mVar 4))
  (mNx)))
theorem v_law_told_h_e : varOk ⟨defScope s_law_told, n_law_told, true, true⟩ 5 "e" = true := by decide +kernel
theorem v_law_told_found : varOk ⟨defScope s_law_told, n_law_told, false, true⟩ 4 "found" = true := by decide +kernel
theorem v_law_told_h_found : varOk ⟨defScope s_law_told, n_law_told, true, true⟩ 4 "found" = true := by decide +kernel
theorem v_law_told_kind : varOk ⟨defScope s_law_told, n_law_told, false, true⟩ 0 "kind" = true := by decide +kernel
theorem v_law_told_one : varOk ⟨defScope s_law_told, n_law_told, false, true⟩ 1 "one" = true := by decide +kernel
theorem v_law_told_three : varOk ⟨defScope s_law_told, n_law_told, false, true⟩ 3 "three" = true := by decide +kernel
theorem v_law_told_two : varOk ⟨defScope s_law_told, n_law_told, false, true⟩ 2 "two" = true := by decide +kernel
theorem t_law_told_found : stoOk ⟨defScope s_law_told, n_law_told, false, true⟩ 4 "found" = true := by decide +kernel
theorem t_law_told_h_found : stoOk ⟨defScope s_law_told, n_law_told, true, true⟩ 4 "found" = true := by decide +kernel
theorem g_law_told_PlusError : glB ⟨defScope s_law_told, n_law_told, false, true⟩ "PlusError" = true := by decide +kernel
theorem g_law_told_h__law_kinds : glB ⟨defScope s_law_told, n_law_told, true, true⟩ "_law_kinds" = true := by decide +kernel
theorem g_law_told__law_raised : glB ⟨defScope s_law_told, n_law_told, false, true⟩ "_law_raised" = true := by decide +kernel
theorem g_law_told__law_raised_too : glB ⟨defScope s_law_told, n_law_told, false, true⟩ "_law_raised_too" = true := by decide +kernel
theorem g_law_told_h_isinstance : glB ⟨defScope s_law_told, n_law_told, true, true⟩ "isinstance" = true := by decide +kernel
theorem sc_law_told : FnScope n_law_told (["kind", "one", "two", "three"] : List Str) (defScope s_law_told) := ⟨rfl, rfl, rfl, by decide +kernel, rfl, by decide +kernel, by decide +kernel⟩
theorem w_law_told {w : Wd} (T : Top w) (W : WX) : SSs w ⟨defScope s_law_told, n_law_told, false, true⟩ 3 [] W (defBody s_law_told) b_law_told :=
  (sss_cons (ss_set t_law_told_found rfl se_non)
  (sss_cons (ss_try T.tx (root := 0) rfl rfl rfl g_law_told_PlusError (by decide +kernel) (by decide +kernel)
    (fun W => (sss_cons (ss_expr rfl (se_call (own_law_raised T) (fun _ => rfl) (by decide) g_law_told__law_raised rfl (sa_cons rfl (sv_var v_law_told_kind) (sa_cons rfl (sv_var v_law_told_one) (sa_cons rfl (sv_var v_law_told_two) (sa_cons rfl (sv_var v_law_told_three) sa_nil))))))
    (sss_cons (ss_expr rfl (se_call (own_law_raised_too T) (fun _ => rfl) (by decide) g_law_told__law_raised_too rfl (sa_cons rfl (sv_var v_law_told_kind) (sa_cons rfl (sv_var v_law_told_one) (sa_cons rfl (sv_var v_law_told_two) (sa_cons rfl (sv_var v_law_told_three) sa_nil))))))
    sss_nil)))
    (fun ex => (sss_cons (ss_if (SE.t rfl (se_isE (k := .ve) (x := "ValueError") T.tx v_law_told_h_e g_law_told_h_isinstance (T.fr "isinstance" (by decide)) (T.fr "ValueError" (by decide)) (by decide +kernel)))
      (sss_cons (ss_set t_law_told_h_found rfl (se_call (own_law_kinds T) (fun z => nomatch z) (by decide) g_law_told_h__law_kinds rfl (sa_cons rfl (sv_var v_law_told_h_e) sa_nil)))
      sss_nil)
      sss_nil)
    sss_nil)))
  (sss_cons (ss_ret (se_var v_law_told_found))
  sss_nil)))
def m_law_told : MF := mFn n_law_told b_law_told
theorem own_law_told {w : Wd} (T : Top w) : Own w "_law_told" false 4 4 m_law_told := by
  obtain ⟨fd, Fd⟩ := T.d 8 (d := d_law_told) rfl
  exact ⟨_, fd, (["kind", "one", "two", "three"] : List Str), rfl, T.g "_law_told" (by decide), Fd.kp, Fd.bindsN fun _ _ _ _ _ _ us hl => match us, hl with | [_, _, _, _], _ => rfl, fn_body Fd sc_law_told (fun ex hex W => by
    obtain rfl := hex rfl
    exact w_law_told T W)⟩
/-! ### _law_due -/
def n_law_due : List Str := ["kind", "one", "two", "three", "words"]
def b_law_due : MS :=
  mSeq (mSet 4 (mLE (mLst (mCons (mV (mC (.str "number"))) (mCons (mV (mC (.str "row"))) (mCons (mV (mC (.str "table"))) (mCons (mV (mC (.str "poly"))) (mCons (mV (mC (.str "lot"))) (mCons (mV (mC (.str "badname"))) (mCons (mV (mC (.str "text"))) (mCons (mV (mC (.str "place"))) (mCons (mV (mC (.str "noname"))) (mCons (mV (mC (.str "taken"))) (mCons (mV (mC (.str "unlike"))) (mCons (mV (mC (.str "notthere"))) (mNil))))))))))))))))
  (mSeq (mSet 4 (mOp addPV (mVarX 4) (mLE (mLst (mCons (mV (mC (.str "many"))) (mCons (mV (mC (.str "kept"))) (mCons (mV (mC (.str "undo"))) (mCons (mV (mC (.str "redo"))) (mNil)))))))))
  (mSeq (mIf (boolOf (mOp (inPV false) (mVarX 0) (mTup (mCons (mV (mC (.int 0))) (mCons (mV (mC (.int 1))) (mCons (mV (mC (.int 4))) (mCons (mV (mC (.int 7))) (mNil))))))))
    (mSeq (mRet (mTup (mCons (mV (mOp ixPV (mVarX 4) (mVarX 0))) (mCons (mVarV 1) (mCons (mV (mOne reprPV (mVar 2))) (mNil))))))
    (mNx))
    (mNx))
  (mSeq (mIf (boolOf (mOp (inPV false) (mVarX 0) (mTup (mCons (mV (mC (.int 2))) (mCons (mV (mC (.int 3))) (mCons (mV (mC (.int 10))) (mCons (mV (mC (.int 11))) (mNil))))))))
    (mSeq (mRet (mTup (mCons (mV (mOp ixPV (mVarX 4) (mVarX 0))) (mCons (mVarV 1) (mNil)))))
    (mNx))
    (mNx))
  (mSeq (mIf (boolOf (mOp (inPV false) (mVarX 0) (mTup (mCons (mV (mC (.int 5))) (mCons (mV (mC (.int 8))) (mCons (mV (mC (.int 9))) (mNil)))))))
    (mSeq (mRet (mTup (mCons (mV (mOp ixPV (mVarX 4) (mVarX 0))) (mCons (mV (mOne reprPV (mVar 1))) (mNil)))))
    (mNx))
    (mNx))
  (mSeq (mIf (boolOf (mOp (inPV false) (mVarX 0) (mTup (mCons (mV (mC (.int 6))) (mCons (mV (mC (.int 13))) (mNil))))))
    (mSeq (mRet (mTup (mCons (mV (mOp ixPV (mVarX 4) (mVarX 0))) (mCons (mVarV 1) (mCons (mVarV 2) (mNil))))))
    (mNx))
    (mNx))
  (mSeq (mRet (mIte (boolOf (mOp (eqOp) (mVarX 0) (mC (.int 12)))) (mTup (mCons (mV (mOp ixPV (mVarX 4) (mVarX 0))) (mCons (mVarV 1) (mCons (mVarV 2) (mCons (mVarV 3) (mNil)))))) (mTup (mCons (mV (mOp ixPV (mVarX 4) (mVarX 0))) (mNil)))))
  (mNx)))))))
theorem v_law_due_kind : varOk ⟨defScope s_law_due, n_law_due, false, true⟩ 0 "kind" = true := by decide +kernel
theorem v_law_due_one : varOk ⟨defScope s_law_due, n_law_due, false, true⟩ 1 "one" = true := by decide +kernel
theorem v_law_due_three : varOk ⟨defScope s_law_due, n_law_due, false, true⟩ 3 "three" = true := by decide +kernel
theorem v_law_due_two : varOk ⟨defScope s_law_due, n_law_due, false, true⟩ 2 "two" = true := by decide +kernel
theorem v_law_due_words : varOk ⟨defScope s_law_due, n_law_due, false, true⟩ 4 "words" = true := by decide +kernel
theorem t_law_due_words : stoOk ⟨defScope s_law_due, n_law_due, false, true⟩ 4 "words" = true := by decide +kernel
theorem g_law_due_repr : glB ⟨defScope s_law_due, n_law_due, false, true⟩ "repr" = true := by decide +kernel
theorem sc_law_due : FnScope n_law_due (["kind", "one", "two", "three"] : List Str) (defScope s_law_due) := ⟨rfl, rfl, rfl, by decide +kernel, rfl, by decide +kernel, by decide +kernel⟩
theorem w_law_due {w : Wd} (T : Top w) (W : WX) : SSs w ⟨defScope s_law_due, n_law_due, false, true⟩ 0 [] W (defBody s_law_due) b_law_due :=
  (sss_cons (ss_set t_law_due_words rfl (SL.e (sl_lst (sa_cons rfl (SE.v se_str) (sa_cons rfl (SE.v se_str) (sa_cons rfl (SE.v se_str) (sa_cons rfl (SE.v se_str) (sa_cons rfl (SE.v se_str) (sa_cons rfl (SE.v se_str) (sa_cons rfl (SE.v se_str) (sa_cons rfl (SE.v se_str) (sa_cons rfl (SE.v se_str) (sa_cons rfl (SE.v se_str) (sa_cons rfl (SE.v se_str) (sa_cons rfl (SE.v se_str) sa_nil)))))))))))))))
  (sss_cons (ss_set t_law_due_words rfl (se_bin op_addM add_s (sx_var v_law_due_words) (SL.x (sl_lst (sa_cons rfl (SE.v se_str) (sa_cons rfl (SE.v se_str) (sa_cons rfl (SE.v se_str) (sa_cons rfl (SE.v se_str) sa_nil))))))))
  (sss_cons (ss_if (st_cmp op_inM in_s rfl (sx_var v_law_due_kind) (SE.x (se_tup (sa_cons rfl (SE.v se_int) (sa_cons rfl (SE.v se_int) (sa_cons rfl (SE.v se_int) (sa_cons rfl (SE.v se_int) sa_nil)))))))
    (sss_cons (ss_ret (se_tup (sa_cons rfl (SE.v (se_ix rfl (sx_var v_law_due_words) (sx_var v_law_due_kind))) (sa_cons rfl (sv_var v_law_due_one) (sa_cons rfl (SE.v (se_repr T.sys rfl g_law_due_repr (T.fr "repr" (by decide)) (se_var v_law_due_two))) sa_nil)))))
    sss_nil)
    sss_nil)
  (sss_cons (ss_if (st_cmp op_inM in_s rfl (sx_var v_law_due_kind) (SE.x (se_tup (sa_cons rfl (SE.v se_int) (sa_cons rfl (SE.v se_int) (sa_cons rfl (SE.v se_int) (sa_cons rfl (SE.v se_int) sa_nil)))))))
    (sss_cons (ss_ret (se_tup (sa_cons rfl (SE.v (se_ix rfl (sx_var v_law_due_words) (sx_var v_law_due_kind))) (sa_cons rfl (sv_var v_law_due_one) sa_nil))))
    sss_nil)
    sss_nil)
  (sss_cons (ss_if (st_cmp op_inM in_s rfl (sx_var v_law_due_kind) (SE.x (se_tup (sa_cons rfl (SE.v se_int) (sa_cons rfl (SE.v se_int) (sa_cons rfl (SE.v se_int) sa_nil))))))
    (sss_cons (ss_ret (se_tup (sa_cons rfl (SE.v (se_ix rfl (sx_var v_law_due_words) (sx_var v_law_due_kind))) (sa_cons rfl (SE.v (se_repr T.sys rfl g_law_due_repr (T.fr "repr" (by decide)) (se_var v_law_due_one))) sa_nil))))
    sss_nil)
    sss_nil)
  (sss_cons (ss_if (st_cmp op_inM in_s rfl (sx_var v_law_due_kind) (SE.x (se_tup (sa_cons rfl (SE.v se_int) (sa_cons rfl (SE.v se_int) sa_nil)))))
    (sss_cons (ss_ret (se_tup (sa_cons rfl (SE.v (se_ix rfl (sx_var v_law_due_words) (sx_var v_law_due_kind))) (sa_cons rfl (sv_var v_law_due_one) (sa_cons rfl (sv_var v_law_due_two) sa_nil)))))
    sss_nil)
    sss_nil)
  (sss_cons (ss_ret (se_ite (st_cmp op_eqM eq_s rfl (sx_var v_law_due_kind) (SE.x se_int)) (se_tup (sa_cons rfl (SE.v (se_ix rfl (sx_var v_law_due_words) (sx_var v_law_due_kind))) (sa_cons rfl (sv_var v_law_due_one) (sa_cons rfl (sv_var v_law_due_two) (sa_cons rfl (sv_var v_law_due_three) sa_nil))))) (se_tup (sa_cons rfl (SE.v (se_ix rfl (sx_var v_law_due_words) (sx_var v_law_due_kind))) sa_nil))))
  sss_nil)))))))
def m_law_due : MF := mFn n_law_due b_law_due
theorem own_law_due {w : Wd} (T : Top w) : Own w "_law_due" false 1 4 m_law_due := by
  obtain ⟨fd, Fd⟩ := T.d 9 (d := d_law_due) rfl
  exact ⟨_, fd, (["kind", "one", "two", "three"] : List Str), rfl, T.g "_law_due" (by decide), Fd.kp, Fd.bindsN fun _ _ _ _ _ _ us hl => match us, hl with | [_, _, _, _], _ => rfl, fn_body Fd sc_law_due (fun ex hex W => by
    obtain rfl := hex rfl
    exact w_law_due T W)⟩
/-! ### law -/
def n_law : List Str := ["script", "pen", "kind", "one", "two", "three", "told"]
def b_law : MS :=
  mSeq (mFor (fName 2) (mRange1 (mC (.int 16)))
    (mSeq (mPar3 3 4 5 (mCons (mV (mCall 1 m_law_field (mCons (mVarV 1) (mNil)))) (mCons (mV (mCall 1 m_law_field (mCons (mVarV 1) (mNil)))) (mCons (mV (mCall 1 m_law_field (mCons (mVarV 1) (mNil)))) (mNil)))))
    (mSeq (mSet 6 (mCall 4 m_law_told (mCons (mVarV 2) (mCons (mVarV 3) (mCons (mVarV 4) (mCons (mVarV 5) (mNil)))))))
    (mSeq (mIf (mOrT (boolOf (mIsN false (mVarX 6))) (mOrT (boolOf (mOp (neOp) (mBlt lenPV (mConsX (mVarX 6) (mNilX))) (mC (.int 1)))) (boolOf (mOp (neOp) (mOne reprPV (mOp ixPV (mVarX 6) (mC (.int 0)))) (mOne reprPV (mCall 4 m_law_due (mCons (mVarV 2) (mCons (mVarV 3) (mCons (mVarV 4) (mCons (mVarV 5) (mNil)))))))))))
      (mSeq (mRet (mC (.bl false)))
      (mNx))
      (mNx))
    (mNx)))))
  (mSeq (mRet (mC (.bl true)))
  (mNx))
theorem v_law_kind : varOk ⟨defScope s_law, n_law, false, true⟩ 2 "kind" = true := by decide +kernel
theorem v_law_one : varOk ⟨defScope s_law, n_law, false, true⟩ 3 "one" = true := by decide +kernel
theorem v_law_pen : varOk ⟨defScope s_law, n_law, false, true⟩ 1 "pen" = true := by decide +kernel
theorem v_law_three : varOk ⟨defScope s_law, n_law, false, true⟩ 5 "three" = true := by decide +kernel
theorem v_law_told : varOk ⟨defScope s_law, n_law, false, true⟩ 6 "told" = true := by decide +kernel
theorem v_law_two : varOk ⟨defScope s_law, n_law, false, true⟩ 4 "two" = true := by decide +kernel
theorem t_law_kind : stoOk ⟨defScope s_law, n_law, false, true⟩ 2 "kind" = true := by decide +kernel
theorem t_law_told : stoOk ⟨defScope s_law, n_law, false, true⟩ 6 "told" = true := by decide +kernel
theorem g_law__law_due : glB ⟨defScope s_law, n_law, false, true⟩ "_law_due" = true := by decide +kernel
theorem g_law__law_field : glB ⟨defScope s_law, n_law, false, true⟩ "_law_field" = true := by decide +kernel
theorem g_law__law_told : glB ⟨defScope s_law, n_law, false, true⟩ "_law_told" = true := by decide +kernel
theorem g_law_len : glB ⟨defScope s_law, n_law, false, true⟩ "len" = true := by decide +kernel
theorem g_law_range : glB ⟨defScope s_law, n_law, false, true⟩ "range" = true := by decide +kernel
theorem g_law_repr : glB ⟨defScope s_law, n_law, false, true⟩ "repr" = true := by decide +kernel
theorem sc_law : FnScope n_law (["script"] : List Str) (defScope s_law) := ⟨rfl, rfl, rfl, by decide +kernel, rfl, by decide +kernel, by decide +kernel⟩
theorem w_law {w : Wd} (T : Top w) (W : WX) : SSs w ⟨defScope s_law, n_law, false, true⟩ 4 [] W (defBody s_law).tail b_law :=
  (sss_cons (ss_for rfl rfl (sg_name t_law_kind) (si_range1 rfl g_law_range (T.fr "range" (by decide)) se_int)
    (sss_cons (ss_par3 (i := 3) (j := 4) (l := 5) rfl (by decide +kernel) (by decide) (by decide +kernel) (by decide) (by decide +kernel) rfl (by decide +kernel) (by decide +kernel) (sa_cons rfl (SE.v (se_call (own_law_field T) (fun _ => rfl) (by decide) g_law__law_field rfl (sa_cons rfl (sv_var v_law_pen) sa_nil))) (sa_cons rfl (SE.v (se_call (own_law_field T) (fun _ => rfl) (by decide) g_law__law_field rfl (sa_cons rfl (sv_var v_law_pen) sa_nil))) (sa_cons rfl (SE.v (se_call (own_law_field T) (fun _ => rfl) (by decide) g_law__law_field rfl (sa_cons rfl (sv_var v_law_pen) sa_nil))) sa_nil))))
    (sss_cons (ss_set t_law_told rfl (se_call (own_law_told T) (fun _ => rfl) (by decide) g_law__law_told rfl (sa_cons rfl (sv_var v_law_kind) (sa_cons rfl (sv_var v_law_one) (sa_cons rfl (sv_var v_law_two) (sa_cons rfl (sv_var v_law_three) sa_nil))))))
    (sss_cons (ss_if (SW.t (sw_or (st_isN (sx_var v_law_told)) (sw_or (st_cmp op_neM ne_s rfl (SE.x (se_blt call_lenM len_s g_law_len (T.fr "len" (by decide)) boot_len rfl (sxa_cons rfl (sx_var v_law_told) sxa_nil))) (SE.x se_int)) (sw_one (st_cmp op_neM ne_s rfl (SE.x (se_repr T.sys rfl g_law_repr (T.fr "repr" (by decide)) (se_ix rfl (sx_var v_law_told) (SE.x se_int)))) (SE.x (se_repr T.sys rfl g_law_repr (T.fr "repr" (by decide)) (se_call (own_law_due T) (fun _ => rfl) (by decide) g_law__law_due rfl (sa_cons rfl (sv_var v_law_kind) (sa_cons rfl (sv_var v_law_one) (sa_cons rfl (sv_var v_law_two) (sa_cons rfl (sv_var v_law_three) sa_nil))))))))))))
      (sss_cons (ss_ret se_bl)
      sss_nil)
      sss_nil)
    sss_nil))))
  (sss_cons (ss_ret se_bl)
  sss_nil))

theorem raised0 (a b c : PV) (st : Pen) : m_law_raised [.pv (.int 0), .pv a, .pv b, .pv c] st = .exn 1 [("what", a), ("number", b)] st := rfl
theorem lk1_what (a b c : PV) : List.lookup (Str.ofString "what") ([(Str.ofString "what", a), (Str.ofString "number", b)] : List (Str × PV)) = some a := rfl
theorem fo1_what : fieldOk exts 1 (Str.ofString "what") = true := rfl
theorem lk1_number (a b c : PV) : List.lookup (Str.ofString "number") ([(Str.ofString "what", a), (Str.ofString "number", b)] : List (Str × PV)) = some b := rfl
theorem fo1_number : fieldOk exts 1 (Str.ofString "number") = true := rfl
theorem more1 (fs : List (Str × PV)) (st : Pen) : m_law_more_kinds [.err 1 fs] st = .ok (.lst []) st := rfl
theorem kinds1 (a b c sa sb : PV) (ha : reprPV a = some sa) (hb : reprPV b = some sb) (st : Pen) : m_law_kinds [.err 1 [("what", a), ("number", b)]] st = .ok (.lst [.tup [.str "number", a, sb]]) st := by
  simp [m_law_kinds, n_law_kinds, b_law_kinds, mFn, initE, mSeq, mSet, toS, mC, mExpr, mCall, mCons, mNil, mVarV, Res.bind, mIf, boolOf, mOp, mVarX, plains, mIsE, EC.ans, mSetL, mLst, mApp, mTup, mV, mOne, mAttE', mNx, mRet, mVar, addPV, mFrz, frzE, mTry, cleanE, noErr, ha, hb, more1, lk1_what, fo1_what, lk1_number, fo1_number]
theorem told0 (a b c sa sb : PV) (ha : reprPV a = some sa) (hb : reprPV b = some sb) (st : Pen) : m_law_told [.pv (.int 0), .pv a, .pv b, .pv c] st = .ok (.lst [.tup [.str "number", a, sb]]) st := by
  simp [m_law_told, n_law_told, b_law_told, exts, mFn, initE, mSeq, mSet, toS, mC, mExpr, mCall, mCons, mNil, mVarV, Res.bind, mIf, boolOf, mOp, mVarX, plains, mIsE, EC.ans, mSetL, mLst, mApp, mTup, mV, mOne, mAttE', mNx, mRet, mVar, addPV, mFrz, frzE, mTry, cleanE, noErr, raised0, kinds1 a b c sa sb ha hb]
theorem due0 (a b c sa sb : PV) (ha : reprPV a = some sa) (hb : reprPV b = some sb) (st : Pen) : m_law_due [.pv (.int 0), .pv a, .pv b, .pv c] st = .ok (.tup [.str "number", a, sb]) st := by
  simp [m_law_due, n_law_due, b_law_due, mFn, initE, mSeq, mSet, toS, mC, mExpr, mCall, mCons, mNil, mVarV, Res.bind, mIf, boolOf, mOp, mVarX, plains, mIsE, EC.ans, mSetL, mLst, mApp, mTup, mV, mOne, mAttE', mNx, mRet, mVar, addPV, mFrz, frzE, mTry, cleanE, noErr, mLE, inPV, eqP, flatP, ixPV, atI, ixN, eqOp, eqPV, mIte, ha, hb]
theorem raised1 (a b c : PV) (st : Pen) : m_law_raised [.pv (.int 1), .pv a, .pv b, .pv c] st = .exn 2 [("what", a), ("row", b)] st := rfl
theorem lk2_what (a b c : PV) : List.lookup (Str.ofString "what") ([(Str.ofString "what", a), (Str.ofString "row", b)] : List (Str × PV)) = some a := rfl
theorem fo2_what : fieldOk exts 2 (Str.ofString "what") = true := rfl
theorem lk2_row (a b c : PV) : List.lookup (Str.ofString "row") ([(Str.ofString "what", a), (Str.ofString "row", b)] : List (Str × PV)) = some b := rfl
theorem fo2_row : fieldOk exts 2 (Str.ofString "row") = true := rfl
theorem more2 (fs : List (Str × PV)) (st : Pen) : m_law_more_kinds [.err 2 fs] st = .ok (.lst []) st := rfl
theorem kinds2 (a b c sa sb : PV) (ha : reprPV a = some sa) (hb : reprPV b = some sb) (st : Pen) : m_law_kinds [.err 2 [("what", a), ("row", b)]] st = .ok (.lst [.tup [.str "row", a, sb]]) st := by
  simp [m_law_kinds, n_law_kinds, b_law_kinds, mFn, initE, mSeq, mSet, toS, mC, mExpr, mCall, mCons, mNil, mVarV, Res.bind, mIf, boolOf, mOp, mVarX, plains, mIsE, EC.ans, mSetL, mLst, mApp, mTup, mV, mOne, mAttE', mNx, mRet, mVar, addPV, mFrz, frzE, mTry, cleanE, noErr, ha, hb, more2, lk2_what, fo2_what, lk2_row, fo2_row]
theorem told1 (a b c sa sb : PV) (ha : reprPV a = some sa) (hb : reprPV b = some sb) (st : Pen) : m_law_told [.pv (.int 1), .pv a, .pv b, .pv c] st = .ok (.lst [.tup [.str "row", a, sb]]) st := by
  simp [m_law_told, n_law_told, b_law_told, exts, mFn, initE, mSeq, mSet, toS, mC, mExpr, mCall, mCons, mNil, mVarV, Res.bind, mIf, boolOf, mOp, mVarX, plains, mIsE, EC.ans, mSetL, mLst, mApp, mTup, mV, mOne, mAttE', mNx, mRet, mVar, addPV, mFrz, frzE, mTry, cleanE, noErr, raised1, kinds2 a b c sa sb ha hb]
theorem due1 (a b c sa sb : PV) (ha : reprPV a = some sa) (hb : reprPV b = some sb) (st : Pen) : m_law_due [.pv (.int 1), .pv a, .pv b, .pv c] st = .ok (.tup [.str "row", a, sb]) st := by
  simp [m_law_due, n_law_due, b_law_due, mFn, initE, mSeq, mSet, toS, mC, mExpr, mCall, mCons, mNil, mVarV, Res.bind, mIf, boolOf, mOp, mVarX, plains, mIsE, EC.ans, mSetL, mLst, mApp, mTup, mV, mOne, mAttE', mNx, mRet, mVar, addPV, mFrz, frzE, mTry, cleanE, noErr, mLE, inPV, eqP, flatP, ixPV, atI, ixN, eqOp, eqPV, mIte, ha, hb]
theorem raised2 (a b c : PV) (st : Pen) : m_law_raised [.pv (.int 2), .pv a, .pv b, .pv c] st = .exn 3 [("what", a)] st := rfl
theorem lk3_what (a b c : PV) : List.lookup (Str.ofString "what") ([(Str.ofString "what", a)] : List (Str × PV)) = some a := rfl
theorem fo3_what : fieldOk exts 3 (Str.ofString "what") = true := rfl
theorem more3 (fs : List (Str × PV)) (st : Pen) : m_law_more_kinds [.err 3 fs] st = .ok (.lst []) st := rfl
theorem kinds3 (a b c sa sb : PV) (ha : reprPV a = some sa) (hb : reprPV b = some sb) (st : Pen) : m_law_kinds [.err 3 [("what", a)]] st = .ok (.lst [.tup [.str "table", a]]) st := by
  simp [m_law_kinds, n_law_kinds, b_law_kinds, mFn, initE, mSeq, mSet, toS, mC, mExpr, mCall, mCons, mNil, mVarV, Res.bind, mIf, boolOf, mOp, mVarX, plains, mIsE, EC.ans, mSetL, mLst, mApp, mTup, mV, mOne, mAttE', mNx, mRet, mVar, addPV, mFrz, frzE, mTry, cleanE, noErr, ha, hb, more3, lk3_what, fo3_what]
theorem told2 (a b c sa sb : PV) (ha : reprPV a = some sa) (hb : reprPV b = some sb) (st : Pen) : m_law_told [.pv (.int 2), .pv a, .pv b, .pv c] st = .ok (.lst [.tup [.str "table", a]]) st := by
  simp [m_law_told, n_law_told, b_law_told, exts, mFn, initE, mSeq, mSet, toS, mC, mExpr, mCall, mCons, mNil, mVarV, Res.bind, mIf, boolOf, mOp, mVarX, plains, mIsE, EC.ans, mSetL, mLst, mApp, mTup, mV, mOne, mAttE', mNx, mRet, mVar, addPV, mFrz, frzE, mTry, cleanE, noErr, raised2, kinds3 a b c sa sb ha hb]
theorem due2 (a b c sa sb : PV) (ha : reprPV a = some sa) (hb : reprPV b = some sb) (st : Pen) : m_law_due [.pv (.int 2), .pv a, .pv b, .pv c] st = .ok (.tup [.str "table", a]) st := by
  simp [m_law_due, n_law_due, b_law_due, mFn, initE, mSeq, mSet, toS, mC, mExpr, mCall, mCons, mNil, mVarV, Res.bind, mIf, boolOf, mOp, mVarX, plains, mIsE, EC.ans, mSetL, mLst, mApp, mTup, mV, mOne, mAttE', mNx, mRet, mVar, addPV, mFrz, frzE, mTry, cleanE, noErr, mLE, inPV, eqP, flatP, ixPV, atI, ixN, eqOp, eqPV, mIte, ha, hb]
theorem raised3 (a b c : PV) (st : Pen) : m_law_raised [.pv (.int 3), .pv a, .pv b, .pv c] st = .exn 4 [("what", a)] st := rfl
theorem lk4_what (a b c : PV) : List.lookup (Str.ofString "what") ([(Str.ofString "what", a)] : List (Str × PV)) = some a := rfl
theorem fo4_what : fieldOk exts 4 (Str.ofString "what") = true := rfl
theorem more4 (fs : List (Str × PV)) (st : Pen) : m_law_more_kinds [.err 4 fs] st = .ok (.lst []) st := rfl
theorem kinds4 (a b c sa sb : PV) (ha : reprPV a = some sa) (hb : reprPV b = some sb) (st : Pen) : m_law_kinds [.err 4 [("what", a)]] st = .ok (.lst [.tup [.str "poly", a]]) st := by
  simp [m_law_kinds, n_law_kinds, b_law_kinds, mFn, initE, mSeq, mSet, toS, mC, mExpr, mCall, mCons, mNil, mVarV, Res.bind, mIf, boolOf, mOp, mVarX, plains, mIsE, EC.ans, mSetL, mLst, mApp, mTup, mV, mOne, mAttE', mNx, mRet, mVar, addPV, mFrz, frzE, mTry, cleanE, noErr, ha, hb, more4, lk4_what, fo4_what]
theorem told3 (a b c sa sb : PV) (ha : reprPV a = some sa) (hb : reprPV b = some sb) (st : Pen) : m_law_told [.pv (.int 3), .pv a, .pv b, .pv c] st = .ok (.lst [.tup [.str "poly", a]]) st := by
  simp [m_law_told, n_law_told, b_law_told, exts, mFn, initE, mSeq, mSet, toS, mC, mExpr, mCall, mCons, mNil, mVarV, Res.bind, mIf, boolOf, mOp, mVarX, plains, mIsE, EC.ans, mSetL, mLst, mApp, mTup, mV, mOne, mAttE', mNx, mRet, mVar, addPV, mFrz, frzE, mTry, cleanE, noErr, raised3, kinds4 a b c sa sb ha hb]
theorem due3 (a b c sa sb : PV) (ha : reprPV a = some sa) (hb : reprPV b = some sb) (st : Pen) : m_law_due [.pv (.int 3), .pv a, .pv b, .pv c] st = .ok (.tup [.str "poly", a]) st := by
  simp [m_law_due, n_law_due, b_law_due, mFn, initE, mSeq, mSet, toS, mC, mExpr, mCall, mCons, mNil, mVarV, Res.bind, mIf, boolOf, mOp, mVarX, plains, mIsE, EC.ans, mSetL, mLst, mApp, mTup, mV, mOne, mAttE', mNx, mRet, mVar, addPV, mFrz, frzE, mTry, cleanE, noErr, mLE, inPV, eqP, flatP, ixPV, atI, ixN, eqOp, eqPV, mIte, ha, hb]
theorem raised4 (a b c : PV) (st : Pen) : m_law_raised [.pv (.int 4), .pv a, .pv b, .pv c] st = .exn 5 [("what", a), ("lot", b)] st := rfl
theorem lk5_what (a b c : PV) : List.lookup (Str.ofString "what") ([(Str.ofString "what", a), (Str.ofString "lot", b)] : List (Str × PV)) = some a := rfl
theorem fo5_what : fieldOk exts 5 (Str.ofString "what") = true := rfl
theorem lk5_lot (a b c : PV) : List.lookup (Str.ofString "lot") ([(Str.ofString "what", a), (Str.ofString "lot", b)] : List (Str × PV)) = some b := rfl
theorem fo5_lot : fieldOk exts 5 (Str.ofString "lot") = true := rfl
theorem more5 (fs : List (Str × PV)) (st : Pen) : m_law_more_kinds [.err 5 fs] st = .ok (.lst []) st := rfl
theorem kinds5 (a b c sa sb : PV) (ha : reprPV a = some sa) (hb : reprPV b = some sb) (st : Pen) : m_law_kinds [.err 5 [("what", a), ("lot", b)]] st = .ok (.lst [.tup [.str "lot", a, sb]]) st := by
  simp [m_law_kinds, n_law_kinds, b_law_kinds, mFn, initE, mSeq, mSet, toS, mC, mExpr, mCall, mCons, mNil, mVarV, Res.bind, mIf, boolOf, mOp, mVarX, plains, mIsE, EC.ans, mSetL, mLst, mApp, mTup, mV, mOne, mAttE', mNx, mRet, mVar, addPV, mFrz, frzE, mTry, cleanE, noErr, ha, hb, more5, lk5_what, fo5_what, lk5_lot, fo5_lot]
theorem told4 (a b c sa sb : PV) (ha : reprPV a = some sa) (hb : reprPV b = some sb) (st : Pen) : m_law_told [.pv (.int 4), .pv a, .pv b, .pv c] st = .ok (.lst [.tup [.str "lot", a, sb]]) st := by
  simp [m_law_told, n_law_told, b_law_told, exts, mFn, initE, mSeq, mSet, toS, mC, mExpr, mCall, mCons, mNil, mVarV, Res.bind, mIf, boolOf, mOp, mVarX, plains, mIsE, EC.ans, mSetL, mLst, mApp, mTup, mV, mOne, mAttE', mNx, mRet, mVar, addPV, mFrz, frzE, mTry, cleanE, noErr, raised4, kinds5 a b c sa sb ha hb]
theorem due4 (a b c sa sb : PV) (ha : reprPV a = some sa) (hb : reprPV b = some sb) (st : Pen) : m_law_due [.pv (.int 4), .pv a, .pv b, .pv c] st = .ok (.tup [.str "lot", a, sb]) st := by
  simp [m_law_due, n_law_due, b_law_due, mFn, initE, mSeq, mSet, toS, mC, mExpr, mCall, mCons, mNil, mVarV, Res.bind, mIf, boolOf, mOp, mVarX, plains, mIsE, EC.ans, mSetL, mLst, mApp, mTup, mV, mOne, mAttE', mNx, mRet, mVar, addPV, mFrz, frzE, mTry, cleanE, noErr, mLE, inPV, eqP, flatP, ixPV, atI, ixN, eqOp, eqPV, mIte, ha, hb]
theorem raised5 (a b c : PV) (st : Pen) : m_law_raised [.pv (.int 5), .pv a, .pv b, .pv c] st = .exn 6 [("name", a)] st := rfl
theorem lk6_name (a b c : PV) : List.lookup (Str.ofString "name") ([(Str.ofString "name", a)] : List (Str × PV)) = some a := rfl
theorem fo6_name : fieldOk exts 6 (Str.ofString "name") = true := rfl
theorem more6 (fs : List (Str × PV)) (st : Pen) : m_law_more_kinds [.err 6 fs] st = .ok (.lst []) st := rfl
theorem kinds6 (a b c sa sb : PV) (ha : reprPV a = some sa) (hb : reprPV b = some sb) (st : Pen) : m_law_kinds [.err 6 [("name", a)]] st = .ok (.lst [.tup [.str "badname", sa]]) st := by
  simp [m_law_kinds, n_law_kinds, b_law_kinds, mFn, initE, mSeq, mSet, toS, mC, mExpr, mCall, mCons, mNil, mVarV, Res.bind, mIf, boolOf, mOp, mVarX, plains, mIsE, EC.ans, mSetL, mLst, mApp, mTup, mV, mOne, mAttE', mNx, mRet, mVar, addPV, mFrz, frzE, mTry, cleanE, noErr, ha, hb, more6, lk6_name, fo6_name]
theorem told5 (a b c sa sb : PV) (ha : reprPV a = some sa) (hb : reprPV b = some sb) (st : Pen) : m_law_told [.pv (.int 5), .pv a, .pv b, .pv c] st = .ok (.lst [.tup [.str "badname", sa]]) st := by
  simp [m_law_told, n_law_told, b_law_told, exts, mFn, initE, mSeq, mSet, toS, mC, mExpr, mCall, mCons, mNil, mVarV, Res.bind, mIf, boolOf, mOp, mVarX, plains, mIsE, EC.ans, mSetL, mLst, mApp, mTup, mV, mOne, mAttE', mNx, mRet, mVar, addPV, mFrz, frzE, mTry, cleanE, noErr, raised5, kinds6 a b c sa sb ha hb]
theorem due5 (a b c sa sb : PV) (ha : reprPV a = some sa) (hb : reprPV b = some sb) (st : Pen) : m_law_due [.pv (.int 5), .pv a, .pv b, .pv c] st = .ok (.tup [.str "badname", sa]) st := by
  simp [m_law_due, n_law_due, b_law_due, mFn, initE, mSeq, mSet, toS, mC, mExpr, mCall, mCons, mNil, mVarV, Res.bind, mIf, boolOf, mOp, mVarX, plains, mIsE, EC.ans, mSetL, mLst, mApp, mTup, mV, mOne, mAttE', mNx, mRet, mVar, addPV, mFrz, frzE, mTry, cleanE, noErr, mLE, inPV, eqP, flatP, ixPV, atI, ixN, eqOp, eqPV, mIte, ha, hb]
theorem raised6 (a b c : PV) (st : Pen) : m_law_raised [.pv (.int 6), .pv a, .pv b, .pv c] st = .exn 7 [("line", a), ("word", b)] st := rfl
theorem lk7_line (a b c : PV) : List.lookup (Str.ofString "line") ([(Str.ofString "line", a), (Str.ofString "word", b)] : List (Str × PV)) = some a := rfl
theorem fo7_line : fieldOk exts 7 (Str.ofString "line") = true := rfl
theorem lk7_word (a b c : PV) : List.lookup (Str.ofString "word") ([(Str.ofString "line", a), (Str.ofString "word", b)] : List (Str × PV)) = some b := rfl
theorem fo7_word : fieldOk exts 7 (Str.ofString "word") = true := rfl
theorem more7 (fs : List (Str × PV)) (st : Pen) : m_law_more_kinds [.err 7 fs] st = .ok (.lst []) st := rfl
theorem kinds7 (a b c sa sb : PV) (ha : reprPV a = some sa) (hb : reprPV b = some sb) (st : Pen) : m_law_kinds [.err 7 [("line", a), ("word", b)]] st = .ok (.lst [.tup [.str "text", a, b]]) st := by
  simp [m_law_kinds, n_law_kinds, b_law_kinds, mFn, initE, mSeq, mSet, toS, mC, mExpr, mCall, mCons, mNil, mVarV, Res.bind, mIf, boolOf, mOp, mVarX, plains, mIsE, EC.ans, mSetL, mLst, mApp, mTup, mV, mOne, mAttE', mNx, mRet, mVar, addPV, mFrz, frzE, mTry, cleanE, noErr, ha, hb, more7, lk7_line, fo7_line, lk7_word, fo7_word]
theorem told6 (a b c sa sb : PV) (ha : reprPV a = some sa) (hb : reprPV b = some sb) (st : Pen) : m_law_told [.pv (.int 6), .pv a, .pv b, .pv c] st = .ok (.lst [.tup [.str "text", a, b]]) st := by
  simp [m_law_told, n_law_told, b_law_told, exts, mFn, initE, mSeq, mSet, toS, mC, mExpr, mCall, mCons, mNil, mVarV, Res.bind, mIf, boolOf, mOp, mVarX, plains, mIsE, EC.ans, mSetL, mLst, mApp, mTup, mV, mOne, mAttE', mNx, mRet, mVar, addPV, mFrz, frzE, mTry, cleanE, noErr, raised6, kinds7 a b c sa sb ha hb]
theorem due6 (a b c sa sb : PV) (ha : reprPV a = some sa) (hb : reprPV b = some sb) (st : Pen) : m_law_due [.pv (.int 6), .pv a, .pv b, .pv c] st = .ok (.tup [.str "text", a, b]) st := by
  simp [m_law_due, n_law_due, b_law_due, mFn, initE, mSeq, mSet, toS, mC, mExpr, mCall, mCons, mNil, mVarV, Res.bind, mIf, boolOf, mOp, mVarX, plains, mIsE, EC.ans, mSetL, mLst, mApp, mTup, mV, mOne, mAttE', mNx, mRet, mVar, addPV, mFrz, frzE, mTry, cleanE, noErr, mLE, inPV, eqP, flatP, ixPV, atI, ixN, eqOp, eqPV, mIte, ha, hb]
theorem raised7 (a b c : PV) (st : Pen) : m_law_raised [.pv (.int 7), .pv a, .pv b, .pv c] st = .exn 8 [("what", a), ("index", b)] st := rfl
theorem lk8_what (a b c : PV) : List.lookup (Str.ofString "what") ([(Str.ofString "what", a), (Str.ofString "index", b)] : List (Str × PV)) = some a := rfl
theorem fo8_what : fieldOk exts 8 (Str.ofString "what") = true := rfl
theorem lk8_index (a b c : PV) : List.lookup (Str.ofString "index") ([(Str.ofString "what", a), (Str.ofString "index", b)] : List (Str × PV)) = some b := rfl
theorem fo8_index : fieldOk exts 8 (Str.ofString "index") = true := rfl
theorem more8 (fs : List (Str × PV)) (st : Pen) : m_law_more_kinds [.err 8 fs] st = .ok (.lst []) st := rfl
theorem kinds8 (a b c sa sb : PV) (ha : reprPV a = some sa) (hb : reprPV b = some sb) (st : Pen) : m_law_kinds [.err 8 [("what", a), ("index", b)]] st = .ok (.lst [.tup [.str "place", a, sb]]) st := by
  simp [m_law_kinds, n_law_kinds, b_law_kinds, mFn, initE, mSeq, mSet, toS, mC, mExpr, mCall, mCons, mNil, mVarV, Res.bind, mIf, boolOf, mOp, mVarX, plains, mIsE, EC.ans, mSetL, mLst, mApp, mTup, mV, mOne, mAttE', mNx, mRet, mVar, addPV, mFrz, frzE, mTry, cleanE, noErr, ha, hb, more8, lk8_what, fo8_what, lk8_index, fo8_index]
theorem told7 (a b c sa sb : PV) (ha : reprPV a = some sa) (hb : reprPV b = some sb) (st : Pen) : m_law_told [.pv (.int 7), .pv a, .pv b, .pv c] st = .ok (.lst [.tup [.str "place", a, sb]]) st := by
  simp [m_law_told, n_law_told, b_law_told, exts, mFn, initE, mSeq, mSet, toS, mC, mExpr, mCall, mCons, mNil, mVarV, Res.bind, mIf, boolOf, mOp, mVarX, plains, mIsE, EC.ans, mSetL, mLst, mApp, mTup, mV, mOne, mAttE', mNx, mRet, mVar, addPV, mFrz, frzE, mTry, cleanE, noErr, raised7, kinds8 a b c sa sb ha hb]
theorem due7 (a b c sa sb : PV) (ha : reprPV a = some sa) (hb : reprPV b = some sb) (st : Pen) : m_law_due [.pv (.int 7), .pv a, .pv b, .pv c] st = .ok (.tup [.str "place", a, sb]) st := by
  simp [m_law_due, n_law_due, b_law_due, mFn, initE, mSeq, mSet, toS, mC, mExpr, mCall, mCons, mNil, mVarV, Res.bind, mIf, boolOf, mOp, mVarX, plains, mIsE, EC.ans, mSetL, mLst, mApp, mTup, mV, mOne, mAttE', mNx, mRet, mVar, addPV, mFrz, frzE, mTry, cleanE, noErr, mLE, inPV, eqP, flatP, ixPV, atI, ixN, eqOp, eqPV, mIte, ha, hb]
theorem raised8 (a b c : PV) (st : Pen) : m_law_raised [.pv (.int 8), .pv a, .pv b, .pv c] st = .ok .non st := rfl
theorem raisedToo8 (a b c : PV) (st : Pen) : m_law_raised_too [.pv (.int 8), .pv a, .pv b, .pv c] st = .exn 9 [("name", a)] st := rfl
theorem lk9_name (a b c : PV) : List.lookup (Str.ofString "name") ([(Str.ofString "name", a)] : List (Str × PV)) = some a := rfl
theorem fo9_name : fieldOk exts 9 (Str.ofString "name") = true := rfl
theorem more9 (a b c sa sb : PV) (ha : reprPV a = some sa) (hb : reprPV b = some sb) (st : Pen) : m_law_more_kinds [.err 9 [("name", a)]] st = .ok (.lst [.tup [.str "noname", sa]]) st := by
  simp [m_law_more_kinds, n_law_more_kinds, b_law_more_kinds, mFn, initE, mSeq, mSet, toS, mC, mExpr, mCall, mCons, mNil, mVarV, Res.bind, mIf, boolOf, mOp, mVarX, plains, mIsE, EC.ans, mSetL, mLst, mApp, mTup, mV, mOne, mAttE', mNx, mRet, mVar, addPV, mFrz, frzE, mTry, cleanE, noErr, ha, hb, lk9_name, fo9_name]
theorem kinds9 (a b c sa sb : PV) (ha : reprPV a = some sa) (hb : reprPV b = some sb) (st : Pen) : m_law_kinds [.err 9 [("name", a)]] st = .ok (.lst [.tup [.str "noname", sa]]) st := by
  simp [m_law_kinds, n_law_kinds, b_law_kinds, mFn, initE, mSeq, mSet, toS, mC, mExpr, mCall, mCons, mNil, mVarV, Res.bind, mIf, boolOf, mOp, mVarX, plains, mIsE, EC.ans, mSetL, mLst, mApp, mTup, mV, mOne, mAttE', mNx, mRet, mVar, addPV, mFrz, frzE, mTry, cleanE, noErr, ha, hb, more9 a b c sa sb ha hb, lk9_name, fo9_name]
theorem told8 (a b c sa sb : PV) (ha : reprPV a = some sa) (hb : reprPV b = some sb) (st : Pen) : m_law_told [.pv (.int 8), .pv a, .pv b, .pv c] st = .ok (.lst [.tup [.str "noname", sa]]) st := by
  simp [m_law_told, n_law_told, b_law_told, exts, mFn, initE, mSeq, mSet, toS, mC, mExpr, mCall, mCons, mNil, mVarV, Res.bind, mIf, boolOf, mOp, mVarX, plains, mIsE, EC.ans, mSetL, mLst, mApp, mTup, mV, mOne, mAttE', mNx, mRet, mVar, addPV, mFrz, frzE, mTry, cleanE, noErr, raised8, raisedToo8, kinds9 a b c sa sb ha hb]
theorem due8 (a b c sa sb : PV) (ha : reprPV a = some sa) (hb : reprPV b = some sb) (st : Pen) : m_law_due [.pv (.int 8), .pv a, .pv b, .pv c] st = .ok (.tup [.str "noname", sa]) st := by
  simp [m_law_due, n_law_due, b_law_due, mFn, initE, mSeq, mSet, toS, mC, mExpr, mCall, mCons, mNil, mVarV, Res.bind, mIf, boolOf, mOp, mVarX, plains, mIsE, EC.ans, mSetL, mLst, mApp, mTup, mV, mOne, mAttE', mNx, mRet, mVar, addPV, mFrz, frzE, mTry, cleanE, noErr, mLE, inPV, eqP, flatP, ixPV, atI, ixN, eqOp, eqPV, mIte, ha, hb]
theorem raised9 (a b c : PV) (st : Pen) : m_law_raised [.pv (.int 9), .pv a, .pv b, .pv c] st = .ok .non st := rfl
theorem raisedToo9 (a b c : PV) (st : Pen) : m_law_raised_too [.pv (.int 9), .pv a, .pv b, .pv c] st = .exn 10 [("name", a)] st := rfl
theorem lk10_name (a b c : PV) : List.lookup (Str.ofString "name") ([(Str.ofString "name", a)] : List (Str × PV)) = some a := rfl
theorem fo10_name : fieldOk exts 10 (Str.ofString "name") = true := rfl
theorem more10 (a b c sa sb : PV) (ha : reprPV a = some sa) (hb : reprPV b = some sb) (st : Pen) : m_law_more_kinds [.err 10 [("name", a)]] st = .ok (.lst [.tup [.str "taken", sa]]) st := by
  simp [m_law_more_kinds, n_law_more_kinds, b_law_more_kinds, mFn, initE, mSeq, mSet, toS, mC, mExpr, mCall, mCons, mNil, mVarV, Res.bind, mIf, boolOf, mOp, mVarX, plains, mIsE, EC.ans, mSetL, mLst, mApp, mTup, mV, mOne, mAttE', mNx, mRet, mVar, addPV, mFrz, frzE, mTry, cleanE, noErr, ha, hb, lk10_name, fo10_name]
theorem kinds10 (a b c sa sb : PV) (ha : reprPV a = some sa) (hb : reprPV b = some sb) (st : Pen) : m_law_kinds [.err 10 [("name", a)]] st = .ok (.lst [.tup [.str "taken", sa]]) st := by
  simp [m_law_kinds, n_law_kinds, b_law_kinds, mFn, initE, mSeq, mSet, toS, mC, mExpr, mCall, mCons, mNil, mVarV, Res.bind, mIf, boolOf, mOp, mVarX, plains, mIsE, EC.ans, mSetL, mLst, mApp, mTup, mV, mOne, mAttE', mNx, mRet, mVar, addPV, mFrz, frzE, mTry, cleanE, noErr, ha, hb, more10 a b c sa sb ha hb, lk10_name, fo10_name]
theorem told9 (a b c sa sb : PV) (ha : reprPV a = some sa) (hb : reprPV b = some sb) (st : Pen) : m_law_told [.pv (.int 9), .pv a, .pv b, .pv c] st = .ok (.lst [.tup [.str "taken", sa]]) st := by
  simp [m_law_told, n_law_told, b_law_told, exts, mFn, initE, mSeq, mSet, toS, mC, mExpr, mCall, mCons, mNil, mVarV, Res.bind, mIf, boolOf, mOp, mVarX, plains, mIsE, EC.ans, mSetL, mLst, mApp, mTup, mV, mOne, mAttE', mNx, mRet, mVar, addPV, mFrz, frzE, mTry, cleanE, noErr, raised9, raisedToo9, kinds10 a b c sa sb ha hb]
theorem due9 (a b c sa sb : PV) (ha : reprPV a = some sa) (hb : reprPV b = some sb) (st : Pen) : m_law_due [.pv (.int 9), .pv a, .pv b, .pv c] st = .ok (.tup [.str "taken", sa]) st := by
  simp [m_law_due, n_law_due, b_law_due, mFn, initE, mSeq, mSet, toS, mC, mExpr, mCall, mCons, mNil, mVarV, Res.bind, mIf, boolOf, mOp, mVarX, plains, mIsE, EC.ans, mSetL, mLst, mApp, mTup, mV, mOne, mAttE', mNx, mRet, mVar, addPV, mFrz, frzE, mTry, cleanE, noErr, mLE, inPV, eqP, flatP, ixPV, atI, ixN, eqOp, eqPV, mIte, ha, hb]
theorem raised10 (a b c : PV) (st : Pen) : m_law_raised [.pv (.int 10), .pv a, .pv b, .pv c] st = .ok .non st := rfl
theorem raisedToo10 (a b c : PV) (st : Pen) : m_law_raised_too [.pv (.int 10), .pv a, .pv b, .pv c] st = .exn 11 [("what", a)] st := rfl
theorem lk11_what (a b c : PV) : List.lookup (Str.ofString "what") ([(Str.ofString "what", a)] : List (Str × PV)) = some a := rfl
theorem fo11_what : fieldOk exts 11 (Str.ofString "what") = true := rfl
theorem more11 (a b c sa sb : PV) (ha : reprPV a = some sa) (hb : reprPV b = some sb) (st : Pen) : m_law_more_kinds [.err 11 [("what", a)]] st = .ok (.lst [.tup [.str "unlike", a]]) st := by
  simp [m_law_more_kinds, n_law_more_kinds, b_law_more_kinds, mFn, initE, mSeq, mSet, toS, mC, mExpr, mCall, mCons, mNil, mVarV, Res.bind, mIf, boolOf, mOp, mVarX, plains, mIsE, EC.ans, mSetL, mLst, mApp, mTup, mV, mOne, mAttE', mNx, mRet, mVar, addPV, mFrz, frzE, mTry, cleanE, noErr, ha, hb, lk11_what, fo11_what]
theorem kinds11 (a b c sa sb : PV) (ha : reprPV a = some sa) (hb : reprPV b = some sb) (st : Pen) : m_law_kinds [.err 11 [("what", a)]] st = .ok (.lst [.tup [.str "unlike", a]]) st := by
  simp [m_law_kinds, n_law_kinds, b_law_kinds, mFn, initE, mSeq, mSet, toS, mC, mExpr, mCall, mCons, mNil, mVarV, Res.bind, mIf, boolOf, mOp, mVarX, plains, mIsE, EC.ans, mSetL, mLst, mApp, mTup, mV, mOne, mAttE', mNx, mRet, mVar, addPV, mFrz, frzE, mTry, cleanE, noErr, ha, hb, more11 a b c sa sb ha hb, lk11_what, fo11_what]
theorem told10 (a b c sa sb : PV) (ha : reprPV a = some sa) (hb : reprPV b = some sb) (st : Pen) : m_law_told [.pv (.int 10), .pv a, .pv b, .pv c] st = .ok (.lst [.tup [.str "unlike", a]]) st := by
  simp [m_law_told, n_law_told, b_law_told, exts, mFn, initE, mSeq, mSet, toS, mC, mExpr, mCall, mCons, mNil, mVarV, Res.bind, mIf, boolOf, mOp, mVarX, plains, mIsE, EC.ans, mSetL, mLst, mApp, mTup, mV, mOne, mAttE', mNx, mRet, mVar, addPV, mFrz, frzE, mTry, cleanE, noErr, raised10, raisedToo10, kinds11 a b c sa sb ha hb]
theorem due10 (a b c sa sb : PV) (ha : reprPV a = some sa) (hb : reprPV b = some sb) (st : Pen) : m_law_due [.pv (.int 10), .pv a, .pv b, .pv c] st = .ok (.tup [.str "unlike", a]) st := by
  simp [m_law_due, n_law_due, b_law_due, mFn, initE, mSeq, mSet, toS, mC, mExpr, mCall, mCons, mNil, mVarV, Res.bind, mIf, boolOf, mOp, mVarX, plains, mIsE, EC.ans, mSetL, mLst, mApp, mTup, mV, mOne, mAttE', mNx, mRet, mVar, addPV, mFrz, frzE, mTry, cleanE, noErr, mLE, inPV, eqP, flatP, ixPV, atI, ixN, eqOp, eqPV, mIte, ha, hb]
theorem raised11 (a b c : PV) (st : Pen) : m_law_raised [.pv (.int 11), .pv a, .pv b, .pv c] st = .ok .non st := rfl
theorem raisedToo11 (a b c : PV) (st : Pen) : m_law_raised_too [.pv (.int 11), .pv a, .pv b, .pv c] st = .exn 12 [("paper", a)] st := rfl
theorem lk12_paper (a b c : PV) : List.lookup (Str.ofString "paper") ([(Str.ofString "paper", a)] : List (Str × PV)) = some a := rfl
theorem fo12_paper : fieldOk exts 12 (Str.ofString "paper") = true := rfl
theorem more12 (a b c sa sb : PV) (ha : reprPV a = some sa) (hb : reprPV b = some sb) (st : Pen) : m_law_more_kinds [.err 12 [("paper", a)]] st = .ok (.lst [.tup [.str "notthere", a]]) st := by
  simp [m_law_more_kinds, n_law_more_kinds, b_law_more_kinds, mFn, initE, mSeq, mSet, toS, mC, mExpr, mCall, mCons, mNil, mVarV, Res.bind, mIf, boolOf, mOp, mVarX, plains, mIsE, EC.ans, mSetL, mLst, mApp, mTup, mV, mOne, mAttE', mNx, mRet, mVar, addPV, mFrz, frzE, mTry, cleanE, noErr, ha, hb, lk12_paper, fo12_paper]
theorem kinds12 (a b c sa sb : PV) (ha : reprPV a = some sa) (hb : reprPV b = some sb) (st : Pen) : m_law_kinds [.err 12 [("paper", a)]] st = .ok (.lst [.tup [.str "notthere", a]]) st := by
  simp [m_law_kinds, n_law_kinds, b_law_kinds, mFn, initE, mSeq, mSet, toS, mC, mExpr, mCall, mCons, mNil, mVarV, Res.bind, mIf, boolOf, mOp, mVarX, plains, mIsE, EC.ans, mSetL, mLst, mApp, mTup, mV, mOne, mAttE', mNx, mRet, mVar, addPV, mFrz, frzE, mTry, cleanE, noErr, ha, hb, more12 a b c sa sb ha hb, lk12_paper, fo12_paper]
theorem told11 (a b c sa sb : PV) (ha : reprPV a = some sa) (hb : reprPV b = some sb) (st : Pen) : m_law_told [.pv (.int 11), .pv a, .pv b, .pv c] st = .ok (.lst [.tup [.str "notthere", a]]) st := by
  simp [m_law_told, n_law_told, b_law_told, exts, mFn, initE, mSeq, mSet, toS, mC, mExpr, mCall, mCons, mNil, mVarV, Res.bind, mIf, boolOf, mOp, mVarX, plains, mIsE, EC.ans, mSetL, mLst, mApp, mTup, mV, mOne, mAttE', mNx, mRet, mVar, addPV, mFrz, frzE, mTry, cleanE, noErr, raised11, raisedToo11, kinds12 a b c sa sb ha hb]
theorem due11 (a b c sa sb : PV) (ha : reprPV a = some sa) (hb : reprPV b = some sb) (st : Pen) : m_law_due [.pv (.int 11), .pv a, .pv b, .pv c] st = .ok (.tup [.str "notthere", a]) st := by
  simp [m_law_due, n_law_due, b_law_due, mFn, initE, mSeq, mSet, toS, mC, mExpr, mCall, mCons, mNil, mVarV, Res.bind, mIf, boolOf, mOp, mVarX, plains, mIsE, EC.ans, mSetL, mLst, mApp, mTup, mV, mOne, mAttE', mNx, mRet, mVar, addPV, mFrz, frzE, mTry, cleanE, noErr, mLE, inPV, eqP, flatP, ixPV, atI, ixN, eqOp, eqPV, mIte, ha, hb]
theorem raised12 (a b c : PV) (st : Pen) : m_law_raised [.pv (.int 12), .pv a, .pv b, .pv c] st = .ok .non st := rfl
theorem raisedToo12 (a b c : PV) (st : Pen) : m_law_raised_too [.pv (.int 12), .pv a, .pv b, .pv c] st = .exn 13 [("what", a), ("many", b), ("limit", c)] st := rfl
theorem lk13_what (a b c : PV) : List.lookup (Str.ofString "what") ([(Str.ofString "what", a), (Str.ofString "many", b), (Str.ofString "limit", c)] : List (Str × PV)) = some a := rfl
theorem fo13_what : fieldOk exts 13 (Str.ofString "what") = true := rfl
theorem lk13_many (a b c : PV) : List.lookup (Str.ofString "many") ([(Str.ofString "what", a), (Str.ofString "many", b), (Str.ofString "limit", c)] : List (Str × PV)) = some b := rfl
theorem fo13_many : fieldOk exts 13 (Str.ofString "many") = true := rfl
theorem lk13_limit (a b c : PV) : List.lookup (Str.ofString "limit") ([(Str.ofString "what", a), (Str.ofString "many", b), (Str.ofString "limit", c)] : List (Str × PV)) = some c := rfl
theorem fo13_limit : fieldOk exts 13 (Str.ofString "limit") = true := rfl
theorem more13 (a b c sa sb : PV) (ha : reprPV a = some sa) (hb : reprPV b = some sb) (st : Pen) : m_law_more_kinds [.err 13 [("what", a), ("many", b), ("limit", c)]] st = .ok (.lst [.tup [.str "many", a, b, c]]) st := by
  simp [m_law_more_kinds, n_law_more_kinds, b_law_more_kinds, mFn, initE, mSeq, mSet, toS, mC, mExpr, mCall, mCons, mNil, mVarV, Res.bind, mIf, boolOf, mOp, mVarX, plains, mIsE, EC.ans, mSetL, mLst, mApp, mTup, mV, mOne, mAttE', mNx, mRet, mVar, addPV, mFrz, frzE, mTry, cleanE, noErr, ha, hb, lk13_what, fo13_what, lk13_many, fo13_many, lk13_limit, fo13_limit]
theorem kinds13 (a b c sa sb : PV) (ha : reprPV a = some sa) (hb : reprPV b = some sb) (st : Pen) : m_law_kinds [.err 13 [("what", a), ("many", b), ("limit", c)]] st = .ok (.lst [.tup [.str "many", a, b, c]]) st := by
  simp [m_law_kinds, n_law_kinds, b_law_kinds, mFn, initE, mSeq, mSet, toS, mC, mExpr, mCall, mCons, mNil, mVarV, Res.bind, mIf, boolOf, mOp, mVarX, plains, mIsE, EC.ans, mSetL, mLst, mApp, mTup, mV, mOne, mAttE', mNx, mRet, mVar, addPV, mFrz, frzE, mTry, cleanE, noErr, ha, hb, more13 a b c sa sb ha hb, lk13_what, fo13_what, lk13_many, fo13_many, lk13_limit, fo13_limit]
theorem told12 (a b c sa sb : PV) (ha : reprPV a = some sa) (hb : reprPV b = some sb) (st : Pen) : m_law_told [.pv (.int 12), .pv a, .pv b, .pv c] st = .ok (.lst [.tup [.str "many", a, b, c]]) st := by
  simp [m_law_told, n_law_told, b_law_told, exts, mFn, initE, mSeq, mSet, toS, mC, mExpr, mCall, mCons, mNil, mVarV, Res.bind, mIf, boolOf, mOp, mVarX, plains, mIsE, EC.ans, mSetL, mLst, mApp, mTup, mV, mOne, mAttE', mNx, mRet, mVar, addPV, mFrz, frzE, mTry, cleanE, noErr, raised12, raisedToo12, kinds13 a b c sa sb ha hb]
theorem due12 (a b c sa sb : PV) (ha : reprPV a = some sa) (hb : reprPV b = some sb) (st : Pen) : m_law_due [.pv (.int 12), .pv a, .pv b, .pv c] st = .ok (.tup [.str "many", a, b, c]) st := by
  simp [m_law_due, n_law_due, b_law_due, mFn, initE, mSeq, mSet, toS, mC, mExpr, mCall, mCons, mNil, mVarV, Res.bind, mIf, boolOf, mOp, mVarX, plains, mIsE, EC.ans, mSetL, mLst, mApp, mTup, mV, mOne, mAttE', mNx, mRet, mVar, addPV, mFrz, frzE, mTry, cleanE, noErr, mLE, inPV, eqP, flatP, ixPV, atI, ixN, eqOp, eqPV, mIte, ha, hb]
theorem raised13 (a b c : PV) (st : Pen) : m_law_raised [.pv (.int 13), .pv a, .pv b, .pv c] st = .ok .non st := rfl
theorem raisedToo13 (a b c : PV) (st : Pen) : m_law_raised_too [.pv (.int 13), .pv a, .pv b, .pv c] st = .exn 14 [("promise", a), ("witness", b)] st := rfl
theorem lk14_promise (a b c : PV) : List.lookup (Str.ofString "promise") ([(Str.ofString "promise", a), (Str.ofString "witness", b)] : List (Str × PV)) = some a := rfl
theorem fo14_promise : fieldOk exts 14 (Str.ofString "promise") = true := rfl
theorem lk14_witness (a b c : PV) : List.lookup (Str.ofString "witness") ([(Str.ofString "promise", a), (Str.ofString "witness", b)] : List (Str × PV)) = some b := rfl
theorem fo14_witness : fieldOk exts 14 (Str.ofString "witness") = true := rfl
theorem more14 (a b c sa sb : PV) (ha : reprPV a = some sa) (hb : reprPV b = some sb) (st : Pen) : m_law_more_kinds [.err 14 [("promise", a), ("witness", b)]] st = .ok (.lst [.tup [.str "kept", a, b]]) st := by
  simp [m_law_more_kinds, n_law_more_kinds, b_law_more_kinds, mFn, initE, mSeq, mSet, toS, mC, mExpr, mCall, mCons, mNil, mVarV, Res.bind, mIf, boolOf, mOp, mVarX, plains, mIsE, EC.ans, mSetL, mLst, mApp, mTup, mV, mOne, mAttE', mNx, mRet, mVar, addPV, mFrz, frzE, mTry, cleanE, noErr, ha, hb, lk14_promise, fo14_promise, lk14_witness, fo14_witness]
theorem kinds14 (a b c sa sb : PV) (ha : reprPV a = some sa) (hb : reprPV b = some sb) (st : Pen) : m_law_kinds [.err 14 [("promise", a), ("witness", b)]] st = .ok (.lst [.tup [.str "kept", a, b]]) st := by
  simp [m_law_kinds, n_law_kinds, b_law_kinds, mFn, initE, mSeq, mSet, toS, mC, mExpr, mCall, mCons, mNil, mVarV, Res.bind, mIf, boolOf, mOp, mVarX, plains, mIsE, EC.ans, mSetL, mLst, mApp, mTup, mV, mOne, mAttE', mNx, mRet, mVar, addPV, mFrz, frzE, mTry, cleanE, noErr, ha, hb, more14 a b c sa sb ha hb, lk14_promise, fo14_promise, lk14_witness, fo14_witness]
theorem told13 (a b c sa sb : PV) (ha : reprPV a = some sa) (hb : reprPV b = some sb) (st : Pen) : m_law_told [.pv (.int 13), .pv a, .pv b, .pv c] st = .ok (.lst [.tup [.str "kept", a, b]]) st := by
  simp [m_law_told, n_law_told, b_law_told, exts, mFn, initE, mSeq, mSet, toS, mC, mExpr, mCall, mCons, mNil, mVarV, Res.bind, mIf, boolOf, mOp, mVarX, plains, mIsE, EC.ans, mSetL, mLst, mApp, mTup, mV, mOne, mAttE', mNx, mRet, mVar, addPV, mFrz, frzE, mTry, cleanE, noErr, raised13, raisedToo13, kinds14 a b c sa sb ha hb]
theorem due13 (a b c sa sb : PV) (ha : reprPV a = some sa) (hb : reprPV b = some sb) (st : Pen) : m_law_due [.pv (.int 13), .pv a, .pv b, .pv c] st = .ok (.tup [.str "kept", a, b]) st := by
  simp [m_law_due, n_law_due, b_law_due, mFn, initE, mSeq, mSet, toS, mC, mExpr, mCall, mCons, mNil, mVarV, Res.bind, mIf, boolOf, mOp, mVarX, plains, mIsE, EC.ans, mSetL, mLst, mApp, mTup, mV, mOne, mAttE', mNx, mRet, mVar, addPV, mFrz, frzE, mTry, cleanE, noErr, mLE, inPV, eqP, flatP, ixPV, atI, ixN, eqOp, eqPV, mIte, ha, hb]
theorem raised14 (a b c : PV) (st : Pen) : m_law_raised [.pv (.int 14), .pv a, .pv b, .pv c] st = .ok .non st := rfl
theorem raisedToo14 (a b c : PV) (st : Pen) : m_law_raised_too [.pv (.int 14), .pv a, .pv b, .pv c] st = .exn 15 [] st := rfl
theorem more15 (a b c sa sb : PV) (ha : reprPV a = some sa) (hb : reprPV b = some sb) (st : Pen) : m_law_more_kinds [.err 15 []] st = .ok (.lst [.tup [.str "undo"]]) st := by
  simp [m_law_more_kinds, n_law_more_kinds, b_law_more_kinds, mFn, initE, mSeq, mSet, toS, mC, mExpr, mCall, mCons, mNil, mVarV, Res.bind, mIf, boolOf, mOp, mVarX, plains, mIsE, EC.ans, mSetL, mLst, mApp, mTup, mV, mOne, mAttE', mNx, mRet, mVar, addPV, mFrz, frzE, mTry, cleanE, noErr, ha, hb]
theorem kinds15 (a b c sa sb : PV) (ha : reprPV a = some sa) (hb : reprPV b = some sb) (st : Pen) : m_law_kinds [.err 15 []] st = .ok (.lst [.tup [.str "undo"]]) st := by
  simp [m_law_kinds, n_law_kinds, b_law_kinds, mFn, initE, mSeq, mSet, toS, mC, mExpr, mCall, mCons, mNil, mVarV, Res.bind, mIf, boolOf, mOp, mVarX, plains, mIsE, EC.ans, mSetL, mLst, mApp, mTup, mV, mOne, mAttE', mNx, mRet, mVar, addPV, mFrz, frzE, mTry, cleanE, noErr, ha, hb, more15 a b c sa sb ha hb]
theorem told14 (a b c sa sb : PV) (ha : reprPV a = some sa) (hb : reprPV b = some sb) (st : Pen) : m_law_told [.pv (.int 14), .pv a, .pv b, .pv c] st = .ok (.lst [.tup [.str "undo"]]) st := by
  simp [m_law_told, n_law_told, b_law_told, exts, mFn, initE, mSeq, mSet, toS, mC, mExpr, mCall, mCons, mNil, mVarV, Res.bind, mIf, boolOf, mOp, mVarX, plains, mIsE, EC.ans, mSetL, mLst, mApp, mTup, mV, mOne, mAttE', mNx, mRet, mVar, addPV, mFrz, frzE, mTry, cleanE, noErr, raised14, raisedToo14, kinds15 a b c sa sb ha hb]
theorem due14 (a b c sa sb : PV) (ha : reprPV a = some sa) (hb : reprPV b = some sb) (st : Pen) : m_law_due [.pv (.int 14), .pv a, .pv b, .pv c] st = .ok (.tup [.str "undo"]) st := by
  simp [m_law_due, n_law_due, b_law_due, mFn, initE, mSeq, mSet, toS, mC, mExpr, mCall, mCons, mNil, mVarV, Res.bind, mIf, boolOf, mOp, mVarX, plains, mIsE, EC.ans, mSetL, mLst, mApp, mTup, mV, mOne, mAttE', mNx, mRet, mVar, addPV, mFrz, frzE, mTry, cleanE, noErr, mLE, inPV, eqP, flatP, ixPV, atI, ixN, eqOp, eqPV, mIte, ha, hb]
theorem raised15 (a b c : PV) (st : Pen) : m_law_raised [.pv (.int 15), .pv a, .pv b, .pv c] st = .ok .non st := rfl
theorem raisedToo15 (a b c : PV) (st : Pen) : m_law_raised_too [.pv (.int 15), .pv a, .pv b, .pv c] st = .exn 16 [] st := rfl
theorem more16 (a b c sa sb : PV) (ha : reprPV a = some sa) (hb : reprPV b = some sb) (st : Pen) : m_law_more_kinds [.err 16 []] st = .ok (.lst [.tup [.str "redo"]]) st := by
  simp [m_law_more_kinds, n_law_more_kinds, b_law_more_kinds, mFn, initE, mSeq, mSet, toS, mC, mExpr, mCall, mCons, mNil, mVarV, Res.bind, mIf, boolOf, mOp, mVarX, plains, mIsE, EC.ans, mSetL, mLst, mApp, mTup, mV, mOne, mAttE', mNx, mRet, mVar, addPV, mFrz, frzE, mTry, cleanE, noErr, ha, hb]
theorem kinds16 (a b c sa sb : PV) (ha : reprPV a = some sa) (hb : reprPV b = some sb) (st : Pen) : m_law_kinds [.err 16 []] st = .ok (.lst [.tup [.str "redo"]]) st := by
  simp [m_law_kinds, n_law_kinds, b_law_kinds, mFn, initE, mSeq, mSet, toS, mC, mExpr, mCall, mCons, mNil, mVarV, Res.bind, mIf, boolOf, mOp, mVarX, plains, mIsE, EC.ans, mSetL, mLst, mApp, mTup, mV, mOne, mAttE', mNx, mRet, mVar, addPV, mFrz, frzE, mTry, cleanE, noErr, ha, hb, more16 a b c sa sb ha hb]
theorem told15 (a b c sa sb : PV) (ha : reprPV a = some sa) (hb : reprPV b = some sb) (st : Pen) : m_law_told [.pv (.int 15), .pv a, .pv b, .pv c] st = .ok (.lst [.tup [.str "redo"]]) st := by
  simp [m_law_told, n_law_told, b_law_told, exts, mFn, initE, mSeq, mSet, toS, mC, mExpr, mCall, mCons, mNil, mVarV, Res.bind, mIf, boolOf, mOp, mVarX, plains, mIsE, EC.ans, mSetL, mLst, mApp, mTup, mV, mOne, mAttE', mNx, mRet, mVar, addPV, mFrz, frzE, mTry, cleanE, noErr, raised15, raisedToo15, kinds16 a b c sa sb ha hb]
theorem due15 (a b c sa sb : PV) (ha : reprPV a = some sa) (hb : reprPV b = some sb) (st : Pen) : m_law_due [.pv (.int 15), .pv a, .pv b, .pv c] st = .ok (.tup [.str "redo"]) st := by
  simp [m_law_due, n_law_due, b_law_due, mFn, initE, mSeq, mSet, toS, mC, mExpr, mCall, mCons, mNil, mVarV, Res.bind, mIf, boolOf, mOp, mVarX, plains, mIsE, EC.ans, mSetL, mLst, mApp, mTup, mV, mOne, mAttE', mNx, mRet, mVar, addPV, mFrz, frzE, mTry, cleanE, noErr, mLE, inPV, eqP, flatP, ixPV, atI, ixN, eqOp, eqPV, mIte, ha, hb]

/-- what is known of the source of draws -/
structure PenB (c : Int) (st : Pen) : Prop where
  ok : st.Ok
  f0 : 0 ≤ st.fold
  f1 : st.fold < 2147483648
  c0 : 0 ≤ st.count
  c1 : st.count ≤ c
theorem log_lt {i : Int} (h : i.natAbs < 2 ^ 64) : i.natAbs.log2 < 64 := by
  by_cases z : i.natAbs = 0
  · rw [z]; decide
  · exact (Nat.log2_lt z).mpr h
theorem mulB_ok {i j : Int} (h1 : i.natAbs < 2 ^ 64) (h2 : j.natAbs < 2 ^ 64) : mulB i j = true := by
  have := log_lt h1
  have := log_lt h2
  unfold mulB
  exact decide_eq_true (by omega)
theorem mul_ok {i j : Int} (h1 : i.natAbs < 2 ^ 64) (h2 : j.natAbs < 2 ^ 64) : mulPV (.int i) (.int j) = some (.int (i * j)) := by
  show (if mulB i j = true then some (PV.int (i * j)) else none) = _
  rw [if_pos (mulB_ok h1 h2)]
theorem mod_ok {i j : Int} (h : j ≠ 0) : modPV (.int i) (.int j) = some (.int (i.fmod j)) := by
  show (if decide (j ≠ 0) = true then some (PV.int (i.fmod j)) else none) = _
  rw [if_pos (decide_eq_true h)]
theorem div_ok {i j : Int} (h : j ≠ 0) (h2 : j.natAbs.log2 < 9000) : divPV (.int i) (.int j) = some (.int (i.fdiv j)) := by
  show (if divB i j = true then some (PV.int (i.fdiv j)) else none) = _
  have e : divB i j = true := by unfold divB; simp [h, h2]
  rw [if_pos e]
theorem pow18 : powPV (.int 10) (.int 18) = some (.int 1000000000000000000) := rfl
theorem sub_ok {i j : Int} : subPV (.int i) (.int j) = some (.int (i - j)) := rfl
theorem add_ok {i j : Int} : addPV (.int i) (.int j) = some (.int (i + j)) := rfl
def dRest : MS :=
  (mSeq (mIf (boolOf (mOp ((ordPV oGt)) (mPenI 0 .digits) (mC (.int 0))))
    (mSeq (mSet 3 (mOp modPV (mBlt intcPV (mConsX (mPenI 0 .digits) (mNilX))) (mVarX 1)))
    (mSeq (mPenSet 0 .digits (mOp divPV (mPenI 0 .digits) (mVarX 1)))
    (mSeq (mRet (mVar 3))
    (mNx))))
    (mNx))
  (mSeq (mSet 4 (mOp modPV (mBlt intcPV (mConsX (mOp addPV (mOp addPV (mOp mulPV (mPenI 0 .fold) (mC (.int 48271))) (mOp mulPV (mPenI 0 .count) (mC (.int 7919)))) (mC (.int 13))) (mNilX))) (mC (.int 2147483647))))
  (mSeq (mSet 4 (mOp modPV (mBlt intcPV (mConsX (mOp addPV (mOp addPV (mOp mulPV (mVarX 4) (mVarX 4)) (mOp mulPV (mC (.int 31)) (mVarX 4))) (mPenI 0 .count)) (mNilX))) (mC (.int 2147483629))))
  (mSeq (mPenSet 0 .fold (mOp modPV (mBlt intcPV (mConsX (mOp addPV (mOp mulPV (mVarX 4) (mC (.int 16807))) (mC (.int 7))) (mNilX))) (mC (.int 2147483647))))
  (mSeq (mRet (mOp modPV (mBlt intcPV (mConsX (mOp divPV (mVarX 4) (mC (.int 64))) (mNilX))) (mVarX 1)))
  (mNx))))))
theorem rest_ok {c m : Int} {st : Pen} {x : Option SV} (b : PenB c st) (hc : c ≤ 1000000000000000) (h1 : 1 ≤ m) (h2 : m.natAbs.log2 < 9000) :
    ∃ d st', dRest [some .pen, some (.pv (.int m)), x, none, none] st = .rt (.int d) st' ∧ 0 ≤ d ∧ d < m ∧ PenB c st' := by
  have hm : m ≠ 0 := by omega
  by_cases hd : 0 < st.digits
  · refine ⟨st.digits.fmod m, { st with digits := st.digits.fdiv m }, ?_, Int.fmod_nonneg_of_pos _ (by omega), Int.fmod_lt_of_pos _ (by omega), ⟨⟨b.ok.1, b.ok.2.1, Int.fdiv_nonneg b.ok.2.2 (by omega)⟩, b.f0, b.f1, b.c0, b.c1⟩⟩
    have hq : 0 ≤ st.digits.fdiv m := Int.fdiv_nonneg b.ok.2.2 (by omega)
    simp [dRest, mSeq, mIf, boolOf, mOp, mPenI, mC, Res.bind, ordPV, oGt, PK.get, hd, mSet, toS, mBlt, mConsX, mNilX, intcPV, mVarX, mod_ok hm, div_ok hm h2, mPenSet, PK.set, hq, mRet, mVar, mNx]
  · have b0 := b.f0; have b1 := b.f1; have b2 := b.c0; have b3 := b.c1
    have g0 : ∀ i : Int, 0 ≤ i.fmod 2147483647 ∧ i.fmod 2147483647 < 2147483647 := fun i => ⟨Int.fmod_nonneg_of_pos _ (by decide), Int.fmod_lt_of_pos _ (by decide)⟩
    have g1 : ∀ i : Int, 0 ≤ i.fmod 2147483629 ∧ i.fmod 2147483629 < 2147483629 := fun i => ⟨Int.fmod_nonneg_of_pos _ (by decide), Int.fmod_lt_of_pos _ (by decide)⟩
    obtain ⟨x1, e1⟩ : ∃ x1, x1 = (st.fold * 48271 + st.count * 7919 + 13).fmod 2147483647 := ⟨_, rfl⟩
    obtain ⟨x2, e2⟩ : ∃ x2, x2 = (x1 * x1 + 31 * x1 + st.count).fmod 2147483629 := ⟨_, rfl⟩
    obtain ⟨y1, y2⟩ := g0 (st.fold * 48271 + st.count * 7919 + 13)
    rw [← e1] at y1 y2
    obtain ⟨z1, z2⟩ := g1 (x1 * x1 + 31 * x1 + st.count)
    rw [← e2] at z1 z2
    have m1 : mulPV (.int st.fold) (.int 48271) = _ := mul_ok (by omega) (by decide)
    have m2 : mulPV (.int st.count) (.int 7919) = _ := mul_ok (by omega) (by decide)
    have m3 : mulPV (.int x1) (.int x1) = _ := mul_ok (by omega) (by omega)
    have m4 : mulPV (.int 31) (.int x1) = _ := mul_ok (by decide) (by omega)
    have m5 : mulPV (.int x2) (.int 16807) = _ := mul_ok (by omega) (by decide)
    have n1 := fun i => mod_ok (i := i) (j := 2147483647) (by decide)
    have n2 := fun i => mod_ok (i := i) (j := 2147483629) (by decide)
    have n3 := fun i => mod_ok (i := i) (j := m) hm
    have d1 := div_ok (i := x2) (j := 64) (by decide) (by decide)
    refine ⟨(x2.fdiv 64).fmod m, { st with fold := (x2 * 16807 + 7).fmod 2147483647 }, ?_, Int.fmod_nonneg_of_pos _ (by omega), Int.fmod_lt_of_pos _ (by omega), ⟨⟨b.ok.1, b.ok.2.1, b.ok.2.2⟩, (g0 _).1, ?_, b.c0, b.c1⟩⟩
    · simp [dRest, mSeq, mIf, boolOf, mOp, mPenI, mC, Res.bind, ordPV, oGt, PK.get, hd, mSet, toS, mBlt, mConsX, mNilX, intcPV, mVarX, n1, n2, n3, d1, m1, m2, mPenSet, PK.set, mRet, mVar, mNx, add_ok, ← e1, m3, m4, ← e2, m5]
    · have := (g0 (x2 * 16807 + 7)).2
      show (x2 * 16807 + 7).fmod 2147483647 < 2147483648
      omega
theorem draw_ok {c m : Int} {st : Pen} (b : PenB c st) (hc : c ≤ 100000000000000) (h1 : 1 ≤ m) (h2 : m.natAbs.log2 < 9000) :
    ∃ d st', m_law_draw [.pen, .pv (.int m)] st = .ok (.int d) st' ∧ 0 ≤ d ∧ d < m ∧ PenB (c + 1) st' := by
  have fin : ∀ (x : Option SV) (st1 : Pen), PenB (c + 1) st1 → b_law_draw (initE n_law_draw [.pen, .pv (.int m)]) st = dRest [some .pen, some (.pv (.int m)), x, none, none] st1 → ∃ d st', m_law_draw [.pen, .pv (.int m)] st = .ok (.int d) st' ∧ 0 ≤ d ∧ d < m ∧ PenB (c + 1) st' := fun x st1 b1 e => by
    obtain ⟨d, st', k1, k2, k3, k4⟩ := rest_ok (x := x) b1 (by omega) h1 h2
    refine ⟨d, st', ?_, k2, k3, k4⟩
    unfold m_law_draw mFn
    rw [e, k1]
  have e0 : initE n_law_draw [.pen, .pv (.int m)] = [some .pen, some (.pv (.int m)), none, none, none] := rfl
  have b0 := b.f0; have b1 := b.f1; have b2 := b.c0; have b3 := b.c1
  obtain ⟨k1, k2, k3⟩ := b.ok
  rw [e0] at fin
  by_cases hd : st.digits = 0 ∧ st.at_ < st.cells.length
  · obtain ⟨hd1, hd2⟩ := hd
    have hx : atI (st.cells.map PV.int) (st.at_ : Int) = some (.int st.cells[st.at_]) := by
      unfold atI ixN
      rw [List.length_map, if_pos (by omega), if_pos (by omega), Option.bind_some, List.getElem?_map, Int.toNat_natCast, List.getElem?_eq_getElem hd2]
      rfl
    by_cases hb : 1000000000000000000 ≤ st.cells[st.at_]
    · refine fin (some (.pv (.int st.cells[st.at_]))) { st with count := st.count + 1, at_ := st.at_ + 1, digits := st.cells[st.at_] - 1000000000000000000 } ⟨⟨hd2, k2, by show 0 ≤ st.cells[st.at_] - 1000000000000000000; omega⟩, b0, b1, by show 0 ≤ st.count + 1; omega, by show st.count + 1 ≤ c + 1; omega⟩ ?_
      have ht : ((st.at_ : Int) + 1).toNat = st.at_ + 1 := by omega
      have hle : 0 ≤ (st.at_ : Int) + 1 ∧ (st.at_ : Int) + 1 ≤ st.cells.length := by omega
      have hz : 0 ≤ st.cells[st.at_] - 1000000000000000000 := by omega
      show mSeq _ (mSeq _ dRest) _ _ = _
      simp [mSeq, mIf, boolOf, mOp, mPenI, mC, Res.bind, ordPV, oLt, oGtE, PK.get, hd1, hd2, mSet, toS, mVarX, mPenSet, PK.set, mNx, add_ok, mAndT, eqOp, eqPV, mPenLen, mPenCell, hx, pow18, hb, sub_ok, ht, hle, hz]
    · have m1 : mulPV (.int st.fold) (.int 69069) = _ := mul_ok (by omega) (by decide)
      have n1 := fun i => mod_ok (i := i) (j := 2147483587) (by decide)
      refine fin (some (.pv (.int st.cells[st.at_]))) { st with count := st.count + 1, at_ := st.at_ + 1, fold := (st.fold * 69069 + st.cells[st.at_]).fmod 2147483587 } ⟨⟨hd2, k2, k3⟩, Int.fmod_nonneg_of_pos _ (by decide), ?_, by show 0 ≤ st.count + 1; omega, by show st.count + 1 ≤ c + 1; omega⟩ ?_
      · have := Int.fmod_lt_of_pos (st.fold * 69069 + st.cells[st.at_]) (show (0 : Int) < 2147483587 by decide)
        show (st.fold * 69069 + st.cells[st.at_]).fmod 2147483587 < 2147483648
        omega
      · have ht : ((st.at_ : Int) + 1).toNat = st.at_ + 1 := by omega
        have hle : 0 ≤ (st.at_ : Int) + 1 ∧ (st.at_ : Int) + 1 ≤ st.cells.length := by omega
        show mSeq _ (mSeq _ dRest) _ _ = _
        simp [mSeq, mIf, boolOf, mOp, mPenI, mC, Res.bind, ordPV, oLt, oGtE, PK.get, hd1, hd2, mSet, toS, mVarX, mPenSet, PK.set, mNx, add_ok, mAndT, eqOp, eqPV, mPenLen, mPenCell, hx, pow18, hb, m1, n1, ht, hle, mBlt, mConsX, mNilX, intcPV]
  · refine fin none { st with count := st.count + 1 } ⟨⟨k1, k2, k3⟩, b0, b1, by show 0 ≤ st.count + 1; omega, by show st.count + 1 ≤ c + 1; omega⟩ ?_
    show mSeq _ (mSeq _ dRest) _ _ = _
    by_cases h0 : st.digits = 0
    · have h3 : ¬ st.at_ < st.cells.length := fun z => hd ⟨h0, z⟩
      simp [mSeq, mIf, boolOf, mOp, mPenI, mC, Res.bind, ordPV, oLt, PK.get, h0, h3, toS, mPenSet, PK.set, mNx, add_ok, mAndT, eqOp, eqPV, mPenLen]
    · simp [mSeq, mIf, boolOf, mOp, mPenI, mC, Res.bind, ordPV, oLt, PK.get, h0, toS, mPenSet, PK.set, mNx, add_ok, mAndT, eqOp, eqPV]

/-! ### fields -/
def Low (s : Str) : Prop := ∀ c ∈ s.cps.toList, c < 16 ^ 8
theorem low_of (s : String) : Low (Str.ofString s) := fun c h => by
  rw [Str.ofString_eq_toList] at h
  simp only [List.mem_map] at h
  obtain ⟨x, _, rfl⟩ := h
  have h2 := x.val.toNat_lt
  show x.val.toNat < 16 ^ 8
  have e : (16 : Nat) ^ 8 = 2 ^ 32 := by decide
  omega
theorem low_app {a b : Str} (ha : Low a) (hb : Low b) : Low (a ++ b) := fun c h => by
  have h' : c ∈ (a.cps ++ b.cps).toList := h
  rw [Array.toList_append] at h'
  exact (List.mem_append.mp h').elim (ha c) (hb c)
theorem low_int (i : Int) : Low (PyData.int i).shown := by
  rw [PyData.shown_int]
  exact low_of _
structure Fld (x : PV) : Prop where
  ok : okD x = true
  sh : (toD x).showable = true
  dp : (toD x).depth ≤ 10
  ln : (toD x).shown.length ≤ 60
  lo : Low (toD x).shown
instance (s : Str) : Decidable (Low s) := inferInstanceAs (Decidable (∀ c ∈ s.cps.toList, c < 16 ^ 8))
theorem fld_non : Fld .non := ⟨rfl, by decide +kernel, by decide +kernel, by decide +kernel, by decide +kernel⟩
theorem fld_t : Fld (.bl true) := ⟨rfl, by decide +kernel, by decide +kernel, by decide +kernel, by decide +kernel⟩
theorem fld_f : Fld (.bl false) := ⟨rfl, by decide +kernel, by decide +kernel, by decide +kernel, by decide +kernel⟩
theorem fld_0 : Fld (.int 0) := ⟨rfl, by decide +kernel, by decide +kernel, by decide +kernel, by decide +kernel⟩
theorem fld_m : Fld (.int (-1)) := ⟨rfl, by decide +kernel, by decide +kernel, by decide +kernel, by decide +kernel⟩
theorem fld_x : Fld (.str "x") := ⟨rfl, by decide +kernel, by decide +kernel, by decide +kernel, by decide +kernel⟩
theorem fld_e : Fld (.str "") := ⟨rfl, by decide +kernel, by decide +kernel, by decide +kernel, by decide +kernel⟩
theorem fld_b : Fld (.int 10000000000000000000000000000000000000000) := ⟨rfl, by decide +kernel, by decide +kernel, by decide +kernel, by decide +kernel⟩
theorem fld_d : Fld (.dic [(.inr "k", .int 1)]) := ⟨rfl, by decide +kernel, by decide +kernel, by decide +kernel, by decide +kernel⟩
theorem log_s {d : Int} (h : d.natAbs < 10 ^ 12) : d.natAbs.log2 < 1920 := by
  by_cases z : d.natAbs = 0
  · rw [z]; decide
  · have q : d.natAbs.log2 < 40 := (Nat.log2_lt z).mpr (Nat.lt_of_lt_of_le h (by decide))
    omega
theorem fld_l {d : Int} (h : d.natAbs < 10 ^ 12) : Fld (.lst [.int d, .lst []]) := by
  have e : (toD (.lst [.int d, .lst []])) = .list [.int d, .list []] := by simp [toD, toDs]
  have s1 : (PyData.list [.int d, .list []]).shown = ("[" : Str) ++ ((PyData.int d).shown ++ ", " ++ (PyData.list []).shown) ++ "]" := by
    rw [PyData.shown_list, PyData.shownAll_cons, PyData.shownAll_cons, PyData.shownAll_nil]; rfl
  have l1 := PyData.shown_int_le h
  have l2 : (PyData.list []).shown.length = 2 := by decide +kernel
  refine ⟨by simp [okD, okDs], ?_, ?_, ?_, ?_⟩
  · rw [e]; simp [PyData.showable, PyData.showableAll, log_s h]
  · rw [e]; simp [PyData.depth, PyData.depthAll]
  · rw [e, s1]
    simp only [strLen_append]
    have a1 : ("[" : Str).length = 1 := by decide +kernel
    have a2 : (", " : Str).length = 2 := by decide +kernel
    have a3 : ("]" : Str).length = 1 := by decide +kernel
    omega
  · rw [e, s1]
    exact low_app (low_app (low_of _) (low_app (low_app (low_int _) (low_of _)) (by decide +kernel))) (low_of _)
theorem fld_a {d : Int} (h : d.natAbs < 10 ^ 12) : Fld (.tup [.str "a", .tup [.int d]]) := by
  have e : (toD (.tup [.str "a", .tup [.int d]])) = .tuple [.str "a", .tuple [.int d]] := by simp [toD, toDs]
  have s0 : (PyData.tuple [.int d]).shown = ("(" : Str) ++ (PyData.int d).shown ++ ",)" := by
    rw [PyData.shown_tuple, PyData.shownAll_cons, PyData.shownAll_nil]; rfl
  have s1 : (PyData.tuple [.str "a", .tuple [.int d]]).shown = ("(" : Str) ++ ((PyData.str "a").shown ++ ", " ++ (PyData.tuple [.int d]).shown) ++ ")" := by
    rw [PyData.shown_tuple, PyData.shownAll_cons, PyData.shownAll_cons, PyData.shownAll_nil]; rfl
  have l1 := PyData.shown_int_le h
  have l2 : (PyData.str "a").shown.length = 3 := by decide +kernel
  refine ⟨by simp [okD, okDs], ?_, ?_, ?_, ?_⟩
  · rw [e]; simp [PyData.showable, PyData.showableAll, log_s h]
  · rw [e]; simp [PyData.depth, PyData.depthAll]
  · rw [e, s1, s0]
    simp only [strLen_append]
    have a1 : ("(" : Str).length = 1 := by decide +kernel
    have a2 : (", " : Str).length = 2 := by decide +kernel
    have a3 : (")" : Str).length = 1 := by decide +kernel
    have a4 : (",)" : Str).length = 2 := by decide +kernel
    omega
  · rw [e, s1, s0]
    exact low_app (low_app (low_of _) (low_app (low_app (by decide +kernel) (low_of _)) (low_app (low_app (low_of _) (low_int _)) (low_of _)))) (low_of _)
/-- what stands in the told tuples -/
structure Ele (x : PV) : Prop where
  ok : okD x = true
  sh : (toD x).showable = true
  dp : (toD x).depth ≤ 20
  ln : (toD x).shown.length ≤ 700
theorem Fld.e {x : PV} (h : Fld x) : Ele x := ⟨h.ok, h.sh, by have := h.dp; omega, by have := h.ln; omega⟩
theorem Fld.rep {x : PV} (h : Fld x) : reprPV x = some (.str (toD x).shown) := by
  unfold reprPV reprB
  rw [h.ok, h.sh, decide_eq_true (show (toD x).depth ≤ 60 by have := h.dp; omega), decide_eq_true (show (toD x).shown.length ≤ 100000 by have := h.ln; omega)]
  rfl
theorem Fld.s {x : PV} (h : Fld x) : Ele (.str (toD x).shown) := by
  have e : toD (.str (toD x).shown) = .str (toD x).shown := by rw [toD]
  refine ⟨rfl, by rw [e]; rfl, by rw [e]; exact Nat.zero_le _, ?_⟩
  rw [e, PyData.shown_str]
  have := StrLaws.reprText_len (toD x).shown h.lo
  have := h.ln
  omega
theorem ele_w {s : Str} (h : (PyData.str s).shown.length ≤ 700) : Ele (.str s) := by
  have e : toD (.str s) = .str s := by rw [toD]
  exact ⟨rfl, by rw [e]; rfl, by rw [e]; exact Nat.zero_le _, by rw [e]; exact h⟩
theorem all_ok : ∀ {xs : List PV}, (∀ x ∈ xs, Ele x) → okDs xs = true ∧ PyData.showableAll (toDs xs) = true ∧ PyData.depthAll (toDs xs) ≤ 20 ∧ ((PyData.shownAll (toDs xs)).map (·.length)).sum ≤ 700 * xs.length ∧ (toDs xs).length = xs.length
  | [], _ => by simp [okDs, toDs, PyData.showableAll, PyData.depthAll, PyData.shownAll_nil]
  | x :: xs, h => by
    obtain ⟨h1, h2, h3, h4, h5⟩ := all_ok (xs := xs) fun y hy => h y (List.mem_cons_of_mem _ hy)
    have e := h x List.mem_cons_self
    have e3 := e.dp; have e4 := e.ln
    refine ⟨by simp [okDs, e.ok, h1], by simp [toDs, PyData.showableAll, e.sh, h2], by simp only [toDs, PyData.depthAll]; omega, ?_, by simp [toDs, h5]⟩
    simp only [toDs, PyData.shownAll_cons, List.map_cons, List.sum_cons, List.length_cons]
    omega
theorem tup_ok {xs : List PV} (h : ∀ x ∈ xs, Ele x) (hl : xs.length ≤ 100) : reprPV (.tup xs) = some (.str (toD (.tup xs)).shown) := by
  obtain ⟨h1, h2, h3, h4, h5⟩ := all_ok h
  have e : toD (.tup xs) = .tuple (toDs xs) := by rw [toD]
  have l := tupleText_len_le (PyData.shownAll (toDs xs))
  rw [PyData.shownAll_length, h5] at l
  have l2 : (PyData.tuple (toDs xs)).shown.length ≤ 100000 := by
    show (tupleText (PyData.shownAll (toDs xs))).length ≤ 100000
    omega
  unfold reprPV reprB
  rw [e, decide_eq_true l2, show (PyData.tuple (toDs xs)).showable = true by simp [PyData.showable, h2], decide_eq_true (show (PyData.tuple (toDs xs)).depth ≤ 60 by simp only [PyData.depth]; omega), show okD (.tup xs) = true by simp [okD, h1]]
  rfl

/-! ### the law -/
theorem penB0 (ns : List Int) (h : ns.length ≤ 1000) : PenB 0 (pen0 ns) := by
  have key : ∀ (l : List Int) (f : Int), 0 ≤ f → f < 2147483648 → 0 ≤ penFold l f ∧ penFold l f < 2147483648 := by
    intro l
    induction l with
    | nil => exact fun f h1 h2 => ⟨h1, h2⟩
    | cons x r ih =>
      intro f _ _
      have h1 : 0 ≤ (f * 47 + x).fmod 1000000007 := Int.fmod_nonneg_of_pos _ (by decide)
      have h2 := Int.fmod_lt_of_pos (f * 47 + x) (show (0 : Int) < 1000000007 by decide)
      exact ih _ h1 (by omega)
  obtain ⟨k1, k2⟩ := key ns 0 (by decide) (by decide)
  exact ⟨⟨Nat.zero_le _, h, Int.le_refl _⟩, k1, k2, Int.le_refl _, Int.le_refl _⟩
theorem PenB.mono {c d : Int} {st : Pen} (b : PenB c st) (h : c ≤ d) : PenB d st := ⟨b.ok, b.f0, b.f1, b.c0, Int.le_trans b.c1 h⟩
theorem draw_env {c m : Int} {env : Mir.Env} {st : Pen} (he : env.getD 0 none = some .pen) (b : PenB c st) (hc : c ≤ 100000000000000) (h1 : 1 ≤ m) (h2 : m.natAbs.log2 < 9000) :
    ∃ d st', mCall 2 m_law_draw (mCons (mVarV 0) (mCons (mV (mC (.int m))) (mNil))) env st = .ok (.int d) st' ∧ 0 ≤ d ∧ d < m ∧ PenB (c + 1) st' := by
  obtain ⟨d, st', e, k⟩ := draw_ok b hc h1 h2
  refine ⟨d, st', ?_, k⟩
  have he' : env[0]?.getD none = some .pen := by rw [← List.getD_eq_getElem?_getD]; exact he
  simp [mCall, mCons, mVarV, mV, mC, mNil, Res.bind, he', e]
theorem pick_ok {c : Int} {st : Pen} {xs : List PV} (b : PenB c st) (hc : c ≤ 100000000000000) (h1 : xs ≠ []) (h2 : xs.length < 1000) :
    ∃ x st', m_law_pick [.pen, .pv (.lst xs)] st = .ok x st' ∧ x ∈ xs ∧ PenB (c + 1) st' := by
  have hl : 1 ≤ xs.length := by
    cases xs with
    | nil => exact absurd rfl h1
    | cons a r => simp
  obtain ⟨d, st', e, k1, k2, k3⟩ := draw_ok (m := xs.length) b hc (by omega) (by
    have : (xs.length : Int).natAbs.log2 < 64 := log_lt (by omega)
    omega)
  have hd : d.toNat < xs.length := by omega
  have hx : atI xs d = some xs[d.toNat] := by
    unfold atI ixN
    rw [if_pos k1, if_pos k2, Option.bind_some, List.getElem?_eq_getElem hd]
  refine ⟨xs[d.toNat], st', ?_, List.getElem_mem hd, k3⟩
  simp [m_law_pick, n_law_pick, b_law_pick, mFn, initE, mSeq, mRet, toS, mOp, mVarX, mCall, mCons, mVarV, mV, mBlt, mConsX, mNilX, mNil, lenPV, Res.bind, e, ixPV, hx]
theorem field_ok {c : Int} {st : Pen} (b : PenB c st) (hc : c ≤ 1000000000000) : ∃ x st', m_law_field [.pen] st = .ok x st' ∧ Fld x ∧ PenB (c + 2) st' := by
  obtain ⟨d, st1, e, k1, k2, k3⟩ := draw_env (m := 8) (env := initE n_law_field [.pen]) rfl b (by omega) (by decide) (by decide +kernel)
  have e0 : initE n_law_field [.pen] = [some .pen, none] := rfl
  suffices hs : ∃ x st', b_law_field [some .pen, none] st = .rt x st' ∧ Fld x ∧ PenB (c + 2) st' by
    obtain ⟨x, st', q1, q2, q3⟩ := hs
    refine ⟨x, st', ?_, q2, q3⟩
    unfold m_law_field mFn
    rw [e0, q1]
  rw [e0] at e
  by_cases h0 : d = 0
  · subst h0
    obtain ⟨d2, st2, e2, l1, l2, l3⟩ := draw_ok (m := 100) k3 (by omega) (by decide) (by decide +kernel)
    refine ⟨.lst [.int d2, .lst []], st2, ?_, fld_l (by omega), l3.mono (by omega)⟩
    simp only [b_law_field, mSeq, mSet, e, toS, List.set]
    simp [mIf, boolOf, mOp, mVarX, Res.bind, mC, eqOp, eqPV, toS]
    simp [mSeq, mRet, mLE, mLst, mCall, mCons, mV, mVarV, mNil, e2, Res.bind, plains, toS, mC]
  · by_cases h1 : d = 1
    · subst h1
      obtain ⟨d2, st2, e2, l1, l2, l3⟩ := draw_ok (m := 1000000) k3 (by omega) (by decide) (by decide +kernel)
      refine ⟨.tup [.str "a", .tup [.int d2]], st2, ?_, fld_a (by omega), l3.mono (by omega)⟩
      have p6 : powPV (.int 10) (.int 6) = some (.int 1000000) := rfl
      simp only [b_law_field, mSeq, mSet, e, toS, List.set]
      simp [mIf, boolOf, mOp, mVarX, Res.bind, mC, eqOp, eqPV, toS, mNx]
      simp [mSeq, mRet, mTup, mCall, mCons, mV, mVarV, mNil, e2, Res.bind, plains, toS, mC, mOp, p6]
    · obtain ⟨x, st2, e2, l1, l2⟩ := pick_ok (xs := [.non, .bl true, .bl false, .int 0, .int (-1), .str "x", .str "", .int 10000000000000000000000000000000000000000, .dic [(.inr "k", .int 1)]]) k3 (by omega) (by simp) (by decide)
      refine ⟨x, st2, ?_, ?_, l2.mono (by omega)⟩
      · have p40 : powPV (.int 10) (.int 40) = some (.int 10000000000000000000000000000000000000000) := rfl
        simp only [b_law_field, mSeq, mSet, e, toS, List.set]
        simp [mIf, boolOf, mOp, mVarX, Res.bind, mC, eqOp, eqPV, toS, mNx, h0, h1]
        simp [mSeq, mRet, mCall, mCons, mV, mVarV, mNil, mLE, mLst, e2, Res.bind, plains, toS, mC, mOp, p40, mNeg]
      · simp only [List.mem_cons, List.not_mem_nil, or_false] at l1
        rcases l1 with rfl | rfl | rfl | rfl | rfl | rfl | rfl | rfl | rfl
        · exact fld_non
        · exact fld_t
        · exact fld_f
        · exact fld_0
        · exact fld_m
        · exact fld_x
        · exact fld_e
        · exact fld_b
        · exact fld_d

theorem kind_ok {a b c : PV} (ha : Fld a) (hb : Fld b) (hc : Fld c) (st : Pen) : ∀ k : Nat, k < 16 → ∃ (T : List PV), m_law_told [.pv (.int k), .pv a, .pv b, .pv c] st = .ok (.lst [.tup T]) st ∧ m_law_due [.pv (.int k), .pv a, .pv b, .pv c] st = .ok (.tup T) st ∧ (∀ x ∈ T, Ele x) ∧ T.length ≤ 100
  | 0, _ => ⟨_, told0 a b c _ _ ha.rep hb.rep st, due0 a b c _ _ ha.rep hb.rep st, List.forall_mem_cons.mpr ⟨ele_w (by decide +kernel), List.forall_mem_cons.mpr ⟨ha.e, List.forall_mem_cons.mpr ⟨hb.s, fun _ h => nomatch h⟩⟩⟩, by simp⟩
  | 1, _ => ⟨_, told1 a b c _ _ ha.rep hb.rep st, due1 a b c _ _ ha.rep hb.rep st, List.forall_mem_cons.mpr ⟨ele_w (by decide +kernel), List.forall_mem_cons.mpr ⟨ha.e, List.forall_mem_cons.mpr ⟨hb.s, fun _ h => nomatch h⟩⟩⟩, by simp⟩
  | 2, _ => ⟨_, told2 a b c _ _ ha.rep hb.rep st, due2 a b c _ _ ha.rep hb.rep st, List.forall_mem_cons.mpr ⟨ele_w (by decide +kernel), List.forall_mem_cons.mpr ⟨ha.e, fun _ h => nomatch h⟩⟩, by simp⟩
  | 3, _ => ⟨_, told3 a b c _ _ ha.rep hb.rep st, due3 a b c _ _ ha.rep hb.rep st, List.forall_mem_cons.mpr ⟨ele_w (by decide +kernel), List.forall_mem_cons.mpr ⟨ha.e, fun _ h => nomatch h⟩⟩, by simp⟩
  | 4, _ => ⟨_, told4 a b c _ _ ha.rep hb.rep st, due4 a b c _ _ ha.rep hb.rep st, List.forall_mem_cons.mpr ⟨ele_w (by decide +kernel), List.forall_mem_cons.mpr ⟨ha.e, List.forall_mem_cons.mpr ⟨hb.s, fun _ h => nomatch h⟩⟩⟩, by simp⟩
  | 5, _ => ⟨_, told5 a b c _ _ ha.rep hb.rep st, due5 a b c _ _ ha.rep hb.rep st, List.forall_mem_cons.mpr ⟨ele_w (by decide +kernel), List.forall_mem_cons.mpr ⟨ha.s, fun _ h => nomatch h⟩⟩, by simp⟩
  | 6, _ => ⟨_, told6 a b c _ _ ha.rep hb.rep st, due6 a b c _ _ ha.rep hb.rep st, List.forall_mem_cons.mpr ⟨ele_w (by decide +kernel), List.forall_mem_cons.mpr ⟨ha.e, List.forall_mem_cons.mpr ⟨hb.e, fun _ h => nomatch h⟩⟩⟩, by simp⟩
  | 7, _ => ⟨_, told7 a b c _ _ ha.rep hb.rep st, due7 a b c _ _ ha.rep hb.rep st, List.forall_mem_cons.mpr ⟨ele_w (by decide +kernel), List.forall_mem_cons.mpr ⟨ha.e, List.forall_mem_cons.mpr ⟨hb.s, fun _ h => nomatch h⟩⟩⟩, by simp⟩
  | 8, _ => ⟨_, told8 a b c _ _ ha.rep hb.rep st, due8 a b c _ _ ha.rep hb.rep st, List.forall_mem_cons.mpr ⟨ele_w (by decide +kernel), List.forall_mem_cons.mpr ⟨ha.s, fun _ h => nomatch h⟩⟩, by simp⟩
  | 9, _ => ⟨_, told9 a b c _ _ ha.rep hb.rep st, due9 a b c _ _ ha.rep hb.rep st, List.forall_mem_cons.mpr ⟨ele_w (by decide +kernel), List.forall_mem_cons.mpr ⟨ha.s, fun _ h => nomatch h⟩⟩, by simp⟩
  | 10, _ => ⟨_, told10 a b c _ _ ha.rep hb.rep st, due10 a b c _ _ ha.rep hb.rep st, List.forall_mem_cons.mpr ⟨ele_w (by decide +kernel), List.forall_mem_cons.mpr ⟨ha.e, fun _ h => nomatch h⟩⟩, by simp⟩
  | 11, _ => ⟨_, told11 a b c _ _ ha.rep hb.rep st, due11 a b c _ _ ha.rep hb.rep st, List.forall_mem_cons.mpr ⟨ele_w (by decide +kernel), List.forall_mem_cons.mpr ⟨ha.e, fun _ h => nomatch h⟩⟩, by simp⟩
  | 12, _ => ⟨_, told12 a b c _ _ ha.rep hb.rep st, due12 a b c _ _ ha.rep hb.rep st, List.forall_mem_cons.mpr ⟨ele_w (by decide +kernel), List.forall_mem_cons.mpr ⟨ha.e, List.forall_mem_cons.mpr ⟨hb.e, List.forall_mem_cons.mpr ⟨hc.e, fun _ h => nomatch h⟩⟩⟩⟩, by simp⟩
  | 13, _ => ⟨_, told13 a b c _ _ ha.rep hb.rep st, due13 a b c _ _ ha.rep hb.rep st, List.forall_mem_cons.mpr ⟨ele_w (by decide +kernel), List.forall_mem_cons.mpr ⟨ha.e, List.forall_mem_cons.mpr ⟨hb.e, fun _ h => nomatch h⟩⟩⟩, by simp⟩
  | 14, _ => ⟨_, told14 a b c _ _ ha.rep hb.rep st, due14 a b c _ _ ha.rep hb.rep st, List.forall_mem_cons.mpr ⟨ele_w (by decide +kernel), fun _ h => nomatch h⟩, by simp⟩
  | 15, _ => ⟨_, told15 a b c _ _ ha.rep hb.rep st, due15 a b c _ _ ha.rep hb.rep st, List.forall_mem_cons.mpr ⟨ele_w (by decide +kernel), fun _ h => nomatch h⟩, by simp⟩
  | n + 16, h => absurd h (by omega)
theorem forS_inv {f : PV → Mir.Env → Option Mir.Env} {body : MS} {P : Nat → Mir.Env → Pen → Prop} : ∀ (xs : List PV) (i : Nat) (env : Mir.Env) (st : Pen),
    (∀ j x env st, xs[j]? = some x → P (i + j) env st → ∃ env1 env2 st2, f x env = some env1 ∧ body env1 st = .nx env2 st2 ∧ P (i + j + 1) env2 st2) → P i env st → ∃ env' st', forS f body xs env st = .nx env' st' ∧ P (i + xs.length) env' st'
  | [], i, env, st, _, h => ⟨env, st, rfl, h⟩
  | x :: xs, i, env, st, hb, h => by
    obtain ⟨env1, env2, st2, e1, e2, h2⟩ := hb 0 x env st rfl h
    obtain ⟨env', st', e3, h3⟩ := forS_inv (f := f) (body := body) (P := P) xs (i + 1) env2 st2 (fun j y en s ej hp => by
      obtain ⟨a1, a2, a3, a4, a5, a6⟩ := hb (j + 1) y en s (by simpa using ej) (by rw [show i + (j + 1) = i + 1 + j by omega]; exact hp)
      exact ⟨a1, a2, a3, a4, a5, by rw [show i + 1 + j + 1 = i + (j + 1) + 1 by omega]; exact a6⟩) h2
    refine ⟨env', st', ?_, by rw [List.length_cons, show i + (xs.length + 1) = i + 1 + xs.length by omega]; exact h3⟩
    unfold forS
    rw [e1]
    dsimp only
    rw [e2]
    exact e3
def turn : MS :=
    (mSeq (mPar3 3 4 5 (mCons (mV (mCall 1 m_law_field (mCons (mVarV 1) (mNil)))) (mCons (mV (mCall 1 m_law_field (mCons (mVarV 1) (mNil)))) (mCons (mV (mCall 1 m_law_field (mCons (mVarV 1) (mNil)))) (mNil)))))
    (mSeq (mSet 6 (mCall 4 m_law_told (mCons (mVarV 2) (mCons (mVarV 3) (mCons (mVarV 4) (mCons (mVarV 5) (mNil)))))))
    (mSeq (mIf (mOrT (boolOf (mIsN false (mVarX 6))) (mOrT (boolOf (mOp (neOp) (mBlt lenPV (mConsX (mVarX 6) (mNilX))) (mC (.int 1)))) (boolOf (mOp (neOp) (mOne reprPV (mOp ixPV (mVarX 6) (mC (.int 0)))) (mOne reprPV (mCall 4 m_law_due (mCons (mVarV 2) (mCons (mVarV 3) (mCons (mVarV 4) (mCons (mVarV 5) (mNil)))))))))))
      (mSeq (mRet (mC (.bl false)))
      (mNx))
      (mNx))
    (mNx))))
def Inv0 (i : Nat) (env : Mir.Env) (st : Pen) : Prop := ∃ o2 o3 o4 o5 o6, env = [none, some .pen, o2, o3, o4, o5, o6] ∧ PenB (6 * i) st
theorem turn_ok {k : Nat} (hk : k < 16) {o3 o4 o5 o6 : Option SV} {st : Pen} (b : PenB (6 * k) st) :
    ∃ env2 st2, turn [none, some .pen, some (.pv (.int k)), o3, o4, o5, o6] st = .nx env2 st2 ∧ Inv0 (k + 1) env2 st2 := by
  obtain ⟨x, st1, e1, f1, b1⟩ := field_ok b (by omega)
  obtain ⟨y, st2, e2, f2, b2⟩ := field_ok b1 (by omega)
  obtain ⟨z, st3, e3, f3, b3⟩ := field_ok b2 (by omega)
  obtain ⟨T, t1, t2, t3, t4⟩ := kind_ok f1 f2 f3 st3 k hk
  have r := tup_ok t3 t4
  refine ⟨[none, some .pen, some (.pv (.int k)), some (.pv x), some (.pv y), some (.pv z), some (.pv (.lst [.tup T]))], st3, ?_, _, _, _, _, _, rfl, b3.mono (by omega)⟩
  simp [turn, mSeq, mPar3, mCons, mV, mCall, mVarV, mNil, Res.bind, e1, e2, e3, toS, plains, mSet, t1, mIf, mOrT, boolOf, mIsN, mVarX, Mir.isNon, mOp, neOp, eqPV, mBlt, mConsX, mNilX, lenPV, mC, mOne, ixPV, atI, ixN, r, t2, mNx]
theorem pure_law (ns : List Int) (h1 : ns.length ≤ 63) (_ : ∀ z ∈ ns, Builtin.Int.intBits z ≤ 1048576) : ∃ st', b_law (penE n_law) (pen0 ns) = .rt (.bl true) st' := by
  have b0 := penB0 ns (Nat.le_trans h1 (by decide))
  have hl : (rangeP 0 16).length = 16 := by simp [rangeP]
  have hx : ∀ j x, (rangeP 0 16)[j]? = some x → x = .int j ∧ j < 16 := fun j x e => by
    unfold rangeP at e
    rw [List.getElem?_map] at e
    by_cases h : j < 16
    · rw [List.getElem?_range h] at e
      have e' : some (PV.int (0 + (j : Int))) = some x := e
      have e2 := Option.some.inj e'
      rw [Int.zero_add] at e2
      exact ⟨e2.symm, h⟩
    · rw [List.getElem?_eq_none (by simpa using h)] at e
      cases e
  obtain ⟨env', st', e, _⟩ := forS_inv (f := fName 2) (body := turn) (P := Inv0) (rangeP 0 16) 0 (penE n_law) (pen0 ns) (fun j x env st ej hp => by
    obtain ⟨rfl, hj⟩ := hx j x ej
    obtain ⟨o2, o3, o4, o5, o6, rfl, b⟩ := hp
    rw [Nat.zero_add] at b ⊢
    obtain ⟨env2, st2, k1, k2⟩ := turn_ok hj (o3 := o3) (o4 := o4) (o5 := o5) (o6 := o6) b
    exact ⟨_, env2, st2, rfl, k1, k2⟩) ⟨_, _, _, _, _, rfl, b0⟩
  refine ⟨st', ?_⟩
  show mSeq (mFor (fName 2) (mRange1 (mC (.int 16))) turn) _ (penE n_law) (pen0 ns) = _
  unfold mSeq mFor mRange1 mC
  simp only [Res.bind, toS]
  have h16 : (-1000000 : Int) ≤ 16 ∧ (16 : Int) ≤ 1000000 := by decide
  have ht : (16 : Int).toNat = 16 := rfl
  rw [if_pos h16, ht]
  dsimp only
  rw [e]
  simp [mSeq, mRet, mC, toS]

theorem ini_BadNumber {w : Wd} {f : Addr} {fd : FuncData} (Fd : FunD w.K di_BadNumber.name di_BadNumber.qual di_BadNumber.params di_BadNumber.body di_BadNumber.scope (di_BadNumber.dvs w.K) (di_BadNumber.kws w.K) f fd) : FnOk w.P w.wd w.K w.mg w.base (L2.CX w.P w.wd) 1 f fd [("self" : Str), "what", "number"] (spIni w.K ["what", "number"]) ∧ L2.Binds w.K fd [("self" : Str), "what", "number"] [] :=
  ⟨fn_ini Fd ⟨rfl, rfl, rfl, by decide +kernel, rfl, by decide +kernel, by decide +kernel⟩ (by simp) (by decide) (by decide +kernel) (by decide +kernel), Fd.bindsN fun _ _ _ _ _ _ us hl => match us, hl with | [_, _, _], _ => rfl⟩
theorem ini_BadRow {w : Wd} {f : Addr} {fd : FuncData} (Fd : FunD w.K di_BadRow.name di_BadRow.qual di_BadRow.params di_BadRow.body di_BadRow.scope (di_BadRow.dvs w.K) (di_BadRow.kws w.K) f fd) : FnOk w.P w.wd w.K w.mg w.base (L2.CX w.P w.wd) 1 f fd [("self" : Str), "what", "row"] (spIni w.K ["what", "row"]) ∧ L2.Binds w.K fd [("self" : Str), "what", "row"] [] :=
  ⟨fn_ini Fd ⟨rfl, rfl, rfl, by decide +kernel, rfl, by decide +kernel, by decide +kernel⟩ (by simp) (by decide) (by decide +kernel) (by decide +kernel), Fd.bindsN fun _ _ _ _ _ _ us hl => match us, hl with | [_, _, _], _ => rfl⟩
theorem ini_BadTable {w : Wd} {f : Addr} {fd : FuncData} (Fd : FunD w.K di_BadTable.name di_BadTable.qual di_BadTable.params di_BadTable.body di_BadTable.scope (di_BadTable.dvs w.K) (di_BadTable.kws w.K) f fd) : FnOk w.P w.wd w.K w.mg w.base (L2.CX w.P w.wd) 1 f fd [("self" : Str), "what"] (spIni w.K ["what"]) ∧ L2.Binds w.K fd [("self" : Str), "what"] [] :=
  ⟨fn_ini Fd ⟨rfl, rfl, rfl, by decide +kernel, rfl, by decide +kernel, by decide +kernel⟩ (by simp) (by decide) (by decide +kernel) (by decide +kernel), Fd.bindsN fun _ _ _ _ _ _ us hl => match us, hl with | [_, _], _ => rfl⟩
theorem ini_BadPoly {w : Wd} {f : Addr} {fd : FuncData} (Fd : FunD w.K di_BadPoly.name di_BadPoly.qual di_BadPoly.params di_BadPoly.body di_BadPoly.scope (di_BadPoly.dvs w.K) (di_BadPoly.kws w.K) f fd) : FnOk w.P w.wd w.K w.mg w.base (L2.CX w.P w.wd) 1 f fd [("self" : Str), "what"] (spIni w.K ["what"]) ∧ L2.Binds w.K fd [("self" : Str), "what"] [] :=
  ⟨fn_ini Fd ⟨rfl, rfl, rfl, by decide +kernel, rfl, by decide +kernel, by decide +kernel⟩ (by simp) (by decide) (by decide +kernel) (by decide +kernel), Fd.bindsN fun _ _ _ _ _ _ us hl => match us, hl with | [_, _], _ => rfl⟩
theorem ini_BadLot {w : Wd} {f : Addr} {fd : FuncData} (Fd : FunD w.K di_BadLot.name di_BadLot.qual di_BadLot.params di_BadLot.body di_BadLot.scope (di_BadLot.dvs w.K) (di_BadLot.kws w.K) f fd) : FnOk w.P w.wd w.K w.mg w.base (L2.CX w.P w.wd) 1 f fd [("self" : Str), "what", "lot"] (spIni w.K ["what", "lot"]) ∧ L2.Binds w.K fd [("self" : Str), "what", "lot"] [] :=
  ⟨fn_ini Fd ⟨rfl, rfl, rfl, by decide +kernel, rfl, by decide +kernel, by decide +kernel⟩ (by simp) (by decide) (by decide +kernel) (by decide +kernel), Fd.bindsN fun _ _ _ _ _ _ us hl => match us, hl with | [_, _, _], _ => rfl⟩
theorem ini_BadName {w : Wd} {f : Addr} {fd : FuncData} (Fd : FunD w.K di_BadName.name di_BadName.qual di_BadName.params di_BadName.body di_BadName.scope (di_BadName.dvs w.K) (di_BadName.kws w.K) f fd) : FnOk w.P w.wd w.K w.mg w.base (L2.CX w.P w.wd) 1 f fd [("self" : Str), "name"] (spIni w.K ["name"]) ∧ L2.Binds w.K fd [("self" : Str), "name"] [] :=
  ⟨fn_ini Fd ⟨rfl, rfl, rfl, by decide +kernel, rfl, by decide +kernel, by decide +kernel⟩ (by simp) (by decide) (by decide +kernel) (by decide +kernel), Fd.bindsN fun _ _ _ _ _ _ us hl => match us, hl with | [_, _], _ => rfl⟩
theorem ini_BadText {w : Wd} {f : Addr} {fd : FuncData} (Fd : FunD w.K di_BadText.name di_BadText.qual di_BadText.params di_BadText.body di_BadText.scope (di_BadText.dvs w.K) (di_BadText.kws w.K) f fd) : FnOk w.P w.wd w.K w.mg w.base (L2.CX w.P w.wd) 1 f fd [("self" : Str), "line", "word"] (spIni w.K ["line", "word"]) ∧ L2.Binds w.K fd [("self" : Str), "line", "word"] [] :=
  ⟨fn_ini Fd ⟨rfl, rfl, rfl, by decide +kernel, rfl, by decide +kernel, by decide +kernel⟩ (by simp) (by decide) (by decide +kernel) (by decide +kernel), Fd.bindsN fun _ _ _ _ _ _ us hl => match us, hl with | [_, _, _], _ => rfl⟩
theorem ini_NoPlace {w : Wd} {f : Addr} {fd : FuncData} (Fd : FunD w.K di_NoPlace.name di_NoPlace.qual di_NoPlace.params di_NoPlace.body di_NoPlace.scope (di_NoPlace.dvs w.K) (di_NoPlace.kws w.K) f fd) : FnOk w.P w.wd w.K w.mg w.base (L2.CX w.P w.wd) 1 f fd [("self" : Str), "what", "index"] (spIni w.K ["what", "index"]) ∧ L2.Binds w.K fd [("self" : Str), "what", "index"] [] :=
  ⟨fn_ini Fd ⟨rfl, rfl, rfl, by decide +kernel, rfl, by decide +kernel, by decide +kernel⟩ (by simp) (by decide) (by decide +kernel) (by decide +kernel), Fd.bindsN fun _ _ _ _ _ _ us hl => match us, hl with | [_, _, _], _ => rfl⟩
theorem ini_NoName {w : Wd} {f : Addr} {fd : FuncData} (Fd : FunD w.K di_NoName.name di_NoName.qual di_NoName.params di_NoName.body di_NoName.scope (di_NoName.dvs w.K) (di_NoName.kws w.K) f fd) : FnOk w.P w.wd w.K w.mg w.base (L2.CX w.P w.wd) 1 f fd [("self" : Str), "name"] (spIni w.K ["name"]) ∧ L2.Binds w.K fd [("self" : Str), "name"] [] :=
  ⟨fn_ini Fd ⟨rfl, rfl, rfl, by decide +kernel, rfl, by decide +kernel, by decide +kernel⟩ (by simp) (by decide) (by decide +kernel) (by decide +kernel), Fd.bindsN fun _ _ _ _ _ _ us hl => match us, hl with | [_, _], _ => rfl⟩
theorem ini_TakenName {w : Wd} {f : Addr} {fd : FuncData} (Fd : FunD w.K di_TakenName.name di_TakenName.qual di_TakenName.params di_TakenName.body di_TakenName.scope (di_TakenName.dvs w.K) (di_TakenName.kws w.K) f fd) : FnOk w.P w.wd w.K w.mg w.base (L2.CX w.P w.wd) 1 f fd [("self" : Str), "name"] (spIni w.K ["name"]) ∧ L2.Binds w.K fd [("self" : Str), "name"] [] :=
  ⟨fn_ini Fd ⟨rfl, rfl, rfl, by decide +kernel, rfl, by decide +kernel, by decide +kernel⟩ (by simp) (by decide) (by decide +kernel) (by decide +kernel), Fd.bindsN fun _ _ _ _ _ _ us hl => match us, hl with | [_, _], _ => rfl⟩
theorem ini_Unlike {w : Wd} {f : Addr} {fd : FuncData} (Fd : FunD w.K di_Unlike.name di_Unlike.qual di_Unlike.params di_Unlike.body di_Unlike.scope (di_Unlike.dvs w.K) (di_Unlike.kws w.K) f fd) : FnOk w.P w.wd w.K w.mg w.base (L2.CX w.P w.wd) 1 f fd [("self" : Str), "what"] (spIni w.K ["what"]) ∧ L2.Binds w.K fd [("self" : Str), "what"] [] :=
  ⟨fn_ini Fd ⟨rfl, rfl, rfl, by decide +kernel, rfl, by decide +kernel, by decide +kernel⟩ (by simp) (by decide) (by decide +kernel) (by decide +kernel), Fd.bindsN fun _ _ _ _ _ _ us hl => match us, hl with | [_, _], _ => rfl⟩
theorem ini_NotThere {w : Wd} {f : Addr} {fd : FuncData} (Fd : FunD w.K di_NotThere.name di_NotThere.qual di_NotThere.params di_NotThere.body di_NotThere.scope (di_NotThere.dvs w.K) (di_NotThere.kws w.K) f fd) : FnOk w.P w.wd w.K w.mg w.base (L2.CX w.P w.wd) 1 f fd [("self" : Str), "paper"] (spIni w.K ["paper"]) ∧ L2.Binds w.K fd [("self" : Str), "paper"] [] :=
  ⟨fn_ini Fd ⟨rfl, rfl, rfl, by decide +kernel, rfl, by decide +kernel, by decide +kernel⟩ (by simp) (by decide) (by decide +kernel) (by decide +kernel), Fd.bindsN fun _ _ _ _ _ _ us hl => match us, hl with | [_, _], _ => rfl⟩
theorem ini_TooMany {w : Wd} {f : Addr} {fd : FuncData} (Fd : FunD w.K di_TooMany.name di_TooMany.qual di_TooMany.params di_TooMany.body di_TooMany.scope (di_TooMany.dvs w.K) (di_TooMany.kws w.K) f fd) : FnOk w.P w.wd w.K w.mg w.base (L2.CX w.P w.wd) 1 f fd [("self" : Str), "what", "many", "limit"] (spIni w.K ["what", "many", "limit"]) ∧ L2.Binds w.K fd [("self" : Str), "what", "many", "limit"] [] :=
  ⟨fn_ini Fd ⟨rfl, rfl, rfl, by decide +kernel, rfl, by decide +kernel, by decide +kernel⟩ (by simp) (by decide) (by decide +kernel) (by decide +kernel), Fd.bindsN fun _ _ _ _ _ _ us hl => match us, hl with | [_, _, _, _], _ => rfl⟩
theorem ini_NotKept {w : Wd} {f : Addr} {fd : FuncData} (Fd : FunD w.K di_NotKept.name di_NotKept.qual di_NotKept.params di_NotKept.body di_NotKept.scope (di_NotKept.dvs w.K) (di_NotKept.kws w.K) f fd) : FnOk w.P w.wd w.K w.mg w.base (L2.CX w.P w.wd) 1 f fd [("self" : Str), "promise", "witness"] (spIni w.K ["promise", "witness"]) ∧ L2.Binds w.K fd [("self" : Str), "promise", "witness"] [] :=
  ⟨fn_ini Fd ⟨rfl, rfl, rfl, by decide +kernel, rfl, by decide +kernel, by decide +kernel⟩ (by simp) (by decide) (by decide +kernel) (by decide +kernel), Fd.bindsN fun _ _ _ _ _ _ us hl => match us, hl with | [_, _, _], _ => rfl⟩
abbrev Ds (w : Wd) : Prop := ∀ (i : Nat) {d : He.DefD}, fns[i]? = some d → ∃ fd, FunD w.K d.name d.qual d.params d.body d.scope (d.dvs w.K) (d.kws w.K) (He.fAd w.K d.at_) fd
theorem hini {w : Wd} (D : Ds w) : ∀ e ∈ exts, e.fields ≠ [] → ∃ fd, FnOk w.P w.wd w.K w.mg w.base (L2.CX w.P w.wd) 1 (He.ma w.K (He.ga w.K e.name) "__init__") fd (("self" : Str) :: e.fields) (spIni w.K e.fields) ∧ L2.Binds w.K fd (("self" : Str) :: e.fields) [] :=
  List.forall_mem_cons.mpr ⟨fun h => absurd rfl h,
  List.forall_mem_cons.mpr ⟨fun _ => let ⟨fd, Fd⟩ := D 11 (d := di_BadNumber) rfl; ⟨fd, ini_BadNumber Fd⟩,
  List.forall_mem_cons.mpr ⟨fun _ => let ⟨fd, Fd⟩ := D 12 (d := di_BadRow) rfl; ⟨fd, ini_BadRow Fd⟩,
  List.forall_mem_cons.mpr ⟨fun _ => let ⟨fd, Fd⟩ := D 13 (d := di_BadTable) rfl; ⟨fd, ini_BadTable Fd⟩,
  List.forall_mem_cons.mpr ⟨fun _ => let ⟨fd, Fd⟩ := D 14 (d := di_BadPoly) rfl; ⟨fd, ini_BadPoly Fd⟩,
  List.forall_mem_cons.mpr ⟨fun _ => let ⟨fd, Fd⟩ := D 15 (d := di_BadLot) rfl; ⟨fd, ini_BadLot Fd⟩,
  List.forall_mem_cons.mpr ⟨fun _ => let ⟨fd, Fd⟩ := D 16 (d := di_BadName) rfl; ⟨fd, ini_BadName Fd⟩,
  List.forall_mem_cons.mpr ⟨fun _ => let ⟨fd, Fd⟩ := D 17 (d := di_BadText) rfl; ⟨fd, ini_BadText Fd⟩,
  List.forall_mem_cons.mpr ⟨fun _ => let ⟨fd, Fd⟩ := D 18 (d := di_NoPlace) rfl; ⟨fd, ini_NoPlace Fd⟩,
  List.forall_mem_cons.mpr ⟨fun _ => let ⟨fd, Fd⟩ := D 19 (d := di_NoName) rfl; ⟨fd, ini_NoName Fd⟩,
  List.forall_mem_cons.mpr ⟨fun _ => let ⟨fd, Fd⟩ := D 20 (d := di_TakenName) rfl; ⟨fd, ini_TakenName Fd⟩,
  List.forall_mem_cons.mpr ⟨fun _ => let ⟨fd, Fd⟩ := D 21 (d := di_Unlike) rfl; ⟨fd, ini_Unlike Fd⟩,
  List.forall_mem_cons.mpr ⟨fun _ => let ⟨fd, Fd⟩ := D 22 (d := di_NotThere) rfl; ⟨fd, ini_NotThere Fd⟩,
  List.forall_mem_cons.mpr ⟨fun _ => let ⟨fd, Fd⟩ := D 23 (d := di_TooMany) rfl; ⟨fd, ini_TooMany Fd⟩,
  List.forall_mem_cons.mpr ⟨fun _ => let ⟨fd, Fd⟩ := D 24 (d := di_NotKept) rfl; ⟨fd, ini_NotKept Fd⟩,
  List.forall_mem_cons.mpr ⟨fun h => absurd rfl h,
  List.forall_mem_cons.mpr ⟨fun h => absurd rfl h,
  fun _ h => nomatch h⟩⟩⟩⟩⟩⟩⟩⟩⟩⟩⟩⟩⟩⟩⟩⟩⟩
def facts : List He.Fa := glos.map He.Fa.glo ++ frees.map He.Fa.free
def ex : PySem.W.Frag → Bool := exB exts 0
theorem top_of {w : Wd} {h : Heap} (X : w.K.In h) (G : h.Ns mainGlobals w.mg) (hca : w.ca = caOf w.K exts) (c : SaysM facts fns [] ex h w.K) : Top w := by
  have D : Ds w := fun i d hd => c.d.def_ i hd
  obtain ⟨tx, te⟩ := exB_ok X G hca c.more (hini D)
  refine ⟨c.sys, fun x hx => He.free_ok X G (c.d.facts (f := .free x) ?_), tx, te, D, fun x hx => He.glo_ok X G (c.d.facts (f := .glo x) ?_)⟩
  · exact List.mem_append_right _ (List.mem_map.mpr ⟨x, hx, rfl⟩)
  · exact List.mem_append_left _ (List.mem_map.mpr ⟨x, hx, rfl⟩)
theorem own_pen {w : Wd} (T : Top w) : ∃ (fP : Addr) (fdP : FuncData), FnOk w.P w.wd w.K w.mg w.base (L2.CX w.P w.wd) 1 fP fdP [("script" : Str)] (spPen w.K) ∧ w.mg "_law_pen" = some (.ref fP) ∧ PySem.W.keepIn w.K (.ref fP) = true ∧ L2.Binds w.K fdP [("script" : Str)] [] := by
  obtain ⟨fd, Fd⟩ := T.d 0 (d := d_law_pen) rfl
  refine ⟨_, fd, fn_pen Fd ⟨rfl, rfl, rfl, by decide +kernel, rfl, by decide +kernel, by decide +kernel⟩ fun X h1 h2 h3 h4 h5 h6 => ?_, T.g "_law_pen" (by decide), Fd.kp, Fd.bindsN fun _ _ _ _ _ _ us hl => match us, hl with | [_], _ => rfl⟩
  rw [← h4]
  exact walk_pen h1 (by rw [h1, h2]; decide +kernel) (by rw [h2]; decide +kernel) (by rw [h2]; decide +kernel) (by rw [h3]; exact T.fr "int" (by decide)) (by rw [h3]; exact T.fr "list" (by decide)) h5 h6
theorem law_go {w : Wd} (T : Top w) : ∃ (f : Addr), w.mg "law" = some (.ref f) ∧ ∀ (ns : List Int), (∃ st', b_law (penE n_law) (pen0 ns) = .rt (.bl true) st') → ns.length ≤ 63 → ∀ (H : Hp) (s : Shared) (a : Addr), SqL w.K H a (ns.map V.int) → Env0 w.P w.wd w.K w.mg w.base callerA [] s H →
    codeAny (model w.P w.wd) callerA (.call (.ref f) ⟨[.ref a], []⟩) (CR (L2.CX w.P w.wd) [] w.P w.wd H s (fun v _ => v = .bl true) (fun _ _ _ => False)) s := by
  obtain ⟨fP, fdP, F1, F2, F3, F4⟩ := own_pen T
  obtain ⟨fd, Fd⟩ := T.d 10 (d := d_law) rfl
  refine ⟨_, T.g "law" (by decide), fun ns ⟨st', hm⟩ hn H s a hS e0 => ?_⟩
  exact law_run (k := 4) (N' := n_law.tail.tail) Fd sc_law F1 F2 F3 F4 (by decide) (by decide +kernel) (fun W => w_law T W) hm (Nat.le_trans hn (by decide)) ⟨by decide, by decide, rfl⟩ rfl e0 (by
    have b : L2.Binds w.K fd [("script" : Str)] [] := Fd.bindsN fun _ _ _ _ _ _ us hl => match us, hl with | [_], _ => rfl
    exact b s [.ref a] (e0.mod.kin.keeps fun b o e => (e0.bs b o e).1) rfl) hS
abbrev R : PySem.W.OpenRow := PySem.W.OpenLaw.row PySem.Challenge.rw_oneplus_k01_errors_as_told
abbrev hk : PySem.W.Hook := hookM 6 facts fns [] ex
def ob (s : PySem.W.SharedT) : AlM := obsM 6 facts fns [] ex (HandSHeadRun.getT s)
theorem ob_eq (s : PySem.W.SharedT) : ob s = hk.obs s.abs := obsM_eq (HandSHeadRun.getT_eq s)
def loose : List PySem.Str := ["PlusError", "BadNumber", "BadRow", "BadTable", "BadPoly", "BadLot", "BadName", "BadText", "NoPlace", "NoName", "TakenName", "Unlike", "NotThere", "TooMany", "NotKept", "NothingToUndo", "NothingToRedo", "_law_pen", "_law_draw", "_law_pick", "_law_kinds", "_law_more_kinds", "_law_field", "_law_raised", "_law_raised_too", "_law_told", "_law_due"]
abbrev iLaw : Nat := 29
theorem run (w : World) : HandSHeadRun.RunEq R (PySem.W.view R.prog [iLaw]) hk ob 20000 loose w := by
  intro os
  kernel_rfl

end K01

open PySem PySem.W PySem.Calls PyProof.Rows in
theorem PySem.Challenge.cw_oneplus_k01_errors_as_told_holds : PySem.Challenge.rw_oneplus_k01_errors_as_told.Holds := by
  w_on; o_law
  refine HandSHeadRun.head_any (r := OpenLaw.row PySem.Challenge.rw_oneplus_k01_errors_as_told) (q := view (OpenLaw.row PySem.Challenge.rw_oneplus_k01_errors_as_told).prog [K01.iLaw]) (H := K01.hk) (ob := K01.ob) (M := 20000) (loose := K01.loose) (d := HandSHeadRun.topDef (OpenLaw.row PySem.Challenge.rw_oneplus_k01_errors_as_told).prog K01.iLaw) (kwd := []) K01.ob_eq
    (by kernel_rfl) (fun s => by kernel_rfl) K01.run (by kernel_rfl) (by kernel_rfl) (by kernel_rfl) (by rfl) (by first | assumption | decide +kernel) (by decide +kernel) ⟨rfl, rfl, rfl, rfl, rfl, by decide +kernel⟩ ?hw ?hc
  case hw => w_witness2
  case hc =>
    refine Mir.walk_M (l := PySem.Challenge.rw_oneplus_k01_errors_as_told) (n := 63) rfl (by decide) (by kernel_rfl) ?F
    intro w mg fa h Y G hmg0
    obtain ⟨K, KX, c⟩ := Y
    have hmg : mg ("law" : PySem.Str) = some (.ref fa) := by
      have e : (HandSHeadRun.topDef (OpenLaw.row PySem.Challenge.rw_oneplus_k01_errors_as_told).prog K01.iLaw).name = ("law" : PySem.Str) := by kernel_rfl
      rw [← e]
      exact hmg0
    refine ⟨K, KX, [], fun p hp => (nomatch hp), fun p hp => (nomatch hp), fun p hp => (nomatch hp), fun base H s a ns KB GB _ _ hlen hbits hS e0 => ?_⟩
    have T : K01.Top ⟨(PySem.Challenge.rw_oneplus_k01_errors_as_told).prog, w, K, mg, base, fun _ => 0, Mir.caOf K K01.exts⟩ := K01.top_of (w := ⟨(PySem.Challenge.rw_oneplus_k01_errors_as_told).prog, w, K, mg, base, fun _ => 0, Mir.caOf K K01.exts⟩) KX G rfl c
    obtain ⟨f, hf, go⟩ := K01.law_go T
    have hf' : mg ("law" : PySem.Str) = some (.ref f) := hf
    rw [hmg] at hf'
    cases hf'
    exact go ns (K01.pure_law ns hlen hbits) hlen H s a hS e0
