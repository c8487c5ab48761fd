import PyProof.Rows.All
import Wide.All
import OpenK.AllK
import Wide.FinOn
import HandS.ForMost
import HandS.ExcCtx
import HandS.ExcInit
import HandS.IsInst
import HandS.Lambda
import HandS.Gcd
import HandS.Wide
import HandS.TupMul
import HandS.TupAny
import HandS.Style
import HandS.Deep
import HandS.Flow
import HandS.HotCalls
import HandS.ExcIs
import HandS.ExcField
import HandS.Text
import KE.KStateDown
import HandS.Words
import HandS.Defaults
import HandS.Head0
import HandS.Head1
import HandS.Head2
import HandS.Head3
import HandS.HeadEnd
import HandS.HeadHook1
import HandS.HeadHook2
import HandS.HeadHook3
import HandS.HeadHook4
import HandS.HeadWalk
import KE.GoesEnum
import PyProof.P3In
import PySem.Challenge.RW_anystrength_k01_worlds_by_form
section
set_option Elab.async false
set_option linter.all false
set_option maxRecDepth 100000
set_option maxHeartbeats 2000000
/-! Sh: a def's meaning as a plain Lean function over data, laid over the hand layer. -/
namespace Sh
open PySem PySem.Spec PyProof.Rows
open L2 hiding St

/-- pure data; obj: a def or class of the text, by its number -/
inductive D where
  | non | bl (b : Bool) | int (i : Int) | str (x : Str) | obj (k : Nat)
  | tup (xs : List D) | lst (xs : List D) | klst (xs : List D) | ty (n : String)
/-- a value of a frame: data, a list of this frame's own (by its cell), a lambda that was handed in (by what its call gives) -/
inductive Val where
  | d (x : D) | c (n : Nat) | t (ok : Bool) (nm : Str) (x : D) | x (nm : Str) (y : D)
inductive Cell where
  | own (xs : List D) | frz (xs : List D)
def Cell.xs : Cell → List D
  | .own xs => xs
  | .frz xs => xs
structure S where
  v : List (Option Val)
  c : List Cell
inductive Out (α : Type) where
  | ok (a : α) (st : S) | exc (nm : Str) (x : D) (st : S) | bad
inductive Fl where
  | nx | ret (v : Val) | bk | ct
abbrev OE := Out Val
abbrev OS := Out Fl

/-- what of a program is fixed: its text, its written part, the names, the objects as values, the tables of lambdas -/
structure Cn where
  P : Program
  w : World
  K : PySem.W.Frag
  mg : Str → Option Value
  base : Heap
  G : Nat → Option Addr
  T : List (Addr × Str)

abbrev Fz := Addr → Prop

def KL (K : PySem.W.Frag) (a : Addr) (vs : List V) : Prop :=
  ∃ (o : Obj) (its : Array Value) (n : Nat), K.lookup a = some o ∧ o.cls = .type "list" ∧ o.dict = none ∧ o.data = .seq its n ∧ its.size ≤ sizeLine ∧ Vals vs its.toList
mutual
inductive Rep (c : Cn) (F : Fz) (H : Hp) : D → V → Prop
  | non : Rep c F H .non .non
  | bl {b : Bool} : Rep c F H (.bl b) (.bl b)
  | int {i : Int} : Rep c F H (.int i) (.int i)
  | str {x : Str} : Rep c F H (.str x) (.str x)
  | ty {n : String} : Rep c F H (.ty n) (.ty n)
  | obj {k : Nat} {a : Addr} : c.G k = some a → Rep c F H (.obj k) (.ref a)
  | tup {a : Addr} {vs : List V} {xs : List D} : SqT c.K H a vs → Reps c F H xs vs → Rep c F H (.tup xs) (.ref a)
  | lst {a : Addr} {vs : List V} {xs : List D} : F a → H a = some (.lst vs) → Reps c F H xs vs → Rep c F H (.lst xs) (.ref a)
  | klst {a : Addr} {vs : List V} {xs : List D} : ((∃ o, H a = some (.frz o (.lst vs))) ∨ KL c.K a vs) → Reps c F H xs vs → Rep c F H (.klst xs) (.ref a)
inductive Reps (c : Cn) (F : Fz) (H : Hp) : List D → List V → Prop
  | nil : Reps c F H [] []
  | cons {x : D} {v : V} {xs : List D} {vs : List V} : Rep c F H x v → Reps c F H xs vs → Reps c F H (x :: xs) (v :: vs)
end

/-- what is frozen stays, tuples stay -/
structure Ev (F : Fz) (H : Hp) (F' : Fz) (H' : Hp) : Prop where
  sub : ∀ a, F a → F' a
  keep : ∀ a o, F a → H a = some o → H' a = some o
  tups : ∀ a xs, H a = some (.tup xs) → H' a = some (.tup xs)
  frzs : ∀ a o u, H a = some (.frz o u) → H' a = some (.frz o u)
  exts : ∀ a φ, H a = some (.ext φ) → H' a = some (.ext φ)
  xds : ∀ a fs, H a = some (.xd fs) → H' a = some (.xd fs)
theorem Ev.refl {F : Fz} {H : Hp} : Ev F H F H := ⟨fun _ h => h, fun _ _ _ h => h, fun _ _ h => h, fun _ _ _ h => h, fun _ _ h => h, fun _ _ h => h⟩
theorem Ev.trans {F F1 F2 : Fz} {H H1 H2 : Hp} (a : Ev F H F1 H1) (b : Ev F1 H1 F2 H2) : Ev F H F2 H2 :=
  ⟨fun x h => b.sub x (a.sub x h), fun x o f h => b.keep x o (a.sub x f) (a.keep x o f h), fun x xs h => b.tups x xs (a.tups x xs h), fun x o u h => b.frzs x o u (a.frzs x o u h), fun x φ h => b.exts x φ (a.exts x φ h), fun x fs h => b.xds x fs (a.xds x fs h)⟩
theorem Ev.sqT {F F' : Fz} {H H' : Hp} {K : PySem.W.Frag} {a : Addr} {vs : List V} (e : Ev F H F' H') (h : SqT K H a vs) : SqT K H' a vs := by
  rcases h with (h | ⟨o, h⟩) | h
  · exact .inl (.inl (e.tups _ _ h))
  · exact .inl (.inr ⟨o, e.frzs _ _ _ h⟩)
  · exact .inr h
theorem Ev.rd {F F' : Fz} {H H' : Hp} {a : Addr} {u : HO} (e : Ev F H F' H') (f : F a) (h : Rd H a u) : Rd H' a u := by
  rcases h with h | ⟨o, h⟩
  · exact .inl (e.keep _ _ f h)
  · exact .inr ⟨o, e.frzs _ _ _ h⟩
section
variable {c : Cn} {F F' : Fz} {H H' : Hp}
mutual
theorem Rep.mono {c : Cn} {F F' : Fz} {H H' : Hp} (e : Ev F H F' H') : ∀ {x : D} {v : V}, Rep c F H x v → Rep c F' H' x v
  | _, _, .non => .non
  | _, _, .bl => .bl
  | _, _, .int => .int
  | _, _, .str => .str
  | _, _, .ty => .ty
  | _, _, .obj h => .obj h
  | _, _, .tup h r => .tup (e.sqT h) (Reps.mono e r)
  | _, _, .lst f h r => .lst (e.sub _ f) (e.keep _ _ f h) (Reps.mono e r)
  | _, _, .klst h r => .klst (h.imp (fun ⟨o, z⟩ => ⟨o, e.frzs _ _ _ z⟩) id) (Reps.mono e r)
theorem Reps.mono {c : Cn} {F F' : Fz} {H H' : Hp} (e : Ev F H F' H') : ∀ {xs : List D} {vs : List V}, Reps c F H xs vs → Reps c F' H' xs vs
  | _, _, .nil => .nil
  | _, _, .cons a b => .cons (Rep.mono e a) (Reps.mono e b)
end
theorem Reps.len : ∀ {xs : List D} {vs : List V}, Reps c F H xs vs → xs.length = vs.length
  | _, _, .nil => rfl
  | _, _, .cons _ r => congrArg (· + 1) (Reps.len r)
theorem Reps.get : ∀ {xs : List D} {vs : List V} {i : Nat} {x : D}, Reps c F H xs vs → xs[i]? = some x → ∃ v, vs[i]? = some v ∧ Rep c F H x v
  | _, _, _, _, .nil, e => by simp at e
  | _, _, 0, _, .cons r _, e => by simp at e; subst e; exact ⟨_, rfl, r⟩
  | _, _, i + 1, x, .cons _ t, e => by
    obtain ⟨u, h1, h2⟩ := Reps.get (i := i) (x := x) t (by simpa using e)
    exact ⟨u, by simpa using h1, h2⟩
theorem Reps.getV : ∀ {xs : List D} {vs : List V} {i : Nat} {v : V}, Reps c F H xs vs → vs[i]? = some v → ∃ x, xs[i]? = some x ∧ Rep c F H x v
  | _, _, _, _, .nil, e => by simp at e
  | _, _, 0, _, .cons r _, e => by simp at e; subst e; exact ⟨_, rfl, r⟩
  | _, _, i + 1, x, .cons _ t, e => by
    obtain ⟨u, h1, h2⟩ := Reps.getV (i := i) (v := x) t (by simpa using e)
    exact ⟨u, by simpa using h1, h2⟩
theorem Reps.append : ∀ {xs ys : List D} {vs ws : List V}, Reps c F H xs vs → Reps c F H ys ws → Reps c F H (xs ++ ys) (vs ++ ws)
  | _, _, _, _, .nil, s => s
  | _, _, _, _, .cons r t, s => .cons r (Reps.append t s)
theorem Reps.take : ∀ {xs : List D} {vs : List V} (n : Nat), Reps c F H xs vs → Reps c F H (xs.take n) (vs.take n)
  | _, _, 0, _ => .nil
  | _, _, _ + 1, .nil => .nil
  | _, _, n + 1, .cons r t => .cons r (Reps.take n t)
theorem Reps.drop : ∀ {xs : List D} {vs : List V} (n : Nat), Reps c F H xs vs → Reps c F H (xs.drop n) (vs.drop n)
  | _, _, 0, r => r
  | _, _, _ + 1, .nil => .nil
  | _, _, n + 1, .cons _ t => Reps.drop n t
theorem Reps.set {x : D} {v : V} (r : Rep c F H x v) : ∀ {xs : List D} {vs : List V} (i : Nat), Reps c F H xs vs → Reps c F H (xs.set i x) (vs.set i v)
  | _, _, _, .nil => .nil
  | _, _, 0, .cons _ t => .cons r t
  | _, _, i + 1, .cons q t => .cons q (Reps.set r i t)
theorem Reps.rev {xs : List D} {vs : List V} (h : Reps c F H xs vs) : Reps c F H xs.reverse vs.reverse := by
  induction xs generalizing vs with
  | nil => cases h; exact .nil
  | cons x xs ih =>
    cases h with
    | cons r t => rw [List.reverse_cons, List.reverse_cons]; exact Reps.append (ih t) (.cons r .nil)
theorem Reps.erase : ∀ {xs : List D} {vs : List V} (i : Nat), Reps c F H xs vs → Reps c F H (xs.eraseIdx i) (vs.eraseIdx i)
  | _, _, _, .nil => .nil
  | _, _, 0, .cons _ t => t
  | _, _, i + 1, .cons r t => .cons r (Reps.erase i t)
theorem Reps.dropLast {xs : List D} {vs : List V} (h : Reps c F H xs vs) : Reps c F H xs.dropLast vs.dropLast := by
  rw [List.dropLast_eq_take, List.dropLast_eq_take, h.len]
  exact h.take _
theorem Reps.rep {xs : List D} {vs : List V} (h : Reps c F H xs vs) : ∀ k : Nat, Reps c F H (List.replicate k xs).flatten (List.replicate k vs).flatten
  | 0 => .nil
  | k + 1 => by
    rw [List.replicate_succ, List.replicate_succ, List.flatten_cons, List.flatten_cons]
    exact Reps.append h (Reps.rep h k)
end

/-! ### a def at work -/
def CellOk (c : Cn) (F : Fz) (H : Hp) (a : Addr) : Cell → Prop
  | .own xs => ¬ F a ∧ ∃ vs, H a = some (.lst vs) ∧ Reps c F H xs vs
  | .frz xs => F a ∧ ∃ vs, H a = some (.lst vs) ∧ Reps c F H xs vs
/-- the frame's lists stand at their places, none of them frozen but those that are -/
structure CellsOk (c : Cn) (F : Fz) (H : Hp) (α : List Addr) (cs : List Cell) : Prop where
  len : α.length = cs.length
  nd : α.Nodup
  here : ∀ (n : Nat) (a : Addr) (cl : Cell), α[n]? = some a → cs[n]? = some cl → CellOk c F H a cl
theorem CellOk.read {c : Cn} {F : Fz} {H : Hp} {a : Addr} {cl : Cell} (h : CellOk c F H a cl) : ∃ vs, H a = some (.lst vs) ∧ Reps c F H cl.xs vs := by
  cases cl with
  | own xs => exact h.2
  | frz xs => exact h.2

structure Keeps0 (α : List Addr) (H H' : Hp) : Prop where
  keep : ∀ b o, H b = some o → b ∉ α → (∀ ps, o ≠ .tbl ps) → H' b = some o
/-- nothing but, it may be, a table of code objects -/
def NT (H : Hp) (a : Addr) : Prop := ∀ o, H a = some o → ∃ ps, o = .tbl ps
theorem NT.of {H : Hp} {a : Addr} (h : H a = none) : NT H a := fun o e => by rw [h] at e; cases e
theorem NT.no {H : Hp} {a : Addr} {o : HO} (h : NT H a) (e : H a = some o) (n : ∀ ps, o ≠ .tbl ps) : False := by
  obtain ⟨ps, z⟩ := h o e
  exact n ps z
theorem NT.lst {H : Hp} {a : Addr} {xs : List V} (h : NT H a) (e : H a = some (.lst xs)) : False := h.no e fun ps z => nomatch z
def Dom (F : Fz) (H : Hp) : Prop := ∀ a, F a → ∃ xs, H a = some (.lst xs)
/-- a lambda that was handed in at s0, H0: what its call gives; the objects at pins are kept while it lives -/
def ThkOk (c : Cn) (s0 : Shared) (H0 : Hp) (F0 : Fz) (outer : List Env) (f : Addr) (ok : Bool) (nm : Str) (x : D) : Prop :=
  ∃ (k : Nat) (pins : List (Addr × Obj)), k ≤ 60 ∧ (∀ p ∈ pins, s0.heap.get? p.1 = some p.2 ∧ H0 p.1 = none ∧ p.1 ∉ frs outer) ∧
    (∀ h : Heap, (∀ p ∈ pins, h.get? p.1 = some p.2) → PySem.W.FnAt f h) ∧
    ∀ (A : Around) (outer' : List Env) (s : Shared) (H : Hp) (F : Fz) (Q : VK) (E : XK), Room k A → Env0 c.P c.w c.K c.mg c.base A outer' s H → (∀ p ∈ pins, s.heap.get? p.1 = some p.2 ∧ H p.1 = none) →
      Ev F0 H0 F H → Dom F H → LamX.Tabs c.T H →
      (ok = true → ∀ v F' H', Ev F H F' H' → Keeps0 [] H H' → Dom F' H' → LamX.Tabs c.T H' → (∀ a, F' a → F a ∨ NT H a) → Rep c F' H' x v → Q v H') →
      (ok = false → ∀ C dx v F' H', c.mg nm = some (.ref C) → Ev F H F' H' → Keeps0 [] H H' → Dom F' H' → LamX.Tabs c.T H' → (∀ a, F' a → F a ∨ NT H a) → H' dx = some (.xd [(("what" : Str), v)]) → NT H dx → Rep c F' H' x v → E (.ref C) (some dx) H') →
      codeAny (model c.P c.w) A (.call (.ref f) ⟨[], []⟩) (CR (L2N.CX c.P c.w) outer' c.P c.w H s Q E) s

/-- what is fixed while a def runs: its entry, the frames around it, what was frozen, the lists that were handed in as the caller's own -/
structure Fm where
  s0 : Shared
  H0 : Hp
  outer : List Env
  F0 : Fz
  io : List Addr
  ex : Option (Addr × Obj)

def VR (c : Cn) (m : Fm) (F : Fz) (α : List Addr) (H : Hp) : Val → V → Prop
  | .d x, v => Rep c F H x v
  | .c n, v => ∃ a, α[n]? = some a ∧ v = .ref a
  | .t ok nm x, v => ∃ f, v = .ref f ∧ ThkOk c m.s0 m.H0 m.F0 m.outer f ok nm x
  | .x nm y, v => ∃ (a : Addr) (oe : Obj) (C d : Addr) (u : V), m.ex = some (a, oe) ∧ v = .ref a ∧ c.mg nm = some (.ref C) ∧ L2N.Zn (.ref C) (some d) oe ∧ H d = some (.xd [(("what" : Str), u)]) ∧ Rep c F H y u

structure SR (c : Cn) (m : Fm) (st : S) (F : Fz) (α : List Addr) (σ : L2.St) (H : Hp) : Prop where
  len : σ.length = st.v.length
  vars : ∀ (i : Nat) (val : Val), st.v[i]? = some (some val) → ∃ v, σ[i]? = some (some v) ∧ VR c m F α H val v
  cells : CellsOk c F H α st.c
  pre : m.io <+: α
  loc : ∀ a ∈ α, a ∈ m.io ∨ NT m.H0 a
  dom : Dom F H
  tab : LamX.Tabs c.T H
  fra : Keeps0 m.io m.H0 H
  new : ∀ a, F a → m.F0 a ∨ NT m.H0 a ∨ a ∈ m.io
  old : ∀ a, m.F0 a → F a
  ioF : ∀ a ∈ m.io, ¬ m.F0 a
  ioL : ∀ a ∈ m.io, ∃ xs, m.H0 a = some (.lst xs)
  dom0 : Dom m.F0 m.H0

theorem Keeps0.refl {α : List Addr} {H : Hp} : Keeps0 α H H := ⟨fun _ _ h _ _ => h⟩
/-- what a step leaves of the point where it began -/
structure Evo (F : Fz) (α : List Addr) (H : Hp) (F' : Fz) (α' : List Addr) (H' : Hp) : Prop where
  ev : Ev F H F' H'
  pre : α <+: α'
  loc : ∀ a ∈ α', a ∈ α ∨ NT H a
  fr : Keeps0 α H H'
  nF : ∀ a, F' a → F a ∨ NT H a ∨ a ∈ α
theorem Evo.refl {F : Fz} {α : List Addr} {H : Hp} : Evo F α H F α H := ⟨.refl, List.prefix_rfl, fun _ h => .inl h, .refl, fun _ h => .inl h⟩
theorem Keeps0.back {α : List Addr} {H H' : Hp} (k : Keeps0 α H H') {a : Addr} (h : NT H' a) (na : a ∉ α) : NT H a := fun o e => by
  by_cases ht : ∃ ps, o = .tbl ps
  · exact ht
  · exact (h.no (k.keep a o e na fun ps e => ht ⟨ps, e⟩) fun ps e => ht ⟨ps, e⟩).elim
theorem Evo.trans {F F1 F2 : Fz} {α α1 α2 : List Addr} {H H1 H2 : Hp} (a : Evo F α H F1 α1 H1) (b : Evo F1 α1 H1 F2 α2 H2) : Evo F α H F2 α2 H2 := by
  refine ⟨a.ev.trans b.ev, a.pre.trans b.pre, fun x hx => ?_, ⟨fun x o h h1 h2 => ?_⟩, fun x hx => ?_⟩
  · rcases b.loc x hx with h | h
    · exact a.loc x h
    · by_cases hm : x ∈ α
      · exact .inl hm
      · exact .inr (a.fr.back h hm)
  · refine b.fr.keep x o (a.fr.keep x o h h1 h2) (fun z => ?_) h2
    rcases a.loc x z with w | w
    · exact h1 w
    · exact w.no h h2
  · rcases b.nF x hx with h | h | h
    · exact a.nF x h
    · by_cases hm : x ∈ α
      · exact .inr (.inr hm)
      · exact .inr (.inl (a.fr.back h hm))
    · rcases a.loc x h with w | w
      · exact .inr (.inr w)
      · exact .inr (.inl w)
theorem pre_get {α α' : List Addr} (h : α <+: α') {n : Nat} {a : Addr} (e : α[n]? = some a) : α'[n]? = some a := by
  obtain ⟨t, rfl⟩ := h
  rw [List.getElem?_append_left (List.getElem?_eq_some_iff.mp e).1]
  exact e
theorem VR.mono {c : Cn} {m : Fm} {F F' : Fz} {α α' : List Addr} {H H' : Hp} (e : Evo F α H F' α' H') {val : Val} {v : V} (h : VR c m F α H val v) : VR c m F' α' H' val v := by
  cases val with
  | d x => exact Rep.mono e.ev h
  | c n =>
    obtain ⟨a, h1, h2⟩ := h
    exact ⟨a, pre_get e.pre h1, h2⟩
  | t ok nm x => exact h
  | x nm y =>
    obtain ⟨a, oe, C, d, u, h1, h2, h3, h4, h5, h6⟩ := h
    exact ⟨a, oe, C, d, u, h1, h2, h3, h4, e.ev.xds _ _ h5, Rep.mono e.ev h6⟩

/-! ### readings -/
/-- what is asked where an error is raised -/
def Xo (c : Cn) (m : Fm) (W : WX) (σ : L2.St) (F : Fz) (α : List Addr) (H : Hp) (nm : Str) (x : D) (st' : S) : Prop :=
  ∀ C dx v F' α' H', c.mg nm = some (.ref C) → Evo F α H F' α' H' → SR c m st' F' α' σ H' → H' dx = some (.xd [(("what" : Str), v)]) → NT m.H0 dx → Rep c F' H' x v → W (.ref C) (some dx) σ H'
theorem Xo.evo {c : Cn} {m : Fm} {W : WX} {σ : L2.St} {F F1 : Fz} {α α1 : List Addr} {H H1 : Hp} {nm : Str} {x : D} {st' : S} (e : Evo F α H F1 α1 H1) (h : Xo c m W σ F α H nm x st') : Xo c m W σ F1 α1 H1 nm x st' :=
  fun C dx v F' α' H' hm e' => h C dx v F' α' H' hm (e.trans e')
def PEo (c : Cn) (m : Fm) (W : WX) (σ : L2.St) (F : Fz) (α : List Addr) (H : Hp) (Q : VK) : OE → Prop
  | .ok v st' => ∀ x F' α' H', Evo F α H F' α' H' → SR c m st' F' α' σ H' → VR c m F' α' H' v x → Q x H'
  | .exc nm x st' => Xo c m W σ F α H nm x st'
  | .bad => False
def tI (c : Cn) (m : Fm) (W : WX) (f : S → OE) : TE := fun σ H Q => ∃ st F α, SR c m st F α σ H ∧ PEo c m W σ F α H Q (f st)
def PTo (c : Cn) (m : Fm) (W : WX) (σ : L2.St) (F : Fz) (α : List Addr) (H : Hp) (Q : Bool → Hp → Prop) : OE → Prop
  | .ok (.d (.bl b)) st' => ∀ F' α' H', Evo F α H F' α' H' → SR c m st' F' α' σ H' → Q b H'
  | .exc nm x st' => Xo c m W σ F α H nm x st'
  | _ => False
def tT (c : Cn) (m : Fm) (W : WX) (f : S → OE) : TT := fun σ H Q => ∃ st F α, SR c m st F α σ H ∧ PTo c m W σ F α H Q (f st)
inductive VRs (c : Cn) (m : Fm) (F : Fz) (α : List Addr) (H : Hp) : List Val → List V → Prop
  | nil : VRs c m F α H [] []
  | cons {a : Val} {v : V} {as : List Val} {vs : List V} : VR c m F α H a v → VRs c m F α H as vs → VRs c m F α H (a :: as) (v :: vs)
theorem VRs.mono {c : Cn} {m : Fm} {F F' : Fz} {α α' : List Addr} {H H' : Hp} (e : Evo F α H F' α' H') {as : List Val} {vs : List V} (h : VRs c m F α H as vs) : VRs c m F' α' H' as vs := by
  induction h with
  | nil => exact .nil
  | cons a _ ih => exact .cons (a.mono e) ih
def PAo (c : Cn) (m : Fm) (W : WX) (σ : L2.St) (F : Fz) (α : List Addr) (H : Hp) (Q : List V → Hp → Prop) : Out (List Val) → Prop
  | .ok v st' => ∀ x F' α' H', Evo F α H F' α' H' → SR c m st' F' α' σ H' → VRs c m F' α' H' v x → Q x H'
  | .exc nm x st' => Xo c m W σ F α H nm x st'
  | .bad => False
def tA (c : Cn) (m : Fm) (W : WX) (f : S → Out (List Val)) : TA := fun σ H Q => ∃ st F α, SR c m st F α σ H ∧ PAo c m W σ F α H Q (f st)
def PSo (c : Cn) (m : Fm) (W : WX) (F : Fz) (α : List Addr) (H : Hp) (E : Ends) : OS → Prop
  | .ok .nx st' => ∀ σ' F' α' H', Evo F α H F' α' H' → SR c m st' F' α' σ' H' → E.nx σ' H'
  | .ok (.ret v) st' => ∀ x σ' F' α' H', Evo F α H F' α' H' → SR c m st' F' α' σ' H' → VR c m F' α' H' v x → E.rt x H'
  | .ok .bk st' => ∀ σ' F' α' H', Evo F α H F' α' H' → SR c m st' F' α' σ' H' → E.bk σ' H'
  | .ok .ct st' => ∀ σ' F' α' H', Evo F α H F' α' H' → SR c m st' F' α' σ' H' → E.ct σ' H'
  | .exc nm x st' => ∀ σ', Xo c m W σ' F α H nm x st'
  | .bad => False
def tS (c : Cn) (m : Fm) (W : WX) (g : S → OS) : TS := fun E σ H => ∃ st F α, SR c m st F α σ H ∧ PSo c m W F α H E (g st)

/-! ### the monad -/
def Out.bind {α β : Type} (o : Out α) (g : α → S → Out β) : Out β := match o with
  | .ok a st => g a st
  | .exc nm x st => .exc nm x st
  | .bad => .bad
/-- several in a row -/
def seqE : List (S → OE) → S → Out (List Val)
  | [], st => .ok [] st
  | f :: fs, st => (f st).bind fun v st1 => (seqE fs st1).bind fun vs st2 => .ok (v :: vs) st2
theorem PE_imp {X : Cx} {e : Expr} {t t' : TE} (h : PE X e t) (i : ∀ σ H Q, t' σ H Q → t σ H Q) : PE X e t' := ⟨fun pins s σ H Q I q => h.run pins s σ H Q I (i σ H Q q)⟩
theorem PT_imp {X : Cx} {e : Expr} {t t' : TT} (h : PT X e t) (i : ∀ σ H Q, t' σ H Q → t σ H Q) : PT X e t' := ⟨fun pins s σ H Q I q => h.run pins s σ H Q I (i σ H Q q)⟩
theorem PW_imp {X : Cx} {e : Expr} {t t' : TT} (h : PW X e t) (i : ∀ σ H Q, t' σ H Q → t σ H Q) : PW X e t' := ⟨fun w pins s σ H Q I q => h.run w pins s σ H Q I (i σ H Q q)⟩
theorem PA_imp {X : Cx} {e : List Expr} {t t' : TA} (h : PA X e t) (i : ∀ σ H Q, t' σ H Q → t σ H Q) : PA X e t' := ⟨fun pos pins s σ H Q I q => h.run pos pins s σ H Q I (i σ H Q q)⟩
theorem PS_imp {X : Cx} {e : Stmt} {t t' : TS} (h : PS X e t) (i : ∀ σ H Q, t' Q σ H → t Q σ H) : PS X e t' := ⟨fun pins s σ H Q I q => h.run pins s σ H Q I (i σ H Q q)⟩
theorem PSs_imp {X : Cx} {e : List Stmt} {t t' : TS} (h : PSs X e t) (i : ∀ σ H Q, t' Q σ H → t Q σ H) : PSs X e t' := ⟨fun pins s σ H Q I q => h.run pins s σ H Q I (i σ H Q q)⟩

section
variable {c : Cn} {m : Fm} {W : WX} {σ : L2.St} {F F1 : Fz} {α α1 : List Addr} {H H1 : Hp}
theorem PEo.evo {Q : VK} {o : OE} (e : Evo F α H F1 α1 H1) (h : PEo c m W σ F α H Q o) : PEo c m W σ F1 α1 H1 Q o := by
  cases o with
  | ok v st' => exact fun x F' α' H' e' => h x F' α' H' (e.trans e')
  | exc nm x st' => exact Xo.evo e h
  | bad => exact h
theorem PTo.evo {Q : Bool → Hp → Prop} {o : OE} (e : Evo F α H F1 α1 H1) (h : PTo c m W σ F α H Q o) : PTo c m W σ F1 α1 H1 Q o := by
  cases o with
  | ok v st' =>
    cases v with
    | d x =>
      cases x with
      | bl b => exact fun F' α' H' e' => h F' α' H' (e.trans e')
      | _ => exact h
    | _ => exact h
  | exc nm x st' => exact Xo.evo e h
  | bad => exact h
theorem PAo.evo {Q : List V → Hp → Prop} {o : Out (List Val)} (e : Evo F α H F1 α1 H1) (h : PAo c m W σ F α H Q o) : PAo c m W σ F1 α1 H1 Q o := by
  cases o with
  | ok v st' => exact fun x F' α' H' e' => h x F' α' H' (e.trans e')
  | exc nm x st' => exact Xo.evo e h
  | bad => exact h
theorem PSo.evo {E : Ends} {o : OS} (e : Evo F α H F1 α1 H1) (h : PSo c m W F α H E o) : PSo c m W F1 α1 H1 E o := by
  cases o with
  | ok v st' =>
    cases v with
    | nx => exact fun σ' F' α' H' e' => h σ' F' α' H' (e.trans e')
    | ret v => exact fun x σ' F' α' H' e' => h x σ' F' α' H' (e.trans e')
    | bk => exact fun σ' F' α' H' e' => h σ' F' α' H' (e.trans e')
    | ct => exact fun σ' F' α' H' e' => h σ' F' α' H' (e.trans e')
  | exc nm x st' => exact fun σ' => Xo.evo e (h σ')
  | bad => exact h
end
end Sh
end
section
set_option Elab.async false
set_option linter.all false
set_option maxRecDepth 100000
set_option maxHeartbeats 2000000
namespace Sh
open PySem PySem.Spec PyProof.Rows
open L2 hiding St

/-! ### what an end must be like, for the steps ahead of it -/
structure Pst (c : Cn) (m : Fm) (W : WX) (σ : L2.St) {β : Type} (R : Fz → List Addr → Hp → Out β → Prop) : Prop where
  evo : ∀ {F F1 : Fz} {α α1 : List Addr} {H H1 : Hp} {o : Out β}, Evo F α H F1 α1 H1 → R F α H o → R F1 α1 H1 o
  exc : ∀ {F : Fz} {α : List Addr} {H : Hp} {nm : Str} {x : D} {st : S}, R F α H (.exc nm x st) → Xo c m W σ F α H nm x st
  bad : ∀ {F : Fz} {α : List Addr} {H : Hp}, ¬ R F α H .bad
section
variable {c : Cn} {m : Fm} {W : WX} {σ : L2.St} {F F1 : Fz} {α α1 : List Addr} {H H1 : Hp} {st st1 : S}
theorem pstE {Q : VK} : Pst c m W σ fun F α H o => PEo c m W σ F α H Q o := ⟨fun e h => h.evo e, fun h => h, fun h => h⟩
theorem pstT {Q : Bool → Hp → Prop} : Pst c m W σ fun F α H o => PTo c m W σ F α H Q o := ⟨fun e h => h.evo e, fun h => h, fun h => h⟩
theorem pstA {Q : List V → Hp → Prop} : Pst c m W σ fun F α H o => PAo c m W σ F α H Q o := ⟨fun e h => h.evo e, fun h => h, fun h => h⟩
theorem pstS {E : Ends} : Pst c m W σ fun F α H o => PSo c m W F α H E o := ⟨fun e h => h.evo e, fun h => h σ, fun h => h⟩
variable {β : Type} {R : Fz → List Addr → Hp → Out β → Prop}
theorem kE (p : Pst c m W σ R) {f : S → OE} {g : Val → S → Out β} {P : V → Hp → Prop} (sr : SR c m st F α σ H) (h : R F α H ((f st).bind g))
    (k : ∀ v st' x F' α' H', Evo F α H F' α' H' → SR c m st' F' α' σ H' → VR c m F' α' H' v x → R F' α' H' (g v st') → P x H') : tI c m W f σ H P := by
  refine ⟨st, F, α, sr, ?_⟩
  generalize f st = o at h ⊢
  cases o with
  | ok v st' => exact fun x F' α' H' e s' r => k v st' x F' α' H' e s' r (p.evo e h)
  | exc nm x st' => exact p.exc h
  | bad => exact p.bad h
theorem kA (p : Pst c m W σ R) {f : S → Out (List Val)} {g : List Val → S → Out β} {P : List V → Hp → Prop} (sr : SR c m st F α σ H) (h : R F α H ((f st).bind g))
    (k : ∀ v st' x F' α' H', Evo F α H F' α' H' → SR c m st' F' α' σ H' → VRs c m F' α' H' v x → R F' α' H' (g v st') → P x H') : tA c m W f σ H P := by
  refine ⟨st, F, α, sr, ?_⟩
  generalize f st = o at h ⊢
  cases o with
  | ok v st' => exact fun x F' α' H' e s' r => k v st' x F' α' H' e s' r (p.evo e h)
  | exc nm x st' => exact p.exc h
  | bad => exact p.bad h
/-- a bool's way -/
def onB {β : Type} (t e : S → Out β) : Val → S → Out β
  | .d (.bl true), st => t st
  | .d (.bl false), st => e st
  | _, _ => .bad
theorem kT (p : Pst c m W σ R) {f : S → OE} {t e : S → Out β} {P : Bool → Hp → Prop} (sr : SR c m st F α σ H) (h : R F α H ((f st).bind (onB t e)))
    (k : ∀ (b : Bool) st' F' α' H', Evo F α H F' α' H' → SR c m st' F' α' σ H' → R F' α' H' (if b = true then t st' else e st') → P b H') : tT c m W f σ H P := by
  refine ⟨st, F, α, sr, ?_⟩
  generalize f st = o at h ⊢
  cases o with
  | ok v st' =>
    cases v with
    | d x =>
      cases x with
      | bl b =>
        refine fun F' α' H' e' s' => k b st' F' α' H' e' s' ?_
        cases b with
        | true => exact p.evo e' h
        | false => exact p.evo e' h
      | _ => exact p.bad h
    | _ => exact p.bad h
  | exc nm x st' => exact p.exc h
  | bad => exact p.bad h
end

/-! ### cells and freezing -/
def toD : Val → S → Option (D × S)
  | .d x, st => some (x, st)
  | .c n, st => match st.c[n]? with
    | some (.own xs) => some (.lst xs, { st with c := st.c.set n (.frz xs) })
    | some (.frz xs) => some (.lst xs, st)
    | none => none
  | .t _ _ _, _ => none
  | .x _ _, _ => none
def toDs : List Val → S → Option (List D × S)
  | [], st => some ([], st)
  | v :: vs, st => match toD v st with
    | none => none
    | some (x, st1) => match toDs vs st1 with
      | none => none
      | some (xs, st2) => some (x :: xs, st2)
section
variable {c : Cn} {m : Fm} {W : WX} {σ : L2.St} {F F1 : Fz} {α α1 : List Addr} {H H1 : Hp} {st st1 : S}
theorem nd_at {α : Type} {l : List α} (hN : l.Nodup) {i j : Nat} {x : α} (a : l[i]? = some x) (b : l[j]? = some x) : i = j := by
  obtain ⟨h1, e1⟩ := List.getElem?_eq_some_iff.mp a
  obtain ⟨h2, e2⟩ := List.getElem?_eq_some_iff.mp b
  exact (List.getElem_inj hN).mp (e1.trans e2.symm)
theorem SR.cell (sr : SR c m st F α σ H) {n : Nat} {a : Addr} (e : α[n]? = some a) : ∃ cl, st.c[n]? = some cl ∧ CellOk c F H a cl := by
  have h1 := (List.getElem?_eq_some_iff.mp e).1
  rw [sr.cells.len] at h1
  exact ⟨_, List.getElem?_eq_getElem h1, sr.cells.here n a _ e (List.getElem?_eq_getElem h1)⟩
theorem SR.addr (sr : SR c m st F α σ H) {n : Nat} {cl : Cell} (e : st.c[n]? = some cl) : ∃ a, α[n]? = some a ∧ CellOk c F H a cl := by
  have h1 := (List.getElem?_eq_some_iff.mp e).1
  rw [← sr.cells.len] at h1
  exact ⟨_, List.getElem?_eq_getElem h1, sr.cells.here n _ _ (List.getElem?_eq_getElem h1) e⟩
theorem CellOk.mono {a : Addr} {cl : Cell} {F' : Fz} {H' : Hp} (e : Ev F H F' H') (h : CellOk c F H a cl) (hn : ¬ F a → ¬ F' a) (hk : H' a = H a) : CellOk c F' H' a cl := by
  cases cl with
  | own xs =>
    obtain ⟨h1, vs, h2, h3⟩ := h
    exact ⟨hn h1, vs, hk.trans h2, Reps.mono e h3⟩
  | frz xs =>
    obtain ⟨h1, vs, h2, h3⟩ := h
    exact ⟨e.sub _ h1, vs, hk.trans h2, Reps.mono e h3⟩
/-- the frozen at the entry and now -/
theorem SR.ev0 (sr : SR c m st F α σ H) : Ev m.F0 m.H0 F H := by
  refine ⟨sr.old, fun a o f e => ?_, fun a xs e => ?_, fun a o u e => ?_, fun a φ e => ?_, fun a fs e => ?_⟩
  · obtain ⟨xs, h⟩ := sr.dom0 a f
    rw [h] at e; cases e
    exact sr.fra.keep a _ h (fun z => sr.ioF a z f) fun ps z => nomatch z
  · refine sr.fra.keep a _ e (fun z => ?_) fun ps z => nomatch z
    obtain ⟨ys, h⟩ := sr.ioL a z
    rw [h] at e; cases e
  · refine sr.fra.keep a _ e (fun z => ?_) fun ps z => nomatch z
    obtain ⟨ys, h⟩ := sr.ioL a z
    rw [h] at e; cases e
  · refine sr.fra.keep a _ e (fun z => ?_) fun ps z => nomatch z
    obtain ⟨ys, h⟩ := sr.ioL a z
    rw [h] at e; cases e
  · refine sr.fra.keep a _ e (fun z => ?_) fun ps z => nomatch z
    obtain ⟨ys, h⟩ := sr.ioL a z
    rw [h] at e; cases e
theorem toD_ok {val : Val} {v : V} {x : D} (sr : SR c m st F α σ H) (r : VR c m F α H val v) (e : toD val st = some (x, st1)) : ∃ F', Evo F α H F' α H ∧ SR c m st1 F' α σ H ∧ Rep c F' H x v ∧ st1.v = st.v := by
  cases val with
  | d y =>
    cases e
    exact ⟨F, .refl, sr, r, rfl⟩
  | t ok nm y => cases e
  | x nm y => cases e
  | c n =>
    obtain ⟨a, ha, rfl⟩ := r
    obtain ⟨cl, hc, ck⟩ := sr.cell ha
    simp only [toD, hc] at e
    cases cl with
    | frz xs =>
      cases e
      obtain ⟨h1, vs, h2, h3⟩ := ck
      exact ⟨F, .refl, sr, .lst h1 h2 h3, rfl⟩
    | own xs =>
      cases e
      obtain ⟨h1, vs, h2, h3⟩ := ck
      have ev : Ev F H (fun b => F b ∨ b = a) H := ⟨fun b h => .inl h, fun _ _ _ h => h, fun _ _ h => h, fun _ _ _ h => h, fun _ _ h => h, fun _ _ h => h⟩
      have evo : Evo F α H (fun b => F b ∨ b = a) α H := ⟨ev, List.prefix_rfl, fun _ h => .inl h, .refl, fun b h => h.imp id fun z => .inr (by rw [z]; exact List.mem_of_getElem? ha)⟩
      refine ⟨fun b => F b ∨ b = a, evo, ⟨sr.len, fun i val hi => ?_, ⟨by rw [List.length_set]; exact sr.cells.len, sr.cells.nd, fun k b cl hk hcl => ?_⟩, sr.pre, sr.loc, fun b hb => ?_, sr.tab, sr.fra, fun b hb => ?_, fun b hb => .inl (sr.old b hb), sr.ioF, sr.ioL, sr.dom0⟩, .lst (.inr rfl) h2 (Reps.mono ev h3), rfl⟩
      · obtain ⟨v, e1, e2⟩ := sr.vars i val hi
        exact ⟨v, e1, e2.mono evo⟩
      · by_cases hkn : k = n
        · subst hkn
          rw [ha] at hk; cases hk
          rw [List.getElem?_set_self (List.getElem?_eq_some_iff.mp hc).1] at hcl
          cases hcl
          exact ⟨.inr rfl, vs, h2, Reps.mono ev h3⟩
        · rw [List.getElem?_set_ne (Ne.symm hkn)] at hcl
          have hba : b ≠ a := fun z => hkn (nd_at sr.cells.nd (z ▸ hk) ha)
          exact (sr.cells.here k b cl hk hcl).mono ev (fun z w => w.elim z hba) rfl
      · rcases hb with hb | rfl
        · exact sr.dom b hb
        · exact ⟨vs, h2⟩
      · rcases hb with hb | rfl
        · exact sr.new b hb
        · exact .inr ((sr.loc b (List.mem_of_getElem? ha)).symm)
theorem toDs_ok {vals : List Val} {vs : List V} {xs : List D} (sr : SR c m st F α σ H) (r : VRs c m F α H vals vs) (e : toDs vals st = some (xs, st1)) : ∃ F', Evo F α H F' α H ∧ SR c m st1 F' α σ H ∧ Reps c F' H xs vs ∧ st1.v = st.v := by
  induction vals generalizing vs xs st F with
  | nil =>
    cases r
    cases e
    exact ⟨F, .refl, sr, .nil, rfl⟩
  | cons val vals ih =>
    cases r with
    | cons r1 r2 =>
      unfold toDs at e
      cases e1 : toD val st with
      | none => rw [e1] at e; cases e
      | some p =>
        obtain ⟨x, st2⟩ := p
        rw [e1] at e
        obtain ⟨F1, ev1, sr1, q1, hv1⟩ := toD_ok sr r1 e1
        simp only at e
        cases e2 : toDs vals st2 with
        | none => rw [e2] at e; cases e
        | some p =>
          obtain ⟨ys, st3⟩ := p
          rw [e2] at e
          cases e
          obtain ⟨F2, ev2, sr2, q2, hv2⟩ := ih sr1 (r2.mono ev1) e2
          exact ⟨F2, ev1.trans ev2, sr2, .cons (Rep.mono ev2.ev q1) q2, hv2.trans hv1⟩
theorem SR.fresh0 (sr : SR c m st F α σ H) {p : Addr} (hp : NT H p) : NT m.H0 p := fun o q => by
  by_cases ht : ∃ ps, o = .tbl ps
  · exact ht
  · by_cases hi : p ∈ m.io
    · obtain ⟨t, e⟩ := sr.pre
      obtain ⟨n, hn⟩ := List.mem_iff_getElem?.mp (show p ∈ α by rw [← e]; exact List.mem_append_left _ hi)
      obtain ⟨cl, _, ck⟩ := sr.cell hn
      obtain ⟨ws, hw, _⟩ := ck.read
      exact (hp.lst hw).elim
    · exact (hp.no (sr.fra.keep p o q hi fun ps e => ht ⟨ps, e⟩) fun ps e => ht ⟨ps, e⟩).elim
/-- a fresh thing that is no list of the frame's -/
theorem SR.newT (sr : SR c m st F α σ H) {p : Addr} {o : HO} (hp : H p = none) : Evo F α H F α (upd H p o) ∧ SR c m st F α σ (upd H p o) := by
  have k : ∀ b u, H b = some u → upd H p o b = some u := fun b u e => by rw [upd_ne (ne_of_none e hp)]; exact e
  have ev : Ev F H F (upd H p o) := ⟨fun _ h => h, fun b u _ h => k b u h, fun b xs h => k b _ h, fun b ob u h => k b _ h, fun b φ h => k b _ h, fun b fs h => k b _ h⟩
  have evo : Evo F α H F α (upd H p o) := ⟨ev, List.prefix_rfl, fun _ h => .inl h, ⟨fun b u h _ _ => k b u h⟩, fun _ h => .inl h⟩
  refine ⟨evo, ⟨sr.len, fun i val hi => ?_, ⟨sr.cells.len, sr.cells.nd, fun n a cl ha hc => ?_⟩, sr.pre, sr.loc, fun b hb => ?_, sr.tab.ext k, ⟨fun b u h1 h2 h3 => k b u (sr.fra.keep b u h1 h2 h3)⟩, sr.new, sr.old, sr.ioF, sr.ioL, sr.dom0⟩⟩
  · obtain ⟨v, e1, e2⟩ := sr.vars i val hi
    exact ⟨v, e1, e2.mono evo⟩
  · have ck := sr.cells.here n a cl ha hc
    obtain ⟨vs, h2, _⟩ := ck.read
    exact ck.mono ev (fun z => z) ((k a _ h2).trans h2.symm)
  · obtain ⟨xs, h⟩ := sr.dom b hb
    exact ⟨xs, k b _ h⟩
/-- a new list of the frame's own -/
theorem SR.newL (sr : SR c m st F α σ H) {p : Addr} {xs : List D} {vs : List V} (hp : H p = none) (r : Reps c F H xs vs) :
    Evo F α H F (α ++ [p]) (upd H p (.lst vs)) ∧ SR c m { st with c := st.c ++ [.own xs] } F (α ++ [p]) σ (upd H p (.lst vs)) := by
  obtain ⟨e1, s1⟩ := sr.newT (o := .lst vs) hp
  have h0 := sr.fresh0 (NT.of hp)
  have evo : Evo F α H F (α ++ [p]) (upd H p (.lst vs)) := ⟨e1.ev, List.prefix_append _ _, fun a h => (List.mem_append.mp h).imp id fun z => by rw [List.mem_singleton.mp z]; exact .of hp, e1.fr, e1.nF⟩
  have np : p ∉ α := fun z => by
    obtain ⟨n, hn⟩ := List.mem_iff_getElem?.mp z
    obtain ⟨cl, _, ck⟩ := sr.cell hn
    obtain ⟨ws, hw, _⟩ := ck.read
    rw [hp] at hw; cases hw
  have nF : ¬ F p := fun z => by
    obtain ⟨ws, hw⟩ := sr.dom p z
    rw [hp] at hw; cases hw
  refine ⟨evo, ⟨s1.len, fun i val hi => ?_, ⟨by rw [List.length_append, List.length_append, sr.cells.len]; rfl, ?_, fun n a cl ha hc => ?_⟩, sr.pre.trans (List.prefix_append _ _), fun a ha => ?_, s1.dom, s1.tab, s1.fra, s1.new, s1.old, s1.ioF, s1.ioL, s1.dom0⟩⟩
  · obtain ⟨v, q1, q2⟩ := sr.vars i val hi
    exact ⟨v, q1, q2.mono evo⟩
  · refine List.nodup_append.mpr ⟨sr.cells.nd, List.nodup_cons.mpr ⟨by simp, List.nodup_nil⟩, fun a ha b hb => ?_⟩
    rw [List.mem_singleton.mp hb]
    exact fun z => np (z ▸ ha)
  · by_cases hn : n < α.length
    · rw [List.getElem?_append_left hn] at ha
      rw [List.getElem?_append_left (by rw [← sr.cells.len]; exact hn)] at hc
      exact s1.cells.here n a cl ha hc
    · have hn' : n = α.length := by
        have := (List.getElem?_eq_some_iff.mp ha).1
        rw [List.length_append, List.length_singleton] at this
        omega
      subst hn'
      rw [List.getElem?_append_right (Nat.le_refl _), Nat.sub_self] at ha
      rw [List.getElem?_append_right (by rw [sr.cells.len]; exact Nat.le_refl _), sr.cells.len, Nat.sub_self] at hc
      cases ha
      cases hc
      exact ⟨nF, vs, upd_same, Reps.mono e1.ev r⟩
  · rcases List.mem_append.mp ha with ha | ha
    · exact sr.loc a ha
    · rw [List.mem_singleton.mp ha]
      exact .inr h0
/-- a list of the frame's own is written -/
theorem SR.setL (sr : SR c m st F α σ H) {n : Nat} {a : Addr} {xs ys : List D} {vs : List V} (ha : α[n]? = some a) (hc : st.c[n]? = some (.own xs)) (r : Reps c F H ys vs) :
    Evo F α H F α (upd H a (.lst vs)) ∧ SR c m { st with c := st.c.set n (.own ys) } F α σ (upd H a (.lst vs)) := by
  obtain ⟨nF, ws, hw, _⟩ := sr.cells.here n a _ ha hc
  have k : ∀ b u, b ≠ a → H b = some u → upd H a (.lst vs) b = some u := fun b u hb e => by rw [upd_ne hb]; exact e
  have no : ∀ b u, H b = some u → (∀ l, u ≠ .lst l) → b ≠ a := fun b u e h z => by
    subst z
    rw [hw] at e
    cases e
    exact h _ rfl
  have ev : Ev F H F (upd H a (.lst vs)) := ⟨fun _ h => h, fun b u f h => k b u (fun z => nF (z ▸ f)) h, fun b xs h => k b _ (no b _ h fun l z => nomatch z) h, fun b ob u h => k b _ (no b _ h fun l z => nomatch z) h, fun b φ h => k b _ (no b _ h fun l z => nomatch z) h, fun b fs h => k b _ (no b _ h fun l z => nomatch z) h⟩
  have evo : Evo F α H F α (upd H a (.lst vs)) := by
    refine ⟨ev, List.prefix_rfl, fun _ h => .inl h, ⟨fun b u h hb _ => k b u (fun z => hb (z ▸ List.mem_of_getElem? ha)) h⟩, fun _ h => .inl h⟩
  refine ⟨evo, ⟨sr.len, fun i val hi => ?_, ⟨by rw [List.length_set]; exact sr.cells.len, sr.cells.nd, fun j b cl hb hcl => ?_⟩, sr.pre, sr.loc, fun b hb => ?_, fun q hq => ?_, ⟨fun b u h1 h2 h3 => ?_⟩, sr.new, sr.old, sr.ioF, sr.ioL, sr.dom0⟩⟩
  · obtain ⟨v, e1, e2⟩ := sr.vars i val hi
    exact ⟨v, e1, e2.mono evo⟩
  · by_cases hjn : j = n
    · subst hjn
      rw [ha] at hb; cases hb
      rw [List.getElem?_set_self (List.getElem?_eq_some_iff.mp hc).1] at hcl
      cases hcl
      exact ⟨nF, vs, upd_same, Reps.mono ev r⟩
    · rw [List.getElem?_set_ne (Ne.symm hjn)] at hcl
      have hba : b ≠ a := fun z => hjn (nd_at sr.cells.nd (z ▸ hb) ha)
      exact (sr.cells.here j b cl hb hcl).mono ev (fun z => z) (upd_ne hba)
  · obtain ⟨xs, h⟩ := sr.dom b hb
    exact ⟨xs, k b _ (fun z => nF (z ▸ hb)) h⟩
  · obtain ⟨ps, t1, t2, t3⟩ := sr.tab q hq
    refine ⟨ps, k _ _ (no _ _ t1 fun l z => nomatch z) t1, t2, fun p' cv hcv => ?_⟩
    obtain ⟨c0, z1, z2⟩ := t3 p' cv hcv
    refine ⟨c0, z1, k _ _ (no _ _ z2 fun l z => ?_) z2⟩
    unfold LamX.CodeO at z
    cases z
  · have hb := sr.fra.keep b u h1 h2 h3
    refine k b u (fun z => ?_) hb
    rcases sr.loc a (List.mem_of_getElem? ha) with w | w
    · exact h2 (z ▸ w)
    · exact w.no (z ▸ h1) h3
end
end Sh
end
section
set_option Elab.async false
set_option linter.all false
set_option maxRecDepth 100000
set_option maxHeartbeats 2000000
namespace Sh
open PySem PySem.Spec PyProof.Rows
open L2 hiding St

/-! ### expressions -/
section
variable {X : Cx} {c : Cn} {m : Fm} {W : WX} {e a b : Expr} {es : List Expr} {pos : Pos}
def varE (i : Nat) : S → OE := fun st => match st.v[i]? with
  | some (some v) => .ok v st
  | _ => .bad
theorem i_var {i : Nat} (h : PE X e (tVar i)) : PE X e (tI c m W (varE i)) := PE_imp h fun σ H Q ⟨st, F, α, sr, p⟩ => by
  unfold varE at p
  split at p
  · rename_i v hv
    obtain ⟨x, h1, h2⟩ := sr.vars i v hv
    exact ⟨x, h1, p x F α H .refl sr h2⟩
  · exact p.elim
def cE (x : D) : S → OE := fun st => .ok (.d x) st
theorem i_c {v : V} {x : D} (h : PE X e (tC v)) (r : ∀ F H, Rep c F H x v) : PE X e (tI c m W (cE x)) := PE_imp h fun σ H Q ⟨st, F, α, sr, p⟩ => p v F α H .refl sr (r F H)
theorem i_int {i : Int} {j : Nat} : PE X (.Constant (.int i) j pos) (tI c m W (cE (.int i))) := i_c pe_int fun _ _ => .int
theorem i_bl {b : Bool} {j : Nat} : PE X (.Constant (.bool b) j pos) (tI c m W (cE (.bl b))) := i_c pe_bl fun _ _ => .bl
theorem i_non {j : Nat} : PE X (.Constant .none j pos) (tI c m W (cE .non)) := i_c pe_non fun _ _ => .non
theorem i_str {x : Str} {j : Nat} : PE X (.Constant (.str x) j pos) (tI c m W (cE (.str x))) := i_c pe_str fun _ _ => .str

/-! two places -/
def bin2 (g : Val → Val → S → OE) (fa fb : S → OE) : S → OE := fun st => (fa st).bind fun x st1 => (fb st1).bind fun y st2 => g x y st2
def un1 (g : Val → S → OE) (fa : S → OE) : S → OE := fun st => (fa st).bind g
/-- a rule for two values serves g -/
def ROp (c : Cn) (m : Fm) (W : WX) (g : Val → Val → S → OE) (r : R2) : Prop :=
  ∀ st F α σ H va vb x y Q, SR c m st F α σ H → VR c m F α H va x → VR c m F α H vb y → PEo c m W σ F α H Q (g va vb st) → r x y H Q
def ROp1 (c : Cn) (m : Fm) (W : WX) (g : Val → S → OE) (r : V → Hp → VK → Prop) : Prop :=
  ∀ st F α σ H va x Q, SR c m st F α σ H → VR c m F α H va x → PEo c m W σ F α H Q (g va st) → r x H Q
def RCall (c : Cn) (m : Fm) (W : WX) (g : List Val → S → OE) (r : List V → Hp → VK → Prop) : Prop :=
  ∀ st F α σ H va x Q, SR c m st F α σ H → VRs c m F α H va x → PEo c m W σ F α H Q (g va st) → r x H Q
theorem bin_imp {g : Val → Val → S → OE} {r : R2} {fa fb : S → OE} (hr : ROp c m W g r) : ∀ σ H Q, tI c m W (bin2 g fa fb) σ H Q → tOp r (tI c m W fa) (tI c m W fb) σ H Q := fun σ H Q ⟨st, F, α, sr, p⟩ =>
  kE pstE sr p fun va st1 x F1 α1 H1 _ s1 r1 p1 => kE pstE s1 p1 fun vb st2 y F2 α2 H2 e2 s2 r2 p2 => hr st2 F2 α2 σ H2 va vb x y Q s2 (r1.mono e2) r2 p2
theorem i_op {op : Operator} {g : Val → Val → S → OE} {r : R2} {fa fb : S → OE} (ho : OpR X (binaryOp op) r) (hr : ROp c m W g r) (ha : PE X a (tI c m W fa)) (hb : PE X b (tI c m W fb)) :
    PE X (.BinOp a op b pos) (tI c m W (bin2 g fa fb)) := PE_imp (pe_op ho ha hb) (bin_imp hr)
theorem i_cmp {op : CmpOp} {g : Val → Val → S → OE} {r : R2} {fa fb : S → OE} (ho : OpR X (compareOp op) r) (hr : ROp c m W g r) (ha : PE X a (tI c m W fa)) (hb : PE X b (tI c m W fb)) (hm : behindInMarks op b = false) :
    PE X (.Compare a [op] [b] pos) (tI c m W (bin2 g fa fb)) := PE_imp (pe_cmpR ho ha hb hm) (bin_imp hr)
theorem i_ix {g : Val → Val → S → OE} {r : R2} {fa fb : S → OE} (ho : IxR X r) (hr : ROp c m W g r) (ha : PE X a (tI c m W fa)) (hb : PE X b (tI c m W fb)) (hs : PlainIx b) :
    PE X (.Subscript a b pos) (tI c m W (bin2 g fa fb)) := PE_imp (pe_ix ho ha hb hs) (bin_imp hr)
theorem un_imp {g : Val → S → OE} {r : V → Hp → VK → Prop} {fa : S → OE} (hr : ROp1 c m W g r) : ∀ σ H Q, tI c m W (un1 g fa) σ H Q → tUn r (tI c m W fa) σ H Q := fun σ H Q ⟨st, F, α, sr, p⟩ =>
  kE pstE sr p fun va st1 x F1 α1 H1 _ s1 r1 p1 => hr st1 F1 α1 σ H1 va x Q s1 r1 p1
theorem i_un {op : UnaryOp} {g : Val → S → OE} {r : V → Hp → VK → Prop} {fa : S → OE} (ho : UnR X (unaryOp op) r) (hr : ROp1 c m W g r) (ha : PE X a (tI c m W fa)) :
    PE X (.UnaryOp op a pos) (tI c m W (un1 g fa)) := PE_imp (pe_un ho ha) (un_imp hr)

/-! arguments -/
theorem i_pa_nil : PA X [] (tA c m W (seqE [])) := PA_imp pa_nil fun σ H Q ⟨st, F, α, sr, p⟩ => p [] F α H .refl sr .nil
theorem i_pa_cons {f : S → OE} {fs : List (S → OE)} (ha : PE X e (tI c m W f)) (hr : PA X es (tA c m W (seqE fs))) (hs : starEach (e :: es) X.env = (false, eval e X.env) :: starEach es X.env := by rfl) :
    PA X (e :: es) (tA c m W (seqE (f :: fs))) := PA_imp (pa_cons ha hr hs) fun σ H Q ⟨st, F, α, sr, p⟩ =>
  kE pstA sr p fun va st1 x F1 α1 H1 _ s1 r1 p1 => kA pstA s1 p1 fun vs st2 xs F2 α2 H2 e2 s2 r2 p2 => p2 (x :: xs) F2 α2 H2 .refl s2 (.cons (r1.mono e2) r2)
def callE (g : List Val → S → OE) (fs : List (S → OE)) : S → OE := fun st => (seqE fs st).bind g
variable {x : Str} {p : Pos} {id T : String}
theorem call_imp {g : List Val → S → OE} {fs : List (S → OE)} {r : List V → Hp → VK → Prop} (hr : RCall c m W g r) : ∀ σ H Q, tI c m W (callE g fs) σ H Q → tCB r (tA c m W (seqE fs)) σ H Q := fun σ H Q ⟨st, F, α, sr, p⟩ =>
  kA pstE sr p fun vs st1 xs F1 α1 H1 _ s1 r1 p1 => hr st1 F1 α1 σ H1 vs xs Q s1 r1 p1
/-- a built-in function by its name -/
theorem i_callB {g : List Val → S → OE} {fs : List (S → OE)} {r : List V → Hp → VK → Prop} (hc : CallR X (.builtin id) r) (hr : RCall c m W g r) (hm : X.mg x = none) (hv : bootBuiltins x = some (.builtin id)) (ha : PA X (e :: es) (tA c m W (seqE fs)))
    (hg : Gl X x := by rfl) (hn : x ≠ "__name__" := by decide) (hdb : (x == ("__debug__" : Str)) = false := by decide) (he : starEach (e :: es) X.env = (false, eval e X.env) :: starEach es X.env := by rfl) (hpl : (backTo pos (starEach es X.env)).any (·.1) = false := by rfl) :
    PE X (.Call (.Name x p) (e :: es) [] pos) (tI c m W (callE g fs)) := PE_imp (pe_callB hc hg hm hv ha hn hdb he hpl) (call_imp hr)
theorem i_callT {g : List Val → S → OE} {fs : List (S → OE)} {r : List V → Hp → VK → Prop} (hc : CallR X (.type T) r) (hr : RCall c m W g r) (hm : X.mg x = none) (hv : bootBuiltins x = some (.type T)) (ha : PA X (e :: es) (tA c m W (seqE fs)))
    (hg : Gl X x := by rfl) (hn : x ≠ "__name__" := by decide) (hdb : (x == ("__debug__" : Str)) = false := by decide) (he : starEach (e :: es) X.env = (false, eval e X.env) :: starEach es X.env := by rfl) (hpl : (backTo pos (starEach es X.env)).any (·.1) = false := by rfl) :
    PE X (.Call (.Name x p) (e :: es) [] pos) (tI c m W (callE g fs)) := PE_imp (pe_callTy hc hg hm hv ha hn hdb he hpl) (call_imp hr)
/-- a module's name for a built-in function -/
theorem i_callF {g : List Val → S → OE} {fs : List (S → OE)} {r : List V → Hp → VK → Prop} (hc : CallR X (.builtin id) r) (hr : RCall c m W g r) (hm : X.mg x = some (.builtin id)) (ha : PA X (e :: es) (tA c m W (seqE fs)))
    (hg : Gl X x := by rfl) (hdb : (x == ("__debug__" : Str)) = false := by decide) (he : starEach (e :: es) X.env = (false, eval e X.env) :: starEach es X.env := by rfl) (hpl : (backTo pos (starEach es X.env)).any (·.1) = false := by rfl) :
    PE X (.Call (.Name x p) (e :: es) [] pos) (tI c m W (callE g fs)) := PE_imp (pe_callBfun hc hg hm ha hdb he hpl) (call_imp hr)

/-! displays -/
def tupE (fs : List (S → OE)) : S → OE := fun st => (seqE fs st).bind fun vs st1 => match toDs vs st1 with
  | some (xs, st2) => .ok (.d (.tup xs)) st2
  | none => .bad
def newLst (xs : List D) (st : S) : OE := .ok (.c st.c.length) { st with c := st.c ++ [.own xs] }
def lstE (fs : List (S → OE)) : S → OE := fun st => (seqE fs st).bind fun vs st1 => match toDs vs st1 with
  | some (xs, st2) => newLst xs st2
  | none => .bad
theorem seqE_len : ∀ {fs : List (S → OE)} {st st' : S} {vs : List Val}, seqE fs st = .ok vs st' → vs.length = fs.length
  | [], st, st', vs, h => by cases h; rfl
  | f :: fs, st, st', vs, h => by
    unfold seqE at h
    cases h1 : f st with
    | ok v st1 =>
      rw [h1] at h
      simp only [Out.bind] at h
      cases h2 : seqE fs st1 with
      | ok ws st2 =>
        rw [h2] at h
        simp only [Out.bind] at h
        cases h
        rw [List.length_cons, List.length_cons, seqE_len h2]
      | exc nm x st2 => rw [h2] at h; cases h
      | bad => rw [h2] at h; cases h
    | exc nm x st1 => rw [h1] at h; cases h
    | bad => rw [h1] at h; cases h
theorem VRs.len {F : Fz} {α : List Addr} {H : Hp} : ∀ {as : List Val} {vs : List V}, VRs c m F α H as vs → as.length = vs.length
  | _, _, .nil => rfl
  | _, _, .cons _ r => congrArg (· + 1) (VRs.len r)
theorem line_of {n : Nat} (h : n ≤ 1000000) : n ≤ sizeLine := Nat.le_trans h (by rw [sizeLine_eq]; decide)
/-- what the values' number is, beside kA -/
theorem kAn {st : S} {F : Fz} {α : List Addr} {σ : L2.St} {H : Hp} {β : Type} {R : Fz → List Addr → Hp → Out β → Prop} (p : Pst c m W σ R) {fs : List (S → OE)} {g : List Val → S → Out β} {P : List V → Hp → Prop} (sr : SR c m st F α σ H) (h : R F α H ((seqE fs st).bind g))
    (k : ∀ v st' x F' α' H', x.length = fs.length → Evo F α H F' α' H' → SR c m st' F' α' σ H' → VRs c m F' α' H' v x → R F' α' H' (g v st') → P x H') : tA c m W (seqE fs) σ H P := by
  refine ⟨st, F, α, sr, ?_⟩
  generalize ho : seqE fs st = o at h ⊢
  cases o with
  | ok v st' => exact fun x F' α' H' e s' r => k v st' x F' α' H' (by rw [← r.len, seqE_len ho]) e s' r (p.evo e h)
  | exc nm x st' => exact p.exc h
  | bad => exact p.bad h
theorem i_tup {fs : List (S → OE)} {k : Nat} (ha : PA X es (tA c m W (seqE fs))) (hl : fs.length ≤ 1000000 := by exact Nat.le_of_ble_eq_true rfl) : PE X (.Tuple es k pos) (tI c m W (tupE fs)) := PE_imp (pe_tup ha) fun σ H Q ⟨st, F, α, sr, p⟩ =>
  kAn pstE sr p fun vs st1 xs F1 α1 H1 hlen _ s1 r1 p1 => by
    refine ⟨by rw [hlen]; exact line_of hl, fun q hq => ?_⟩
    cases e : toDs vs st1 with
    | none => rw [e] at p1; exact p1.elim
    | some y =>
      obtain ⟨ys, st2⟩ := y
      rw [e] at p1
      obtain ⟨F2, e2, s2, r2, _⟩ := toDs_ok s1 r1 e
      obtain ⟨e3, s3⟩ := s2.newT (o := .tup xs) hq
      exact p1 (.ref q) F2 α1 _ (e2.trans e3) s3 (.tup (.inl (.inl upd_same)) (Reps.mono e3.ev r2))
theorem newLst_ok {st : S} {F : Fz} {α : List Addr} {σ : L2.St} {H : Hp} {Q : VK} {xs : List D} {vs : List V} {q : Addr} (sr : SR c m st F α σ H) (r : Reps c F H xs vs) (hq : H q = none) (p : PEo c m W σ F α H Q (newLst xs st)) : Q (.ref q) (upd H q (.lst vs)) := by
  obtain ⟨e3, s3⟩ := sr.newL hq r
  refine p (.ref q) F (α ++ [q]) _ e3 s3 ⟨q, ?_, rfl⟩
  rw [← sr.cells.len, List.getElem?_append_right (Nat.le_refl _), Nat.sub_self]
  rfl
theorem i_lst {fs : List (S → OE)} (ha : PA X es (tA c m W (seqE fs))) (hl : fs.length ≤ 1000000 := by exact Nat.le_of_ble_eq_true rfl) : PE X (.List es pos) (tI c m W (lstE fs)) := PE_imp (pe_lst ha) fun σ H Q ⟨st, F, α, sr, p⟩ =>
  kAn pstE sr p fun vs st1 xs F1 α1 H1 hlen _ s1 r1 p1 => by
    refine ⟨by rw [hlen]; exact line_of hl, fun q hq => ?_⟩
    cases e : toDs vs st1 with
    | none => rw [e] at p1; exact p1.elim
    | some y =>
      obtain ⟨ys, st2⟩ := y
      rw [e] at p1
      obtain ⟨F2, e2, s2, r2, _⟩ := toDs_ok s1 r1 e
      exact newLst_ok s2 r2 hq (PEo.evo e2 p1)

/-! ### tests -/
variable {f g : S → OE} {rest : List Expr}
/-- a value that is a bool, asked -/
theorem i_test (h : PE X e (tI c m W f)) (he : ∀ whole, isTrue e X.env whole = (do let v ← whole; standAt e.pos; holding [v] (truthy v)) := by intro _; rfl) : PT X e (tT c m W f) := PT_imp (pt_val h he) fun σ H Q ⟨st, F, α, sr, p⟩ => by
  refine ⟨st, F, α, sr, ?_⟩
  generalize f st = o at p ⊢
  cases o with
  | ok v st' =>
    cases v with
    | d x =>
      cases x with
      | bl b =>
        intro y F' α' H' e' s' r
        cases r
        exact ⟨b, rfl, p F' α' H' e' s'⟩
      | _ => exact p.elim
    | _ => exact p.elim
  | exc nm x st' => exact p
  | bad => exact p
theorem i_testc {op : CmpOp} {gg : Val → Val → S → OE} {r : R2} {fa fb : S → OE} (ho : OpR X (compareOp op) r) (hr : ROp c m W gg r) (ha : PE X a (tI c m W fa)) (hb : PE X b (tI c m W fb)) (hm : behindInMarks op b = false) :
    PT X (.Compare a [op] [b] pos) (tT c m W (bin2 gg fa fb)) := PT_imp (pt_cmpR ho ha hb hm) fun σ H Q ⟨st, F, α, sr, p⟩ => by
  refine bin_imp (g := gg) (r := r) hr σ H _ ⟨st, F, α, sr, ?_⟩
  generalize bin2 gg fa fb st = o at p ⊢
  cases o with
  | ok v st' =>
    cases v with
    | d x =>
      cases x with
      | bl b =>
        intro y F' α' H' e' s' r
        cases r
        exact ⟨b, rfl, p F' α' H' e' s'⟩
      | _ => exact p.elim
    | _ => exact p.elim
  | exc nm x st' => exact p
  | bad => exact p
def andE (f g : S → OE) : S → OE := fun st => (f st).bind (onB g (cE (.bl false)))
def orE (f g : S → OE) : S → OE := fun st => (f st).bind (onB (cE (.bl true)) g)
def notE (f : S → OE) : S → OE := fun st => (f st).bind (onB (cE (.bl false)) (cE (.bl true)))
def ifE (t f g : S → OE) : S → OE := fun st => (t st).bind (onB f g)
theorem w_and1 (ha : PT X a (tT c m W f)) : PW X (.BoolOp .And [a] pos) (tT c m W f) := pw_and1 ha
theorem w_or1 (ha : PT X a (tT c m W f)) : PW X (.BoolOp .Or [a] pos) (tT c m W f) := pw_or1 ha
theorem w_and (ha : PT X a (tT c m W f)) (hb : PW X (.BoolOp .And (b :: rest) pos) (tT c m W g)) : PW X (.BoolOp .And (a :: b :: rest) pos) (tT c m W (andE f g)) := PW_imp (pw_and ha hb) fun σ H Q ⟨st, F, α, sr, p⟩ =>
  kT pstT sr p fun k st' F' α' H' e' s' p' => by
    cases k with
    | true =>
      rw [if_pos rfl] at p' ⊢
      exact ⟨st', F', α', s', p'⟩
    | false =>
      rw [if_neg Bool.false_ne_true] at p' ⊢
      exact p' F' α' H' .refl s'
theorem w_or (ha : PT X a (tT c m W f)) (hb : PW X (.BoolOp .Or (b :: rest) pos) (tT c m W g)) : PW X (.BoolOp .Or (a :: b :: rest) pos) (tT c m W (orE f g)) := PW_imp (pw_or ha hb) fun σ H Q ⟨st, F, α, sr, p⟩ =>
  kT pstT sr p fun k st' F' α' H' e' s' p' => by
    cases k with
    | true =>
      rw [if_pos rfl] at p' ⊢
      exact p' F' α' H' .refl s'
    | false =>
      rw [if_neg Bool.false_ne_true] at p' ⊢
      exact ⟨st', F', α', s', p'⟩
theorem t_not (ha : PT X a (tT c m W f)) : PT X (.UnaryOp .Not a pos) (tT c m W (notE f)) := PT_imp (pt_not ha) fun σ H Q ⟨st, F, α, sr, p⟩ =>
  kT pstT sr p fun k st' F' α' H' e' s' p' => by
    cases k with
    | true => exact p' F' α' H' .refl s'
    | false => exact p' F' α' H' .refl s'
theorem i_ifx {t : S → OE} {q : Expr} (ht : PT X q (tT c m W t)) (ha : PE X a (tI c m W f)) (hb : PE X b (tI c m W g)) : PE X (.IfExp q a b pos) (tI c m W (ifE t f g)) := PE_imp (pe_ifExp ht ha hb) fun σ H Q ⟨st, F, α, sr, p⟩ =>
  kT pstE sr p fun k st' F' α' H' e' s' p' => by
    cases k with
    | true => exact ⟨st', F', α', s', p'⟩
    | false => exact ⟨st', F', α', s', p'⟩
/-- and, or as values: all but the last are bools -/
theorem i_b1 {op : PySem.BoolOp} (ha : PE X a (tI c m W f)) : PE X (.BoolOp op [a] pos) (tI c m W f) := pe_one ha
theorem i_and (ha : PE X a (tI c m W f)) (hb : PE X (.BoolOp .And (b :: rest) pos) (tI c m W g)) : PE X (.BoolOp .And (a :: b :: rest) pos) (tI c m W (andE f g)) := PE_imp (pe_and ha hb) fun σ H Q ⟨st, F, α, sr, p⟩ =>
  kE pstE sr p fun va st1 x F1 α1 H1 _ s1 r1 p1 => by
    cases va with
    | d y =>
      cases y with
      | bl k =>
        cases r1
        refine ⟨k, rfl, ?_⟩
        cases k with
        | true => exact ⟨st1, F1, α1, s1, p1⟩
        | false => exact p1 (.bl false) F1 α1 H1 .refl s1 .bl
      | _ => exact p1.elim
    | _ => exact p1.elim
theorem i_or (ha : PE X a (tI c m W f)) (hb : PE X (.BoolOp .Or (b :: rest) pos) (tI c m W g)) : PE X (.BoolOp .Or (a :: b :: rest) pos) (tI c m W (orE f g)) := PE_imp (pe_or ha hb) fun σ H Q ⟨st, F, α, sr, p⟩ =>
  kE pstE sr p fun va st1 x F1 α1 H1 _ s1 r1 p1 => by
    cases va with
    | d y =>
      cases y with
      | bl k =>
        cases r1
        refine ⟨k, rfl, ?_⟩
        cases k with
        | true => exact p1 (.bl true) F1 α1 H1 .refl s1 .bl
        | false => exact ⟨st1, F1, α1, s1, p1⟩
      | _ => exact p1.elim
    | _ => exact p1.elim
theorem i_not (ha : PE X a (tI c m W f)) : PE X (.UnaryOp .Not a pos) (tI c m W (notE f)) := PE_imp (pe_not ha) fun σ H Q ⟨st, F, α, sr, p⟩ =>
  kE pstE sr p fun va st1 x F1 α1 H1 _ s1 r1 p1 => by
    cases va with
    | d y =>
      cases y with
      | bl k =>
        cases r1
        refine ⟨k, rfl, ?_⟩
        cases k with
        | true => exact p1 (.bl false) F1 α1 H1 .refl s1 .bl
        | false => exact p1 (.bl true) F1 α1 H1 .refl s1 .bl
      | _ => exact p1.elim
    | _ => exact p1.elim
/-- a < b < d -/
def chainE (g1 g2 : Val → Val → S → OE) (fa fb fd : S → OE) : S → OE := fun st => (fa st).bind fun x st1 => (fb st1).bind fun y st2 => (g1 x y st2).bind (onB (fun st3 => (fd st3).bind fun z st4 => g2 y z st4) (cE (.bl false)))
theorem i_chain {op op' : CmpOp} {g1 g2 : Val → Val → S → OE} {r r' : R2} {fa fb fd : S → OE} {d : Expr} (ho : OpR X (compareOp op) r) (ho' : OpR X (compareOp op') r') (hr : ROp c m W g1 r) (hr' : ROp c m W g2 r')
    (ha : PE X a (tI c m W fa)) (hb : PE X b (tI c m W fb)) (hd : PE X d (tI c m W fd)) (hm : lastMarks [op, op'] [b, d] = false := by with_unfolding_all rfl) : PE X (.Compare a [op, op'] [b, d] pos) (tI c m W (chainE g1 g2 fa fb fd)) :=
  PE_imp (pe_chain ho ho' ha hb hd hm) fun σ H Q ⟨st, F, α, sr, p⟩ =>
  kE pstE sr p fun va st1 x F1 α1 H1 _ s1 r1 p1 => kE pstE s1 p1 fun vb st2 y F2 α2 H2 e2 s2 r2 p2 => by
    refine hr st2 F2 α2 σ H2 va vb x y _ s2 (r1.mono e2) r2 ?_
    generalize g1 va vb st2 = o at p2 ⊢
    cases o with
    | bad => exact p2
    | exc nm z st3 => exact p2
    | ok v st3 =>
      cases v with
      | d w =>
        cases w with
        | bl k =>
          intro z F3 α3 H3 e3 s3 r3
          cases r3
          refine ⟨k, rfl, ?_⟩
          cases k with
          | false => exact p2 (.bl false) F3 α3 H3 e3 s3 .bl
          | true =>
            rw [if_pos rfl]
            refine kE pstE s3 (PEo.evo e3 p2) fun vc st4 w F4 α4 H4 e4 s4 r4 p4 => ?_
            exact hr' st4 F4 α4 σ H4 vb vc y w Q s4 (r2.mono (e3.trans e4)) r4 p4
        | _ => exact p2.elim
      | _ => exact p2.elim
end
end Sh
end
section
set_option Elab.async false
set_option linter.all false
set_option maxRecDepth 100000
set_option maxHeartbeats 2000000
namespace Sh
open PySem PySem.Spec PyProof.Rows
open L2 hiding St

/-! ### == of data -/
mutual
def py : D → PyData
  | .non => .none
  | .bl b => .bool b
  | .int i => .int i
  | .str x => .str x
  | .obj _ => .none
  | .ty _ => .none
  | .tup xs => .tuple (pys xs)
  | .lst xs => .list (pys xs)
  | .klst xs => .list (pys xs)
def pys : List D → List PyData
  | [] => []
  | x :: xs => py x :: pys xs
end
mutual
def wf : D → Bool
  | .non => true
  | .bl _ => true
  | .int _ => true
  | .str x => PyData.strOk x
  | .obj _ => false
  | .ty _ => false
  | .tup xs => wfs xs
  | .lst xs => wfs xs
  | .klst xs => wfs xs
def wfs : List D → Bool
  | [] => true
  | x :: xs => wf x && wfs xs
end
mutual
def dep : D → Nat
  | .tup xs => deps xs + 1
  | .lst xs => deps xs + 1
  | .klst xs => deps xs + 1
  | .non => 0
  | .bl _ => 0
  | .int _ => 0
  | .str _ => 0
  | .obj _ => 0
  | .ty _ => 0
def deps : List D → Nat
  | [] => 0
  | x :: xs => max (dep x) (deps xs)
end
mutual
def eqD : D → D → Bool
  | .non, .non => true
  | .bl a, .bl b => a == b
  | .bl a, .int j => (if a then 1 else 0) == j
  | .int i, .bl b => i == (if b then 1 else 0)
  | .int i, .int j => i == j
  | .str x, .str y => x == y
  | .tup xs, .tup ys => eqDs xs ys
  | .lst xs, .lst ys => eqDs xs ys
  | .lst xs, .klst ys => eqDs xs ys
  | .klst xs, .lst ys => eqDs xs ys
  | .klst xs, .klst ys => eqDs xs ys
  | _, _ => false
def eqDs : List D → List D → Bool
  | [], [] => true
  | x :: xs, y :: ys => eqD x y && eqDs xs ys
  | _, _ => false
end
def okD (x : D) : Bool := wf x && decide (dep x ≤ 60)
mutual
theorem py_lay : ∀ x : D, wf x = true → (py x).canLay0 = true
  | .non, _ => by simp only [py, PyData.canLay0]
  | .bl _, _ => by simp only [py, PyData.canLay0]
  | .int _, _ => by simp only [py, PyData.canLay0]
  | .str x, h => by
    simp only [py, PyData.canLay0]
    simpa only [wf] using h
  | .obj _, h => by simp [wf] at h
  | .ty _, h => by simp [wf] at h
  | .tup xs, h => by simp only [py, PyData.canLay0]; exact pys_lay xs (by simpa only [wf] using h)
  | .lst xs, h => by simp only [py, PyData.canLay0]; exact pys_lay xs (by simpa only [wf] using h)
  | .klst xs, h => by simp only [py, PyData.canLay0]; exact pys_lay xs (by simpa only [wf] using h)
theorem pys_lay : ∀ xs : List D, wfs xs = true → PyData.canLayAll0 (pys xs) = true
  | [], _ => by simp only [pys, PyData.canLayAll0]
  | x :: xs, h => by
    simp only [wfs, Bool.and_eq_true] at h
    simp only [pys, PyData.canLayAll0, Bool.and_eq_true]
    exact ⟨py_lay x h.1, pys_lay xs h.2⟩
end
mutual
theorem py_dep : ∀ x : D, (py x).depth = dep x
  | .non => by simp only [py, PyData.depth, dep]
  | .bl _ => by simp only [py, PyData.depth, dep]
  | .int _ => by simp only [py, PyData.depth, dep]
  | .str x => by simp only [py, PyData.depth, dep]
  | .obj _ => by simp only [py, PyData.depth, dep]
  | .ty _ => by simp only [py, PyData.depth, dep]
  | .tup xs => by simp only [py, PyData.depth, dep, pys_dep xs]
  | .lst xs => by simp only [py, PyData.depth, dep, pys_dep xs]
  | .klst xs => by simp only [py, PyData.depth, dep, pys_dep xs]
theorem pys_dep : ∀ xs : List D, PyData.depthAll (pys xs) = deps xs
  | [] => by simp only [pys, PyData.depthAll, deps]
  | x :: xs => by simp only [pys, PyData.depthAll, deps, py_dep x, pys_dep xs]
end
theorem py_shaped {x : D} (h : okD x = true) : SeqAt.shaped (py x) = true := by
  unfold okD at h
  rw [Bool.and_eq_true, decide_eq_true_eq] at h
  unfold SeqAt.shaped
  rw [Bool.and_eq_true, decide_eq_true_eq, py_dep]
  exact ⟨py_lay x h.1, by omega⟩
mutual
theorem py_eqv : ∀ x y : D, wf x = true → wf y = true → PyData.eqv (py x) (py y) = eqD x y
  | .non, y, _, hy => by cases y <;> simp_all [py, PyData.eqv, eqD, wf]
  | .bl _, y, _, hy => by cases y <;> simp_all [py, PyData.eqv, eqD, wf]
  | .int _, y, _, hy => by cases y <;> simp_all [py, PyData.eqv, eqD, wf]
  | .str x, y, _, hy => by cases y <;> simp_all [py, PyData.eqv, eqD, wf]
  | .obj _, _, h, _ => by simp [wf] at h
  | .ty _, _, h, _ => by simp [wf] at h
  | .tup xs, y, h, hy => by
    cases y with
    | tup ys => simp only [py, PyData.eqv, eqD]; exact pys_eqv xs ys (by simpa only [wf] using h) (by simpa only [wf] using hy)
    | _ => first | simp_all [py, PyData.eqv, eqD, wf] | simp [wf] at hy
  | .lst xs, y, h, hy => by
    cases y with
    | lst ys => simp only [py, PyData.eqv, eqD]; exact pys_eqv xs ys (by simpa only [wf] using h) (by simpa only [wf] using hy)
    | klst ys => simp only [py, PyData.eqv, eqD]; exact pys_eqv xs ys (by simpa only [wf] using h) (by simpa only [wf] using hy)
    | _ => first | simp_all [py, PyData.eqv, eqD, wf] | simp [wf] at hy
  | .klst xs, y, h, hy => by
    cases y with
    | lst ys => simp only [py, PyData.eqv, eqD]; exact pys_eqv xs ys (by simpa only [wf] using h) (by simpa only [wf] using hy)
    | klst ys => simp only [py, PyData.eqv, eqD]; exact pys_eqv xs ys (by simpa only [wf] using h) (by simpa only [wf] using hy)
    | _ => first | simp_all [py, PyData.eqv, eqD, wf] | simp [wf] at hy
theorem pys_eqv : ∀ xs ys : List D, wfs xs = true → wfs ys = true → PyData.eqvAll (pys xs) (pys ys) = eqDs xs ys
  | [], [], _, _ => by simp only [pys, PyData.eqvAll, eqDs]
  | [], _ :: _, _, _ => by simp only [pys, PyData.eqvAll, eqDs]
  | _ :: _, [], _, _ => by simp only [pys, PyData.eqvAll, eqDs]
  | x :: xs, y :: ys, h, hy => by
    simp only [wfs, Bool.and_eq_true] at h hy
    simp only [pys, PyData.eqvAll, eqDs, py_eqv x y h.1 hy.1, pys_eqv xs ys h.2 hy.2]
end

/-! ### what values hold -/
/-- a value's items where it is a list of the frame's own, or of the data -/
def lstOf : Val → S → Option (List D)
  | .d (.lst xs), _ => some xs
  | .c n, st => (st.c[n]?).map Cell.xs
  | _, _ => none
/-- a value as data, to be read -/
def dOf : Val → S → Option D
  | .d x, _ => some x
  | .c n, st => (st.c[n]?).map fun cl => .lst cl.xs
  | .t _ _ _, _ => none
  | .x _ _, _ => none
section
variable {c : Cn} {m : Fm} {W : WX} {σ : L2.St} {F : Fz} {α : List Addr} {H : Hp} {st : S}
theorem KL.sq {K : PySem.W.Frag} {H : Hp} {a : Addr} {vs : List V} (h : KL K a vs) : SqL K H a vs := .inr h
mutual
theorem Rep.dp : ∀ {x : D} {v : V}, wf x = true → Rep c F H x v → Dp c.K H v (py x)
  | _, _, _, .non => by simp only [py]; exact .non
  | _, _, _, .bl => by simp only [py]; exact .bl _
  | _, _, _, .int => by simp only [py]; exact .int _
  | _, _, _, .str => by simp only [py]; exact .str _
  | _, _, h, .ty => by simp [wf] at h
  | _, _, h, .obj _ => by simp [wf] at h
  | _, _, h, .tup q r => by simp only [py]; exact .tup q (Reps.dp (by simpa only [wf] using h) r)
  | _, _, h, .lst f q r => by simp only [py]; exact .lst (.inl (.inl q)) (Reps.dp (by simpa only [wf] using h) r)
  | _, _, h, .klst q r => by
    simp only [py]
    refine .lst ?_ (Reps.dp (by simpa only [wf] using h) r)
    rcases q with ⟨o, q⟩ | q
    · exact .inl (.inr ⟨o, q⟩)
    · exact .inr q
theorem Reps.dp : ∀ {xs : List D} {vs : List V}, wfs xs = true → Reps c F H xs vs → DpAll c.K H vs (pys xs)
  | _, _, _, .nil => by simp only [pys]; exact .nil
  | _, _, h, .cons a b => by
    simp only [wfs, Bool.and_eq_true] at h
    simp only [pys]
    exact .cons (Rep.dp h.1 a) (Reps.dp h.2 b)
end
theorem lstOf_ok {va : Val} {x : V} {xs : List D} (sr : SR c m st F α σ H) (r : VR c m F α H va x) (e : lstOf va st = some xs) : ∃ a vs, x = .ref a ∧ H a = some (.lst vs) ∧ Reps c F H xs vs := by
  unfold lstOf at e
  split at e
  · cases e
    cases r with
    | lst f h q => exact ⟨_, _, rfl, h, q⟩
  · rename_i n _
    obtain ⟨a, ha, rfl⟩ := r
    obtain ⟨cl, hc, ck⟩ := sr.cell ha
    rw [hc] at e
    cases e
    obtain ⟨vs, h1, h2⟩ := ck.read
    exact ⟨a, vs, rfl, h1, h2⟩
  · cases e
theorem dOf_dp {va : Val} {x : V} {y : D} (sr : SR c m st F α σ H) (r : VR c m F α H va x) (e : dOf va st = some y) (w : wf y = true) : Dp c.K H x (py y) := by
  cases va with
  | d z => cases e; exact Rep.dp w r
  | c n =>
    obtain ⟨a, ha, rfl⟩ := r
    obtain ⟨cl, hc, ck⟩ := sr.cell ha
    simp only [dOf, hc] at e
    cases e
    obtain ⟨vs, h1, h2⟩ := ck.read
    simp only [py]
    exact .lst (.inl (.inl h1)) (Reps.dp (by simpa only [wf] using w) h2)
  | t _ _ _ => cases e
  | x _ _ => cases e

/-! ### operators -/
def boolR (b : Bool) (st : S) : OE := .ok (.d (.bl b)) st
def intR (i : Int) (st : S) : OE := .ok (.d (.int i)) st
theorem PEo.now {Q : VK} {x : D} {v : V} (sr : SR c m st F α σ H) (r : Rep c F H x v) (p : PEo c m W σ F α H Q (.ok (.d x) st)) : Q v H := p v F α H .refl sr r
def intV (C : Int → Int → Bool) (g : Int → Int → Int) : Val → Val → S → OE
  | .d (.int i), .d (.int j), st => if C i j = true then intR (g i j) st else .bad
  | _, _, _ => .bad
def cmpV (g : Int → Int → Bool) : Val → Val → S → OE
  | .d (.int i), .d (.int j), st => boolR (g i j) st
  | _, _, _ => .bad
theorem int_ok {C : Int → Int → Bool} {Cp : Int → Int → Prop} {g : Int → Int → Int} (hC : ∀ i j, C i j = true → Cp i j) : ROp c m W (intV C g) (rI Cp fun i j => .int (g i j)) := fun st F α σ H va vb x y Q sr ra rb p => by
  unfold intV at p
  split at p
  · cases ra
    cases rb
    split at p
    · rename_i h
      exact ⟨_, _, rfl, rfl, hC _ _ h, p.now sr .int⟩
    · exact p.elim
  · exact p.elim
theorem int_ok0 {g : Int → Int → Int} : ROp c m W (intV (fun _ _ => true) g) (rI0 fun i j => .int (g i j)) := fun st F α σ H va vb x y Q sr ra rb p => by
  obtain ⟨i, j, h1, h2, _, h⟩ := int_ok (C := fun _ _ => true) (Cp := fun _ _ => True) (g := g) (fun _ _ _ => trivial) st F α σ H va vb x y Q sr ra rb p
  exact ⟨i, j, h1, h2, h⟩
theorem cmp_ok {g : Int → Int → Bool} : ROp c m W (cmpV g) (rI0 fun i j => .bl (g i j)) := fun st F α σ H va vb x y Q sr ra rb p => by
  unfold cmpV at p
  split at p
  · cases ra
    cases rb
    exact ⟨_, _, rfl, rfl, p.now sr .bl⟩
  · exact p.elim
def ltV := cmpV fun i j => decide (i < j)
def leV := cmpV fun i j => decide (i ≤ j)
def gtV := cmpV fun i j => decide (j < i)
def geV := cmpV fun i j => decide (j ≤ i)
def subV := intV (fun _ _ => true) fun i j => i - j
def modV := intV (fun _ j => decide (j ≠ 0)) fun i j => i.fmod j
def mulI := intV (fun i j => decide (i.natAbs.log2 + j.natAbs.log2 < 1000000)) fun i j => i * j
def divV := intV (fun _ j => decide (j ≠ 0 ∧ j.natAbs.log2 < 9000)) fun i j => i.fdiv j
def powV := intV (fun i j => decide (0 ≤ j ∧ j ≤ 1000000 ∧ i.natAbs < 2 ^ 64)) fun i j => i ^ j.toNat
def CDivA (_ j : Int) : Prop := j ≠ 0 ∧ j.natAbs.log2 < 9000
theorem op_fdivA {X : Cx} : OpR X (binaryOp .FloorDiv) (rI CDivA fun i j => .int (i.fdiv j)) := opI fun i j _ _ _ _ _ hc q => floordiv_int hc.1 q (.inl (PyProof.noPylong_of_log2 hc.2))
def negV : Val → S → OE
  | .d (.int i), st => intR (-i) st
  | _, _ => .bad
theorem neg_ok : ROp1 c m W negV (rU fun i => .int (-i)) := fun st F α σ H va x Q sr ra p => by
  unfold negV at p
  split at p
  · cases ra
    exact ⟨_, rfl, p.now sr .int⟩
  · exact p.elim
def eqV (neg : Bool) (va vb : Val) (st : S) : OE := match dOf va st, dOf vb st with
  | some x, some y => if okD x && okD y then boolR (if neg then !eqD x y else eqD x y) st else .bad
  | _, _ => .bad
theorem eq_get {neg : Bool} {Q : VK} {va vb : Val} {x y : V} (sr : SR c m st F α σ H) (ra : VR c m F α H va x) (rb : VR c m F α H vb y) (p : PEo c m W σ F α H Q (eqV neg va vb st)) :
    ∃ d e, Dp c.K H x d ∧ Dp c.K H y e ∧ SeqAt.shaped d = true ∧ SeqAt.shaped e = true ∧ Q (.bl (if neg then !PyData.eqv d e else PyData.eqv d e)) H := by
  unfold eqV at p
  split at p
  · rename_i a b h1 h2
    split at p
    · rename_i h
      rw [Bool.and_eq_true] at h
      have wa : wf a = true := by have := h.1; unfold okD at this; rw [Bool.and_eq_true] at this; exact this.1
      have wb : wf b = true := by have := h.2; unfold okD at this; rw [Bool.and_eq_true] at this; exact this.1
      refine ⟨py a, py b, dOf_dp sr ra h1 wa, dOf_dp sr rb h2 wb, py_shaped h.1, py_shaped h.2, ?_⟩
      rw [py_eqv a b wa wb]
      exact p.now sr .bl
    · exact p.elim
  · exact p.elim
theorem eq_ok : ROp c m W (eqV false) (rEqD c.K) := fun st F α σ H va vb x y Q sr ra rb p => eq_get sr ra rb p
theorem ne_ok : ROp c m W (eqV true) (rNeD c.K) := fun st F α σ H va vb x y Q sr ra rb p => eq_get sr ra rb p
/-- is None -/
def isNon : Val → Option Bool
  | .d .non => some true
  | .d _ => some false
  | .c _ => some false
  | .t _ _ _ => some false
  | .x _ _ => some false
def isNV (neg : Bool) (va vb : Val) (st : S) : OE := match vb, isNon va with
  | .d .non, some k => boolR (if neg then !k else k) st
  | _, _ => .bad
theorem isN_get {neg : Bool} {Q : VK} {va vb : Val} {x y : V} (sr : SR c m st F α σ H) (ra : VR c m F α H va x) (rb : VR c m F α H vb y) (p : PEo c m W σ F α H Q (isNV neg va vb st)) :
    y = .non ∧ Q (.bl (if neg then !decide (x = .non) else decide (x = .non))) H := by
  unfold isNV at p
  split at p
  · rename_i k hk
    cases rb
    refine ⟨rfl, ?_⟩
    have e : decide (x = .non) = k := by
      unfold isNon at hk
      cases va with
      | d z =>
        cases z <;> cases ra <;> cases hk <;> first | rfl | decide | exact decide_eq_false (fun q => nomatch q)
      | c n => obtain ⟨a, _, rfl⟩ := ra; cases hk; exact decide_eq_false (fun q => nomatch q)
      | t _ _ _ => obtain ⟨a, rfl, _⟩ := ra; cases hk; exact decide_eq_false (fun q => nomatch q)
      | x _ _ => obtain ⟨a, _, _, _, _, _, rfl, _⟩ := ra; cases hk; exact decide_eq_false (fun q => nomatch q)
    rw [e]
    exact p.now sr .bl
  · exact p.elim
theorem isN_ok : ROp c m W (isNV false) (fun x y H Q => y = .non ∧ Q (.bl (decide (x = .non))) H) := fun st F α σ H va vb x y Q sr ra rb p => isN_get sr ra rb p
theorem notN_ok : ROp c m W (isNV true) (fun x y H Q => y = .non ∧ Q (.bl (!decide (x = .non))) H) := fun st F α σ H va vb x y Q sr ra rb p => isN_get sr ra rb p
/-- + -/
def addV (va vb : Val) (st : S) : OE := match va, vb with
  | .d (.int i), .d (.int j) => intR (i + j) st
  | .d (.str i), .d (.str j) => if i.length + j.length ≤ 1000000 then .ok (.d (.str (i ++ j))) st else .bad
  | .d (.tup xs), .d (.tup ys) => if xs.length + ys.length ≤ 1000000 then .ok (.d (.tup (xs ++ ys))) st else .bad
  | _, _ => match lstOf va st, lstOf vb st with
    | some xs, some ys => if xs.length + ys.length ≤ 1000000 then newLst (xs ++ ys) st else .bad
    | _, _ => .bad
def rAddA (K : PySem.W.Frag) : R2 := fun x y H Q => (∃ i j, x = .int i ∧ y = .int j ∧ Q (.int (i + j)) H) ∨ (∃ i j, x = .str i ∧ y = .str j ∧ i.length + j.length ≤ sizeLine ∧ Q (.str (i ++ j)) H) ∨ rCatA K x y H Q ∨ rCat x y H Q
theorem op_addA {X : Cx} : OpR X (binaryOp .Add) (rAddA X.K) := op_add.or (op_add_str.or (op_catA.or op_cat))
theorem Reps.nilL {xs : List D} {vs : List V} (h : Reps c F H xs vs) (e : vs = []) : xs = [] := by
  subst e; cases h; rfl
theorem add_ok : ROp c m W addV (rAddA c.K) := fun st F α σ H va vb x y Q sr ra rb p => by
  unfold addV at p
  split at p
  · cases ra; cases rb
    exact .inl ⟨_, _, rfl, rfl, p.now sr .int⟩
  · cases ra; cases rb
    split at p
    · rename_i h
      exact .inr (.inl ⟨_, _, rfl, rfl, line_of h, p.now sr .str⟩)
    · exact p.elim
  · split at p
    · rename_i h
      cases ra with
      | tup q1 r1 =>
        cases rb with
        | tup q2 r2 =>
          rename_i xs ys _ _ a vs b ws
          refine .inr (.inr (.inl ⟨a, b, vs, ws, rfl, rfl, q1, q2, line_of (by rw [← r1.len, ← r2.len]; exact h), fun e => ?_, fun _ e => ?_, fun _ _ q hq => ?_⟩))
          · have e1 := r1.nilL e
            subst e e1
            exact p.now sr (.tup q2 r2)
          · have e1 := r2.nilL e
            subst e e1
            rw [List.append_nil] at p
            exact p.now sr (.tup q1 r1)
          · obtain ⟨e3, s3⟩ := sr.newT (o := .tup (vs ++ ws)) hq
            exact p (.ref q) F α _ e3 s3 (.tup (.inl (.inl upd_same)) (Reps.mono e3.ev (r1.append r2)))
    · exact p.elim
  · split at p
    · rename_i xs ys h1 h2
      split at p
      · rename_i h
        obtain ⟨a, vs, rfl, ha, r1⟩ := lstOf_ok sr ra h1
        obtain ⟨b, ws, rfl, hb, r2⟩ := lstOf_ok sr rb h2
        exact .inr (.inr (.inr ⟨a, b, vs, ws, rfl, rfl, ha, hb, line_of (by rw [← r1.len, ← r2.len]; exact h), fun q hq => newLst_ok sr (r1.append r2) hq p⟩))
      · exact p.elim
    · exact p.elim
/-- * -/
def mulV (va vb : Val) (st : S) : OE := match va, vb with
  | .d (.int i), .d (.int j) => if i.natAbs.log2 + j.natAbs.log2 < 1000000 then intR (i * j) st else .bad
  | .d (.tup xs), .d (.int k) => if xs ≠ [] ∧ 2 ≤ k ∧ k ≤ 1000 ∧ xs.length ≤ 1000 then .ok (.d (.tup (List.replicate k.toNat xs).flatten)) st else .bad
  | va, .d (.int k) => match lstOf va st with
    | some xs => if 0 ≤ k ∧ k ≤ 1000000 ∧ xs.length * k.toNat ≤ 1000000 then newLst (List.replicate k.toNat xs).flatten st else .bad
    | none => .bad
  | _, _ => .bad
def rMulA (K : PySem.W.Frag) : R2 := fun x y H Q => (∃ i j, x = .int i ∧ y = .int j ∧ CMulW i j ∧ Q (.int (i * j)) H) ∨ rRepT K x y H Q ∨ rRep x y H Q
theorem op_mulA {X : Cx} : OpR X (binaryOp .Mult) (rMulA X.K) := op_mulW.or (op_repT.or op_rep)
theorem mul_ok : ROp c m W mulV (rMulA c.K) := fun st F α σ H va vb x y Q sr ra rb p => by
  unfold mulV at p
  split at p
  · cases ra; cases rb
    split at p
    · rename_i h
      exact .inl ⟨_, _, rfl, rfl, h, p.now sr .int⟩
    · exact p.elim
  · cases rb
    split at p
    · rename_i h
      cases ra with
      | tup q1 r1 =>
        rename_i xs k a vs
        refine .inr (.inl ⟨a, k, vs, rfl, rfl, q1, fun e => h.1 (r1.nilL e), h.2.1, h.2.2.1, by rw [← r1.len]; exact h.2.2.2, fun q hq => ?_⟩)
        obtain ⟨e3, s3⟩ := sr.newT (o := .tup (List.replicate k.toNat vs).flatten) hq
        exact p (.ref q) F α _ e3 s3 (.tup (.inl (.inl upd_same)) (Reps.mono e3.ev (r1.rep k.toNat)))
    · exact p.elim
  · cases rb
    split at p
    · rename_i xs h1
      split at p
      · rename_i h
        obtain ⟨a, vs, rfl, ha, r1⟩ := lstOf_ok sr ra h1
        exact .inr (.inr ⟨a, _, vs, rfl, rfl, ha, by omega, by omega, line_of (by rw [← r1.len]; exact h.2.2), fun q hq => newLst_ok sr (r1.rep _) hq p⟩)
      · exact p.elim
    · exact p.elim
  · exact p.elim
end
end Sh
end
section
set_option Elab.async false
set_option linter.all false
set_option maxRecDepth 100000
set_option maxHeartbeats 2000000
namespace Sh
open PySem PySem.Spec PyProof.Rows
open L2 hiding St

section
variable {c : Cn} {m : Fm} {W : WX} {σ : L2.St} {F : Fz} {α : List Addr} {H : Hp} {st : S}
/-! ### items, lengths, kinds -/
/-- the items of any list or tuple -/
def seqOf : Val → S → Option (List D)
  | .d (.lst xs), _ => some xs
  | .d (.klst xs), _ => some xs
  | .d (.tup xs), _ => some xs
  | .c n, st => (st.c[n]?).map Cell.xs
  | _, _ => none
theorem seqOf_ok {va : Val} {x : V} {xs : List D} (sr : SR c m st F α σ H) (r : VR c m F α H va x) (e : seqOf va st = some xs) : ∃ a vs, x = .ref a ∧ (SqL c.K H a vs ∨ SqT c.K H a vs) ∧ Reps c F H xs vs := by
  unfold seqOf at e
  split at e
  · cases e
    cases r with
    | lst f h q => exact ⟨_, _, rfl, .inl (.inl (.inl h)), q⟩
  · cases e
    cases r with
    | klst h q =>
      refine ⟨_, _, rfl, .inl ?_, q⟩
      rcases h with ⟨o, h⟩ | h
      · exact .inl (.inr ⟨o, h⟩)
      · exact .inr h
  · cases e
    cases r with
    | tup h q => exact ⟨_, _, rfl, .inr h, q⟩
  · rename_i n _
    obtain ⟨a, ha, rfl⟩ := r
    obtain ⟨cl, hc, ck⟩ := sr.cell ha
    rw [hc] at e
    cases e
    obtain ⟨vs, h1, h2⟩ := ck.read
    exact ⟨a, vs, rfl, .inl (.inl (.inl h1)), h2⟩
  · cases e
theorem Reps.at_ {xs : List D} {vs : List V} {i : Int} {x : D} (r : Reps c F H xs vs) (e : atI xs i = some x) : ∃ v, atI vs i = some v ∧ Rep c F H x v := by
  unfold atI at e ⊢
  rw [r.len] at e
  cases q : ixN vs.length i with
  | none => rw [q] at e; cases e
  | some j =>
    rw [q] at e
    exact r.get e
/-- a[i] -/
def ixV (va vb : Val) (st : S) : OE := match vb with
  | .d (.int i) => match va with
    | .d (.str z) => if z.length ≤ 1000000 then match atI z.cps.toList i with
      | some k => .ok (.d (.str ⟨#[k]⟩)) st
      | none => .bad else .bad
    | _ => match seqOf va st with
      | some xs => match atI xs i with
        | some x => .ok (.d x) st
        | none => .bad
      | none => .bad
  | _ => .bad
theorem ix_ok : ROp c m W ixV (rIx c.K) := fun st F α σ H va vb x y Q sr ra rb p => by
  unfold ixV at p
  split at p
  · rename_i i
    cases rb
    split at p
    · cases ra
      split at p
      · rename_i h
        split at p
        · rename_i k hk
          exact .inr (.inr ⟨_, _, k, rfl, rfl, line_of h, hk, p.now sr .str⟩)
        · exact p.elim
      · exact p.elim
    · split at p
      · rename_i xs h1
        split at p
        · rename_i z hz
          obtain ⟨a, vs, rfl, hs, r1⟩ := seqOf_ok sr ra h1
          obtain ⟨v, hv, r2⟩ := r1.at_ hz
          rcases hs with hs | hs
          · exact .inl ⟨a, vs, i, v, rfl, rfl, hs, hv, p.now sr r2⟩
          · exact .inr (.inl ⟨a, vs, i, v, rfl, rfl, hs, hv, p.now sr r2⟩)
        · exact p.elim
      · exact p.elim
  · exact p.elim
/-- len -/
def lenV (vs : List Val) (st : S) : OE := match vs with
  | [.d (.str z)] => if z.length ≤ 1000000 then intR z.length st else .bad
  | [v] => match seqOf v st with
    | some xs => intR xs.length st
    | none => .bad
  | _ => .bad
theorem len_ok : RCall c m W lenV (fun xs H Q => ∃ x n, xs = [x] ∧ LenV c.K x H n ∧ Q (.int n) H) := fun st F α σ H va x Q sr ra p => by
  unfold lenV at p
  split at p
  · cases ra with
    | cons r1 r2 =>
      cases r2
      cases r1
      split at p
      · rename_i h
        exact ⟨_, _, rfl, ⟨line_of h, rfl⟩, p.now sr .int⟩
      · exact p.elim
  · split at p
    · rename_i v _ xs h1
      cases ra with
      | cons r1 r2 =>
        cases r2
        obtain ⟨a, vs, rfl, hs, q1⟩ := seqOf_ok sr r1 h1
        have p' := PEo.now (v := V.int xs.length) sr .int p
        rw [q1.len] at p'
        rcases hs with hs | hs
        · exact ⟨_, _, rfl, .inl ⟨vs, hs, rfl⟩, p'⟩
        · exact ⟨_, _, rfl, .inr ⟨vs, hs, rfl⟩, p'⟩
    · exact p.elim
  · exact p.elim
/-- a value's built-in kind -/
def kindOf : Val → Option String
  | .d .non => some "NoneType"
  | .d (.bl _) => some "bool"
  | .d (.int _) => some "int"
  | .d (.str _) => some "str"
  | .d (.tup _) => some "tuple"
  | .d (.lst _) => some "list"
  | .d (.klst _) => some "list"
  | .c _ => some "list"
  | _ => none
def isiB (a b : String) : Bool := a == b || (a == "bool" && b == "int")
def isiV (vs : List Val) (st : S) : OE := match vs with
  | [v, .d (.ty b)] => match kindOf v with
    | some a => if b ∈ ["int", "bool", "str", "tuple", "list", "dict"] then boolR (isiB a b) st else .bad
    | none => .bad
  | _ => .bad
theorem kind_some {v : Val} {a : String} (h : kindOf v = some a) : a ∈ ["NoneType", "bool", "int", "str", "tuple", "list"] := by
  unfold kindOf at h
  split at h <;> cases h <;> decide
theorem isi_kit {K : PySem.W.Frag} {a b : String} (ha : a ∈ ["NoneType", "bool", "int", "str", "tuple", "list"]) (hb : b ∈ ["int", "bool", "str", "tuple", "list", "dict"]) : PySem.W.kitOne K (.type a) (.type b) = some (isiB a b) := by
  have key : ∀ a ∈ ["NoneType", "bool", "int", "str", "tuple", "list"], ∀ b ∈ ["int", "bool", "str", "tuple", "list", "dict"], kitB a b = some (isiB a b) := by decide +kernel
  exact kit_ty (key a ha b hb)
theorem kind_ty {v : Val} {x : V} {a : String} (sr : SR c m st F α σ H) (r : VR c m F α H v x) (h : kindOf v = some a) : TyX c.K H x (.type a) := by
  unfold kindOf at h
  split at h
  · cases h; cases r; exact .base .non
  · cases h; cases r; exact .base (.bl _)
  · cases h; cases r; exact .base (.int _)
  · cases h; cases r; exact .base (.str _)
  · cases h
    cases r with
    | tup q _ =>
      rcases q with (q | ⟨o, q⟩) | ⟨o, its, n, q1, q2, _⟩
      · exact .base (.tup q)
      · exact .fTuple q
      · exact .kTuple q1 q2
  · cases h
    cases r with
    | lst _ q _ => exact .base (.lst q)
  · cases h
    cases r with
    | klst q _ =>
      rcases q with ⟨o, q⟩ | ⟨o, its, n, q1, q2, _⟩
      · exact .base (.frz q)
      · exact .kList q1 q2
  · cases h
    obtain ⟨b, hb, rfl⟩ := r
    obtain ⟨cl, hc, ck⟩ := sr.cell hb
    obtain ⟨vs, h1, _⟩ := ck.read
    exact .base (.lst h1)
  · cases h
theorem isi_ok : RCall c m W isiV (rIsi c.K) := fun st F α σ H va x Q sr ra p => by
  unfold isiV at p
  split at p
  · rename_i v b
    split at p
    · rename_i a hk
      split at p
      · rename_i hb
        cases ra with
        | cons r1 r2 =>
          cases r2 with
          | cons r2 r3 =>
            cases r3
            cases r2
            exact ⟨_, _, _, _, _, rfl, .ty b, kind_ty sr r1 hk, isi_kit (kind_some hk) hb, p.now sr .bl⟩
      · exact p.elim
    · exact p.elim
  · exact p.elim
/-- int of an int or a bool; the greater, the less of two; abs; gcd -/
def toIntV (vs : List Val) (st : S) : OE := match vs with
  | [.d (.int i)] => intR i st
  | [.d (.bl k)] => intR (if k then 1 else 0) st
  | _ => .bad
theorem toInt_ok : RCall c m W toIntV (fun xs H Q => (∃ i, xs = [.int i] ∧ Q (.int i) H) ∨ ∃ k, xs = [.bl k] ∧ Q (.int (if k then 1 else 0)) H) := fun st F α σ H va x Q sr ra p => by
  unfold toIntV at p
  split at p
  · cases ra with
    | cons r1 r2 => cases r2; cases r1; exact .inl ⟨_, rfl, p.now sr .int⟩
  · cases ra with
    | cons r1 r2 => cases r2; cases r1; exact .inr ⟨_, rfl, p.now sr .int⟩
  · exact p.elim
def i2V (g : Int → Int → Int) (vs : List Val) (st : S) : OE := match vs with
  | [.d (.int i), .d (.int j)] => intR (g i j) st
  | _ => .bad
theorem i2_ok {g : Int → Int → Int} : RCall c m W (i2V g) (fun xs H Q => ∃ i j, xs = [.int i, .int j] ∧ Q (.int (g i j)) H) := fun st F α σ H va x Q sr ra p => by
  unfold i2V at p
  split at p
  · cases ra with
    | cons r1 r2 =>
      cases r2 with
      | cons r2 r3 => cases r3; cases r2; cases r1; exact ⟨_, _, rfl, p.now sr .int⟩
  · exact p.elim
def i1V (g : Int → Int) (vs : List Val) (st : S) : OE := match vs with
  | [.d (.int i)] => intR (g i) st
  | _ => .bad
theorem i1_ok {g : Int → Int} : RCall c m W (i1V g) (fun xs H Q => ∃ i, xs = [.int i] ∧ Q (.int (g i)) H) := fun st F α σ H va x Q sr ra p => by
  unfold i1V at p
  split at p
  · cases ra with
    | cons r1 r2 => cases r2; cases r1; exact ⟨_, rfl, p.now sr .int⟩
  · exact p.elim
def maxV := i2V fun i j => if j > i then j else i
def minV := i2V fun i j => if j < i then j else i
def gcdV := i2V fun i j => ((Nat.gcd i.natAbs j.natAbs : Nat) : Int)
def absV := i1V fun i => if i < 0 then -i else i
/-- tuple(x), list(x) -/
def tupleV (vs : List Val) (st : S) : OE := match vs with
  | [v] => match seqOf v st with
    | some xs => .ok (.d (.tup xs)) st
    | none => .bad
  | _ => .bad
def listV (vs : List Val) (st : S) : OE := match vs with
  | [v] => match seqOf v st with
    | some xs => newLst xs st
    | none => .bad
  | _ => .bad
theorem tuple_ok : RCall c m W tupleV (fun xs H Q => ∃ p ys, xs = [.ref p] ∧ ((SqL c.K H p ys ∧ ∀ l, H l = none → Q (.ref l) (upd H l (.tup ys))) ∨ (SqT c.K H p ys ∧ Q (.ref p) H))) := fun st F α σ H va x Q sr ra p => by
  unfold tupleV at p
  split at p
  · split at p
    · rename_i v xs h1
      cases ra with
      | cons r1 r2 =>
        cases r2
        obtain ⟨a, vs, rfl, hs, q1⟩ := seqOf_ok sr r1 h1
        refine ⟨a, vs, rfl, ?_⟩
        rcases hs with hs | hs
        · refine .inl ⟨hs, fun q hq => ?_⟩
          obtain ⟨e3, s3⟩ := sr.newT (o := .tup vs) hq
          exact p (.ref q) F α _ e3 s3 (.tup (.inl (.inl upd_same)) (Reps.mono e3.ev q1))
        · exact .inr ⟨hs, p.now sr (.tup hs q1)⟩
    · exact p.elim
  · exact p.elim
theorem list_ok : RCall c m W listV (fun xs H Q => ∃ p ys, xs = [.ref p] ∧ (SqL c.K H p ys ∨ SqT c.K H p ys) ∧ ∀ l, H l = none → Q (.ref l) (upd H l (.lst ys))) := fun st F α σ H va x Q sr ra p => by
  unfold listV at p
  split at p
  · split at p
    · rename_i v xs h1
      cases ra with
      | cons r1 r2 =>
        cases r2
        obtain ⟨a, vs, rfl, hs, q1⟩ := seqOf_ok sr r1 h1
        exact ⟨a, vs, rfl, hs, fun q hq => newLst_ok sr q1 hq p⟩
    · exact p.elim
  · exact p.elim
/-- all(xs), any(xs) of a list of bools -/
def blsOf : List D → Option (List Bool)
  | [] => some []
  | .bl b :: xs => (blsOf xs).map (b :: ·)
  | _ :: _ => none
theorem bls_ok : ∀ {xs : List D} {vs : List V} {bs : List Bool}, Reps c F H xs vs → blsOf xs = some bs → vs = bs.map V.bl
  | [], _, _, .nil, e => by cases e; rfl
  | .bl b :: ys, _, _, .cons r t, e => by
    simp only [blsOf] at e
    cases q : blsOf ys with
    | none => rw [q] at e; cases e
    | some cs =>
      rw [q] at e
      cases e
      cases r
      rw [bls_ok t q]
      rfl
  | .non :: _, _, _, _, e => by simp [blsOf] at e
  | .int _ :: _, _, _, _, e => by simp [blsOf] at e
  | .str _ :: _, _, _, _, e => by simp [blsOf] at e
  | .obj _ :: _, _, _, _, e => by simp [blsOf] at e
  | .ty _ :: _, _, _, _, e => by simp [blsOf] at e
  | .tup _ :: _, _, _, _, e => by simp [blsOf] at e
  | .lst _ :: _, _, _, _, e => by simp [blsOf] at e
  | .klst _ :: _, _, _, _, e => by simp [blsOf] at e
def foldB (g : List Bool → Bool) (vs : List Val) (st : S) : OE := match vs with
  | [v] => match lstOf v st with
    | some xs => match blsOf xs with
      | some bs => boolR (g bs) st
      | none => .bad
    | none => .bad
  | _ => .bad
theorem foldB_ok {g : List Bool → Bool} : RCall c m W (foldB g) (fun vs H Q => ∃ (a : Addr) (bs : List Bool), vs = [V.ref a] ∧ SqL c.K H a (bs.map V.bl) ∧ Q (.bl (g bs)) H) := fun st F α σ H va x Q sr ra p => by
  unfold foldB at p
  split at p
  · split at p
    · rename_i v xs h1
      split at p
      · rename_i bs h2
        cases ra with
        | cons r1 r2 =>
          cases r2
          obtain ⟨a, vs, rfl, hs, q1⟩ := lstOf_ok sr r1 h1
          have e := bls_ok q1 h2
          subst e
          exact ⟨a, bs, rfl, .inl (.inl hs), p.now sr .bl⟩
      · exact p.elim
    · exact p.elim
  · exact p.elim
def allV := foldB fun bs => bs.all id
def anyV := foldB fun bs => bs.any id

end
/-! ### slices -/
section
variable {X : Cx} {c : Cn} {m : Fm} {W : WX} {e a b : Expr} {es : List Expr} {pos p2 : Pos} {lo hi : Option Expr}
abbrev OO := Out (Option Int)
def POo (c : Cn) (m : Fm) (W : WX) (σ : L2.St) (F : Fz) (α : List Addr) (H : Hp) (Q : Option Int → Hp → Prop) : OO → Prop
  | .ok v st' => ∀ F' α' H', Evo F α H F' α' H' → SR c m st' F' α' σ H' → Q v H'
  | .exc nm x st' => Xo c m W σ F α H nm x st'
  | .bad => False
def tPp (c : Cn) (m : Fm) (W : WX) (f : S → OO) : TO := fun σ H Q => ∃ st F α, SR c m st F α σ H ∧ POo c m W σ F α H Q (f st)
theorem pstO {σ : L2.St} {Q : Option Int → Hp → Prop} : Pst c m W σ fun F α H o => POo c m W σ F α H Q o := by
  refine ⟨fun {F F1 α α1 H H1 o} e h => ?_, fun h => h, fun h => h⟩
  cases o with
  | ok v st' => exact fun F' α' H' e' => h F' α' H' (e.trans e')
  | exc nm x st' => exact Xo.evo e h
  | bad => exact h
def noP : S → OO := fun st => .ok none st
def atP (f : S → OE) : S → OO := fun st => (f st).bind fun v st1 => match v with
  | .d (.int i) => .ok (some i) st1
  | _ => .bad
theorem o_none : PO X none (tPp c m W noP) := ⟨fun pins s σ H Q I ⟨st, F, α, sr, p⟩ => po_none.run pins s σ H Q I (p F α H .refl sr)⟩
theorem o_some {f : S → OE} (h : PE X e (tI c m W f)) : PO X (some e) (tPp c m W (atP f)) := ⟨fun pins s σ H Q I ⟨st, F, α, sr, p⟩ => (po_some h).run pins s σ H Q I
  (kE pstO sr p fun v st1 x F1 α1 H1 _ s1 r1 p1 => by
    cases v with
    | d y =>
      cases y with
      | int i => cases r1; exact ⟨i, rfl, p1 F1 α1 H1 .refl s1⟩
      | _ => exact p1.elim
    | _ => exact p1.elim)⟩
def cutD (xs : List D) (i j : Option Int) : List D := (xs.drop (HT.sIx xs.length 0 i)).take (HT.sIx xs.length xs.length j - HT.sIx xs.length 0 i)
/-- the items of any list -/
def rdOf : Val → S → Option (List D)
  | .d (.lst xs), _ => some xs
  | .d (.klst xs), _ => some xs
  | .c n, st => (st.c[n]?).map Cell.xs
  | _, _ => none
theorem rdOf_ok {σ : L2.St} {F : Fz} {α : List Addr} {H : Hp} {st : S} {va : Val} {x : V} {xs : List D} (sr : SR c m st F α σ H) (r : VR c m F α H va x) (e : rdOf va st = some xs) : ∃ a vs, x = .ref a ∧ SqL c.K H a vs ∧ Reps c F H xs vs := by
  unfold rdOf at e
  split at e
  · cases e
    cases r with
    | lst f h q => exact ⟨_, _, rfl, .inl (.inl h), q⟩
  · cases e
    cases r with
    | klst h q =>
      refine ⟨_, _, rfl, ?_, q⟩
      rcases h with ⟨o, h⟩ | h
      · exact .inl (.inr ⟨o, h⟩)
      · exact .inr h
  · rename_i n _
    obtain ⟨a, ha, rfl⟩ := r
    obtain ⟨cl, hc, ck⟩ := sr.cell ha
    rw [hc] at e
    cases e
    obtain ⟨vs, h1, h2⟩ := ck.read
    exact ⟨a, vs, rfl, .inl (.inl h1), h2⟩
  · cases e
theorem cut_ok {F : Fz} {H : Hp} {xs : List D} {vs : List V} {i j : Option Int} (q1 : Reps c F H xs vs) : Reps c F H (cutD xs i j) (cutV vs i j) := by
  unfold cutD cutV
  rw [q1.len]
  exact (q1.drop _).take _
def sliceV (v : Val) (i j : Option Int) (st : S) : OE := match v with
  | .d (.tup xs) => .ok (.d (.tup (cutD xs i j))) st
  | v => match rdOf v st with
    | some xs => newLst (cutD xs i j) st
    | none => .bad
def sliceE (f : S → OE) (g h : S → OO) : S → OE := fun st => (f st).bind fun v st1 => (g st1).bind fun i st2 => (h st2).bind fun j st3 => sliceV v i j st3
theorem sl_both : SlR X (fun x lo hi H Q => rSlA X.K x lo hi H Q ∨ rSlL X.K x lo hi H Q) := sl_tupA.or sl_list
theorem kO {σ : L2.St} {F : Fz} {α : List Addr} {H : Hp} {st : S} {β : Type} {R : Fz → List Addr → Hp → Out β → Prop} (p : Pst c m W σ R) {f : S → OO} {g : Option Int → S → Out β} {P : Option Int → Hp → Prop} (sr : SR c m st F α σ H) (h : R F α H ((f st).bind g))
    (k : ∀ v st' F' α' H', Evo F α H F' α' H' → SR c m st' F' α' σ H' → R F' α' H' (g v st') → P v H') : tPp c m W f σ H P := by
  refine ⟨st, F, α, sr, ?_⟩
  generalize f st = o at h ⊢
  cases o with
  | ok v st' => exact fun F' α' H' e s' => k v st' F' α' H' e s' (p.evo e h)
  | exc nm x st' => exact p.exc h
  | bad => exact p.bad h
theorem whole_cut {xs : List D} {i j : Option Int} (h : HT.sIx xs.length 0 i = 0 ∧ HT.sIx xs.length xs.length j = xs.length) : cutD xs i j = xs := by
  unfold cutD
  rw [h.1, h.2, List.drop_zero, Nat.sub_zero, List.take_length]
theorem i_slice {f : S → OE} {g h : S → OO} (hK : X.K = c.K) (he : PE X e (tI c m W f)) (hl : PO X lo (tPp c m W g)) (hu : PO X hi (tPp c m W h)) : PE X (.Subscript e (.Slice lo hi none p2) pos) (tI c m W (sliceE f g h)) :=
  PE_imp (pe_slice sl_both he hl hu) fun σ H Q ⟨st, F, α, sr, p⟩ =>
  kE pstE sr p fun v st1 x F1 α1 H1 _ s1 r1 p1 => kO pstE s1 p1 fun i st2 F2 α2 H2 e2 s2 p2 => kO pstE s2 p2 fun j st3 F3 α3 H3 e3 s3 p3 => by
    have r3 := r1.mono (e2.trans e3)
    rw [hK]
    unfold sliceV at p3
    split at p3
    · cases r3 with
      | @tup a vs xs q1 q2 =>
        refine .inl ⟨a, vs, rfl, q1, fun hw => ?_, fun hw q hq => ?_⟩
        · rw [whole_cut (by rw [q2.len]; exact hw)] at p3
          exact p3.now s3 (.tup q1 q2)
        · obtain ⟨e4, s4⟩ := s3.newT (o := .tup (cutV vs i j)) hq
          exact p3 (.ref q) F3 α3 _ e4 s4 (.tup (.inl (.inl upd_same)) (Reps.mono e4.ev (cut_ok q2)))
    · split at p3
      · rename_i xs hx
        obtain ⟨a, vs, rfl, hs, q1⟩ := rdOf_ok s3 r3 hx
        exact .inr ⟨a, vs, rfl, hs, fun q hq => newLst_ok s3 (cut_ok q1) hq p3⟩
      · exact p3.elim
/-- xs[::-1] of a list -/
def revE (f : S → OE) : S → OE := fun st => (f st).bind fun v st1 => match rdOf v st1 with
  | some xs => newLst xs.reverse st1
  | none => .bad
theorem i_rev {f : S → OE} {k : Nat} {p1 p3 p4 : Pos} (hK : X.K = c.K) (he : PE X e (tI c m W f)) : PE X (.Subscript e (.Slice none none (some (.UnaryOp .USub (.Constant (.int 1) k p1) p3)) p4) pos) (tI c m W (revE f)) :=
  PE_imp (pe_revL he) fun σ H Q ⟨st, F, α, sr, p⟩ =>
  kE pstE sr p fun v st1 x F1 α1 H1 _ s1 r1 p1 => by
    rw [hK]
    split at p1
    · rename_i xs hx
      obtain ⟨a, vs, rfl, hs, q1⟩ := rdOf_ok s1 r1 hx
      exact ⟨a, vs, rfl, hs, fun q hq => newLst_ok s1 q1.rev hq p1⟩
    · exact p1.elim

/-! ### methods of lists -/
variable {name : Str} {apos cpos : Pos} {id T : String}
def RMt (c : Cn) (m : Fm) (W : WX) (g : Val → List Val → S → OE) (r : V → List V → Hp → VK → Prop) : Prop :=
  ∀ st F α σ H v x va xs Q, SR c m st F α σ H → VR c m F α H v x → VRs c m F α H va xs → PEo c m W σ F α H Q (g v va st) → r x xs H Q
def tyOk (T : String) (v : Val) (st : S) : Bool := match v with
  | .d (.str _) => T == "str"
  | v => T == "list" && (rdOf v st).isSome
theorem tyOk_ok {σ : L2.St} {F : Fz} {α : List Addr} {H : Hp} {st : S} {v : Val} {x : V} (sr : SR c m st F α σ H) (r : VR c m F α H v x) (h : tyOk T v st = true) : tyV c.K T x H := by
  unfold tyOk at h
  split at h
  · cases r
    exact eq_of_beq h
  · rw [Bool.and_eq_true] at h
    obtain ⟨xs, hx⟩ := Option.isSome_iff_exists.mp h.2
    obtain ⟨a, vs, rfl, hs, _⟩ := rdOf_ok sr r hx
    exact .inl ⟨eq_of_beq h.1, vs, hs⟩
def methE (T : String) (g : Val → List Val → S → OE) (fo : S → OE) (fs : List (S → OE)) : S → OE := fun st => (fo st).bind fun v st1 => if tyOk T v st1 = true then (seqE fs st1).bind fun vs st2 => g v vs st2 else .bad
theorem i_meth {g : Val → List Val → S → OE} {fo : S → OE} {fs : List (S → OE)} {r : V → List V → Hp → VK → Prop} {o : Expr} (hK : X.K = c.K) (pa : PlainAttrs T) (slot : Slot T name id) (hty : typeOf (.builtin id) = pure (.type "method_descriptor")) (hm : MtR X id r) (hr : RMt c m W g r)
    (ho : PE X o (tI c m W fo)) (ha : PA X (e :: es) (tA c m W (seqE fs)))
    (hbase : attributeBase o name X.env (eval o X.env) = eval o X.env := by rfl)
    (hfew : ((backTo cpos (starEach (e :: es) X.env)).all (fun x => !x.1) && (backToKw cpos (keywordEach [] X.env)).all (fun x => x.1.isSome)
      && decide ((e :: es).length + ([] : List Keyword).length + (if ([] : List Keyword).isEmpty then 0 else 1) < 30)) = true := by rfl)
    (hline : (apos.endLine == cpos.line) = true := by rfl) (hs : starEach (e :: es) X.env = (false, eval e X.env) :: starEach es X.env := by rfl) (hplain : (backTo cpos (starEach es X.env)).any (·.1) = false := by rfl) :
    PE X (.Call (.Attribute o name apos) (e :: es) [] cpos) (tI c m W (methE T g fo fs)) := PE_imp (pe_bm pa slot hty hm ho ha hbase hfew hline hs hplain) fun σ H Q ⟨st, F, α, sr, p⟩ =>
  kE pstE sr p fun v st1 x F1 α1 H1 _ s1 r1 p1 => by
    split at p1
    · rename_i h
      rw [hK]
      exact ⟨tyOk_ok s1 r1 h, kA pstE s1 p1 fun vs st2 xs F2 α2 H2 e2 s2 r2 p2 => hr st2 F2 α2 σ H2 v x vs xs Q s2 (r1.mono e2) r2 p2⟩
    · exact p1.elim
theorem i_meth0 {g : Val → List Val → S → OE} {fo : S → OE} {r : V → List V → Hp → VK → Prop} {o : Expr} (hK : X.K = c.K) (pa : PlainAttrs T) (slot : Slot T name id) (hty : typeOf (.builtin id) = pure (.type "method_descriptor")) (hm : MtR X id r) (hr : RMt c m W g r)
    (ho : PE X o (tI c m W fo)) (hbase : attributeBase o name X.env (eval o X.env) = eval o X.env := by rfl) (hline : (apos.endLine == cpos.line) = true := by rfl) :
    PE X (.Call (.Attribute o name apos) [] [] cpos) (tI c m W (methE T g fo [])) := PE_imp (pe_bm0 pa slot hty hm ho hbase hline) fun σ H Q ⟨st, F, α, sr, p⟩ =>
  kE pstE sr p fun v st1 x F1 α1 H1 _ s1 r1 p1 => by
    split at p1
    · rename_i h
      rw [hK]
      exact ⟨tyOk_ok s1 r1 h, hr st1 F1 α1 σ H1 v x [] [] Q s1 r1 .nil p1⟩
    · exact p1.elim
/-- xs.append(x) -/
def appV (v : Val) (vs : List Val) (st : S) : OE := match v, vs with
  | .c n, [w] => match toD w st with
    | some (x, st1) => match st1.c[n]? with
      | some (.own xs) => if xs.length < 1000000 then .ok (.d .non) { st1 with c := st1.c.set n (.own (xs ++ [x])) } else .bad
      | _ => .bad
    | none => .bad
  | _, _ => .bad
theorem SR.ownA {σ : L2.St} {F : Fz} {α : List Addr} {H : Hp} {st : S} {n : Nat} {xs : List D} (sr : SR c m st F α σ H) (h : st.c[n]? = some (.own xs)) : ∃ a vs, α[n]? = some a ∧ H a = some (.lst vs) ∧ Reps c F H xs vs := by
  obtain ⟨a, ha, _, vs, h1, h2⟩ := sr.addr h
  exact ⟨a, vs, ha, h1, h2⟩
theorem app_ok' : RMt c m W appV rAppend := fun st F α σ H v x va xs Q sr r rs p => by
  unfold appV at p
  split at p
  · rename_i n w
    cases rs with
    | cons r1 r2 =>
      cases r2
      split at p
      · rename_i y st1 hy
        obtain ⟨F1, e1, s1, q1, _⟩ := toD_ok sr r1 hy
        split at p
        · rename_i ys hc
          split at p
          · rename_i hl
            obtain ⟨a, ha, rfl⟩ := r.mono e1
            obtain ⟨b, vs, hb, h1, h2⟩ := s1.ownA hc
            rw [ha] at hb; cases hb
            refine ⟨a, vs, _, rfl, rfl, h1, Nat.lt_of_lt_of_le (by rw [← h2.len]; exact hl) (by rw [sizeLine_eq]; decide), ?_⟩
            obtain ⟨e2, s2⟩ := s1.setL ha hc (h2.append (.cons q1 .nil))
            exact p .non F1 α _ (e1.trans e2) s2 .non
          · exact p.elim
        · exact p.elim
      · exact p.elim
  · exact p.elim
/-- xs.extend(ys) -/
def extV (v : Val) (vs : List Val) (st : S) : OE := match v, vs with
  | .c n, [w] => match lstOf w st, st.c[n]? with
    | some ys, some (.own xs) => if xs.length + ys.length ≤ 1000000 then .ok (.d .non) { st with c := st.c.set n (.own (xs ++ ys)) } else .bad
    | _, _ => .bad
  | _, _ => .bad
theorem ext_ok : RMt c m W extV rExtend := fun st F α σ H v x va xs Q sr r rs p => by
  unfold extV at p
  split at p
  · rename_i n w
    cases rs with
    | cons r1 r2 =>
      cases r2
      split at p
      · rename_i ys zs hy hc
        split at p
        · rename_i hl
          obtain ⟨a, ha, rfl⟩ := r
          obtain ⟨b, vs, hb, h1, h2⟩ := sr.ownA hc
          rw [ha] at hb; cases hb
          obtain ⟨d, ws, rfl, h3, h4⟩ := lstOf_ok sr r1 hy
          refine ⟨a, d, vs, ws, rfl, rfl, h1, h3, line_of (by rw [← h2.len, ← h4.len]; exact hl), ?_⟩
          obtain ⟨e2, s2⟩ := sr.setL ha hc (h2.append h4)
          exact p .non F α _ e2 s2 .non
        · exact p.elim
      · exact p.elim
  · exact p.elim
/-- xs.pop() -/
def popV (v : Val) (vs : List Val) (st : S) : OE := match v, vs with
  | .c n, [] => match st.c[n]? with
    | some (.own xs) => match xs[xs.length - 1]? with
      | some x => .ok (.d x) { st with c := st.c.set n (.own xs.dropLast) }
      | none => .bad
    | _ => .bad
  | _, _ => .bad
theorem pop_ok : RMt c m W popV rPop := fun st F α σ H v x va xs Q sr r rs p => by
  unfold popV at p
  split at p
  · rename_i n
    cases rs
    split at p
    · rename_i ys hc
      split at p
      · rename_i y hy
        obtain ⟨a, ha, rfl⟩ := r
        obtain ⟨b, vs, hb, h1, h2⟩ := sr.ownA hc
        rw [ha] at hb; cases hb
        obtain ⟨w, hw, q⟩ := h2.get hy
        refine ⟨a, vs, w, rfl, rfl, h1, by rw [← h2.len]; exact hw, ?_⟩
        obtain ⟨e2, s2⟩ := sr.setL ha hc h2.dropLast
        exact p w F α _ e2 s2 (Rep.mono e2.ev q)
      · exact p.elim
    · exact p.elim
  · exact p.elim
/-- xs.pop(i) -/
def popAtV (v : Val) (vs : List Val) (st : S) : OE := match v, vs with
  | .c n, [.d (.int i)] => match st.c[n]? with
    | some (.own xs) => if 0 ≤ i ∧ i < xs.length ∧ i < 1000000000 then match xs[i.toNat]? with
      | some x => .ok (.d x) { st with c := st.c.set n (.own (xs.eraseIdx i.toNat)) }
      | none => .bad else .bad
    | _ => .bad
  | _, _ => .bad
theorem popAt_ok : RMt c m W popAtV rPopAt := fun st F α σ H v x va xs Q sr r rs p => by
  unfold popAtV at p
  split at p
  · rename_i n i
    cases rs with
    | cons r1 r2 =>
      cases r2
      cases r1
      split at p
      · rename_i ys hc
        split at p
        · rename_i hi
          split at p
          · rename_i y hy
            obtain ⟨a, ha, rfl⟩ := r
            obtain ⟨b, vs, hb, h1, h2⟩ := sr.ownA hc
            rw [ha] at hb; cases hb
            obtain ⟨w, hw, q⟩ := h2.get hy
            refine ⟨a, vs, i, i.toNat, w, rfl, rfl, h1, by omega, ?_, by rw [← h2.len]; exact PySem.StrLaws.seqIndex_nonneg hi.1 hi.2.1, hw, ?_⟩
            · omega
            · obtain ⟨e2, s2⟩ := sr.setL ha hc (h2.erase i.toNat)
              exact p w F α _ e2 s2 (Rep.mono e2.ev q)
          · exact p.elim
        · exact p.elim
      · exact p.elim
  · exact p.elim
end
end Sh
end
section
set_option Elab.async false
set_option linter.all false
set_option maxRecDepth 100000
set_option maxHeartbeats 2000000
namespace Sh
open PySem PySem.Spec PyProof.Rows
open L2 hiding St

/-! ### statements -/
def seqS (g h : S → OS) : S → OS := fun st => match g st with
  | .ok .nx st1 => h st1
  | o => o
def nextS : S → OS := fun st => .ok .nx st
def setS (i : Nat) (f : S → OE) : S → OS := fun st => (f st).bind fun v st1 => .ok .nx { st1 with v := st1.v.set i (some v) }
def retS (f : S → OE) : S → OS := fun st => (f st).bind fun v st1 => .ok (.ret v) st1
def retN : S → OS := fun st => .ok (.ret (.d .non)) st
def dropS (f : S → OE) : S → OS := fun st => (f st).bind fun _ st1 => .ok .nx st1
def ifS (t : S → OE) (g h : S → OS) : S → OS := fun st => (t st).bind (onB g h)
def brkS : S → OS := fun st => .ok .bk st
def cntS : S → OS := fun st => .ok .ct st
section
variable {X : Cx} {c : Cn} {m : Fm} {W : WX} {e a b : Expr} {es : List Expr} {pos pos' : Pos} {s : Stmt} {ss : List Stmt} {f g : S → OE} {G G' : S → OS}
theorem SR.setv {σ : L2.St} {F : Fz} {α : List Addr} {H : Hp} {st : S} {i : Nat} {val : Val} {v : V} (sr : SR c m st F α σ H) (r : VR c m F α H val v) : SR c m { st with v := st.v.set i (some val) } F α (σ.set i (some v)) H := by
  refine ⟨by rw [List.length_set, List.length_set]; exact sr.len, fun j w hj => ?_, sr.cells, sr.pre, sr.loc, sr.dom, sr.tab, sr.fra, sr.new, sr.old, sr.ioF, sr.ioL, sr.dom0⟩
  by_cases hij : i = j
  · subst hij
    have hl : i < st.v.length := by
      have := (List.getElem?_eq_some_iff.mp hj).1
      rwa [List.length_set] at this
    rw [List.getElem?_set_self hl] at hj
    cases hj
    exact ⟨v, List.getElem?_set_self (by rw [sr.len]; exact hl), r⟩
  · rw [List.getElem?_set_ne hij] at hj
    obtain ⟨u, h1, h2⟩ := sr.vars j w hj
    exact ⟨u, by rw [List.getElem?_set_ne hij]; exact h1, h2⟩
theorem SR.unv {σ : L2.St} {F : Fz} {α : List Addr} {H : Hp} {st : S} {i : Nat} (sr : SR c m st F α σ H) : SR c m { st with v := st.v.set i none } F α (σ.set i none) H := by
  refine ⟨by rw [List.length_set, List.length_set]; exact sr.len, fun j w hj => ?_, sr.cells, sr.pre, sr.loc, sr.dom, sr.tab, sr.fra, sr.new, sr.old, sr.ioF, sr.ioL, sr.dom0⟩
  by_cases hij : i = j
  · subst hij
    have hl : i < st.v.length := by
      have := (List.getElem?_eq_some_iff.mp hj).1
      rwa [List.length_set] at this
    rw [List.getElem?_set_self hl] at hj
    cases hj
  · rw [List.getElem?_set_ne hij] at hj
    obtain ⟨u, h1, h2⟩ := sr.vars j w hj
    exact ⟨u, by rw [List.getElem?_set_ne hij]; exact h1, h2⟩
theorem s_nil : PSs X [] (tS c m W nextS) := PSs_imp pss_nil fun σ H D ⟨st, F, α, sr, p⟩ => p σ F α H .refl sr
theorem s_one (h : PS X s (tS c m W G)) : PSs X [s] (tS c m W G) := pss_one h
theorem s_cons (h1 : PS X s (tS c m W G)) (h2 : PSs X ss (tS c m W G')) : PSs X (s :: ss) (tS c m W (seqS G G')) := PSs_imp (pss_cons h1 h2) fun σ H D ⟨st, F, α, sr, p⟩ => by
  refine ⟨st, F, α, sr, ?_⟩
  unfold seqS at p
  generalize G st = o at p ⊢
  cases o with
  | ok fl st1 =>
    cases fl with
    | nx => exact fun σ' F' α' H' e' s' => ⟨st1, F', α', s', PSo.evo e' p⟩
    | ret v => exact p
    | bk => exact p
    | ct => exact p
  | exc nm x st1 => exact p
  | bad => exact p
theorem s_set {i : Nat} {x : Str} {posn : Pos} (hN : X.N.Nodup) (he : PE X e (tI c m W f)) (hi : X.N[i]? = some x := by rfl) (hx : Loc X.env.scope x := by first | exact Or.inl rfl | exact Or.inr rfl) (hs : swapsWith e (some (.Name x posn)) pos.line X.env = pure false := by rfl)
    (hf : X.fn x = true ∨ X.env.scope.names.lookup x = some .local := by first | exact .inl rfl | exact .inr rfl | assumption) : PS X (.Assign [.Name x posn] e pos) (tS c m W (setS i f)) :=
  PS_imp (ps_set hN hi hx he hs hf) fun σ H D ⟨st, F, α, sr, p⟩ => kE pstS sr p fun v st1 y F1 α1 H1 _ s1 r1 p1 => p1 _ F1 α1 H1 .refl (s1.setv r1)
theorem s_ret (he : PE X e (tI c m W f)) : PS X (.Return (some e) pos) (tS c m W (retS f)) :=
  PS_imp (ps_ret he) fun σ H D ⟨st, F, α, sr, p⟩ => kE pstS sr p fun v st1 y F1 α1 H1 _ s1 r1 p1 => p1 y σ F1 α1 H1 .refl s1 r1
theorem s_retN : PS X (.Return none pos) (tS c m W retN) := PS_imp ps_retN fun σ H D ⟨st, F, α, sr, p⟩ => p .non σ F α H .refl sr .non
theorem s_expr (he : PE X e (tI c m W f)) (hs : swapsWith e none pos.line X.env = pure false := by rfl) : PS X (.Expr e pos) (tS c m W (dropS f)) :=
  PS_imp (ps_expr he hs) fun σ H D ⟨st, F, α, sr, p⟩ => kE pstS sr p fun v st1 y F1 α1 H1 _ s1 r1 p1 => p1 σ F1 α1 H1 .refl s1
theorem s_if {q : Expr} {A B : List Stmt} (ht : PT X q (tT c m W f)) (ha : PSs X A (tS c m W G)) (hb : PSs X B (tS c m W G')) : PS X (.If q A B pos) (tS c m W (ifS f G G')) :=
  PS_imp (ps_if ht ha hb) fun σ H D ⟨st, F, α, sr, p⟩ => kT pstS sr p fun k st1 F1 α1 H1 _ s1 p1 => by
    cases k with
    | true => exact ⟨st1, F1, α1, s1, p1⟩
    | false => exact ⟨st1, F1, α1, s1, p1⟩
theorem s_pass : PS X (.Pass pos) (tS c m W nextS) := PS_imp ps_pass fun σ H D ⟨st, F, α, sr, p⟩ => p σ F α H .refl sr
theorem s_break : PS X (.Break pos) (tS c m W brkS) := PS_imp ps_break fun σ H D ⟨st, F, α, sr, p⟩ => p σ F α H .refl sr
theorem s_continue : PS X (.Continue pos) (tS c m W cntS) := PS_imp ps_continue fun σ H D ⟨st, F, α, sr, p⟩ => p σ F α H .refl sr
/-- a, b = x, y -/
def parS (i j : Nat) (f g : S → OE) : S → OS := fun st => (seqE [f, g] st).bind fun vs st1 => match vs with
  | [v, w] => .ok .nx { st1 with v := (st1.v.set i (some v)).set j (some w) }
  | _ => .bad
theorem s_par {i j : Nat} {x y : Str} {px py pt : Pos} {kt k2 : Nat} {pt2 : Pos} (hc : X.calm = true) (hN : X.N.Nodup) (ha : PA X [a, b] (tA c m W (seqE [f, g]))) (hi : X.N[i]? = some x := by rfl) (hj : X.N[j]? = some y := by rfl) (hij : i ≠ j := by decide)
    (hx : X.env.scope.names.lookup x = some .local := by rfl) (hy : X.env.scope.names.lookup y = some .local := by rfl)
    (hw : swappedStores [.Tuple [.Name x px, .Name y py] kt pt] (.Tuple [a, b] k2 pt2) X.env = pure (some [x, y]) := by rfl)
    (hs : swapsWithSole [.Tuple [.Name x px, .Name y py] kt pt] (.Tuple [a, b] k2 pt2) pos.line X.env = pure false := by rfl) :
    PS X (.Assign [.Tuple [.Name x px, .Name y py] kt pt] (.Tuple [a, b] k2 pt2) pos) (tS c m W (parS i j f g)) :=
  PS_imp (ps_par hc hN hi hj hij hx hy ha hw hs) fun σ H D ⟨st, F, α, sr, p⟩ => kA pstS sr p fun vs st1 xs F1 α1 H1 _ s1 r1 p1 => by
    split at p1
    · cases r1 with
      | cons r1 r2 =>
        cases r2 with
        | cons r2 r3 =>
          cases r3
          exact ⟨_, _, rfl, p1 _ F1 α1 H1 .refl ((s1.setv r1).setv r2)⟩
    · exact p1.elim

/-! ### targets -/
theorem wipe_get (σ : L2.St) (j : Nat) : ∀ vs : List Nat, (wipe σ vs)[j]? = if j ∈ vs then (σ[j]?).map (fun _ => none) else σ[j]?
  | [] => by simp [wipe]
  | v :: vs => by
    unfold wipe
    rw [List.getElem?_set, wipe_get σ j vs]
    by_cases h : v = j
    · subst h
      rw [if_pos rfl, if_pos List.mem_cons_self, wipe_length]
      split
      · rename_i hl
        rw [List.getElem?_eq_getElem hl]; rfl
      · rename_i hl
        rw [List.getElem?_eq_none (by omega)]; rfl
    · rw [if_neg h]
      have : (j ∈ v :: vs) ↔ j ∈ vs := by simp [Ne.symm h]
      simp only [this]
theorem wipe_set {σ : L2.St} {i : Nat} {x : Option V} {vs : List Nat} (h : i ∈ vs) : wipe (σ.set i x) vs = wipe σ vs := by
  refine List.ext_getElem? fun j => ?_
  rw [wipe_get, wipe_get]
  by_cases hj : j ∈ vs
  · rw [if_pos hj, if_pos hj, List.getElem?_set]
    split
    · rename_i e
      subst e
      split
      · rename_i hl
        rw [List.getElem?_eq_getElem hl]; rfl
      · rename_i hl
        rw [List.getElem?_eq_none (by omega)]
    · rfl
  · rw [if_neg hj, if_neg hj, List.getElem?_set_ne (fun (e : i = j) => hj (e ▸ h))]
def Wp (ws : List Nat) (σ σ' : L2.St) : Prop := ∀ vs : List Nat, (∀ i ∈ ws, i ∈ vs) → wipe σ' vs = wipe σ vs
theorem Wp.trans {ws us : List Nat} {σ σ1 σ2 : L2.St} (a : Wp ws σ σ1) (b : Wp us σ1 σ2) : Wp (ws ++ us) σ σ2 := fun vs h =>
  (b vs fun i hi => h i (List.mem_append_right _ hi)).trans (a vs fun i hi => h i (List.mem_append_left _ hi))
def tG (c : Cn) (m : Fm) (ws : List Nat) (g : D → S → Option S) : TG := fun v σ H Q => ∃ st F α x, SR c m st F α σ H ∧ Rep c F H x v ∧ match g x st with
  | some st1 => ∀ σ' F' α' H', Evo F α H F' α' H' → SR c m st1 F' α' σ' H' → Wp ws σ σ' → Q σ' H'
  | none => False
def tGs (c : Cn) (m : Fm) (ws : List Nat) (g : List D → S → Option S) : TGs := fun vs σ H Q => ∃ st F α xs, SR c m st F α σ H ∧ Reps c F H xs vs ∧ match g xs st with
  | some st1 => ∀ σ' F' α' H', Evo F α H F' α' H' → SR c m st1 F' α' σ' H' → Wp ws σ σ' → Q σ' H'
  | none => False
theorem PG_imp {t t' : TG} (h : PG X e t) (i : ∀ v σ H Q, t' v σ H Q → t v σ H Q) : PG X e t' := ⟨fun pins s σ H v u Q I r q => h.run pins s σ H v u Q I r (i v σ H Q q)⟩
theorem PGs_imp {t t' : TGs} (h : PGs X es t) (i : ∀ v σ H Q, t' v σ H Q → t v σ H Q) : PGs X es t' := ⟨fun pins s σ H v u Q I r q => h.run pins s σ H v u Q I r (i v σ H Q q)⟩
def nameT (i : Nat) : D → S → Option S := fun x st => some { st with v := st.v.set i (some (.d x)) }
def nilT : List D → S → Option S := fun xs st => match xs with
  | [] => some st
  | _ => none
def consT (g : D → S → Option S) (h : List D → S → Option S) : List D → S → Option S := fun xs st => match xs with
  | x :: r => (g x st).bind (h r)
  | [] => none
def tupT (n : Nat) (h : List D → S → Option S) : D → S → Option S := fun x st => match x with
  | .tup xs => if xs.length = n then h xs st else none
  | _ => none
theorem g_name {i : Nat} {x : Str} (hN : X.N.Nodup) (hi : X.N[i]? = some x := by rfl) (hx : Loc X.env.scope x := by first | exact Or.inl rfl | exact Or.inr rfl) (hf : X.fn x = true ∨ X.env.scope.names.lookup x = some .local := by first | exact .inl rfl | exact .inr rfl | assumption) :
    PG X (.Name x pos) (tG c m [i] (nameT i)) := PG_imp (pg_name hN hi hx hf) fun v σ H Q ⟨st, F, α, y, sr, r, p⟩ => p _ F α H .refl (sr.setv (val := .d y) r) fun vs h => wipe_set (h i List.mem_cons_self)
theorem g_nil : PGs X [] (tGs c m [] nilT) := PGs_imp pgs_nil fun v σ H Q ⟨st, F, α, xs, sr, r, p⟩ => by
  unfold nilT at p
  split at p
  · rename_i st1 h
    split at h
    · cases h
      cases r
      exact ⟨rfl, p σ F α H .refl sr fun _ _ => rfl⟩
    · cases h
  · exact p.elim
theorem g_cons {g : D → S → Option S} {h : List D → S → Option S} {ws us : List Nat} (h1 : PG X e (tG c m ws g)) (h2 : PGs X es (tGs c m us h)) (hs : (assignEach (e :: es) X.env).map (·.2) = assign e X.env :: (assignEach es X.env).map (·.2) := by rfl) : PGs X (e :: es) (tGs c m (ws ++ us) (consT g h)) :=
  PGs_imp (pgs_cons h1 h2 hs) fun v σ H Q ⟨st, F, α, xs, sr, r, p⟩ => by
    unfold consT at p
    cases r with
    | nil => exact p.elim
    | @cons x v xs vs r1 r2 =>
      refine ⟨v, vs, rfl, st, F, α, x, sr, r1, ?_⟩
      simp only at p
      cases q : g x st with
      | none => rw [q] at p; exact p.elim
      | some st1 =>
        rw [q] at p
        simp only [Option.bind] at p
        intro σ' F' α' H' e' s' w'
        refine ⟨st1, F', α', xs, s', Reps.mono e'.ev r2, ?_⟩
        cases q2 : h xs st1 with
        | none => rw [q2] at p; exact p.elim
        | some st2 =>
          rw [q2] at p
          exact fun σ2 F2 α2 H2 e2 s2 w2 => p σ2 F2 α2 H2 (e'.trans e2) s2 (w'.trans w2)
theorem g_tup {h : List D → S → Option S} {k n : Nat} {ws : List Nat} (hK : X.K = c.K) (hc : X.calm = true) (hh : PGs X es (tGs c m ws h)) (hn : (assignEach es X.env).length = n := by rfl) (hst : (assignEach es X.env).findIdx? (·.1) = none := by rfl) : PG X (.Tuple es k pos) (tG c m ws (tupT n h)) :=
  PG_imp (pg_tup hc hh hn hst) fun v σ H Q ⟨st, F, α, x, sr, r, p⟩ => by
    unfold tupT at p
    cases r with
    | @tup a vs xs q r =>
      simp only at p
      split at p
      · rename_i st1 hq
        split at hq
        · rename_i hl
          rw [hK]
          refine ⟨a, vs, rfl, q, by rw [← r.len]; exact hl, st, F, α, xs, sr, r, ?_⟩
          rw [hq]
          exact p
        · cases hq
      · exact p.elim
    | _ => exact p.elim
/-- target = value, the value data -/
def asgS (g : D → S → Option S) (f : S → OE) : S → OS := fun st => (f st).bind fun v st1 => match toD v st1 with
  | some (x, st2) => match g x st2 with
    | some st3 => .ok .nx st3
    | none => .bad
  | none => .bad
theorem s_asg {tg : Expr} {g : D → S → Option S} {ws : List Nat} (he : PE X e (tI c m W f)) (hg : PG X tg (tG c m ws g)) (hs : swapsWithSole [tg] e pos.line X.env = pure false := by rfl) (hw : swappedStores [tg] e X.env = pure none := by rfl)
    (h1 : (assignEach [tg] X.env).map (·.2) = [assign tg X.env] := by rfl) : PS X (.Assign [tg] e pos) (tS c m W (asgS g f)) :=
  PS_imp (ps_asg he hg hs hw h1) fun σ H D ⟨st, F, α, sr, p⟩ => kE pstS sr p fun v st1 y F1 α1 H1 _ s1 r1 p1 => by
    split at p1
    · rename_i x st2 hx
      obtain ⟨F2, e2, s2, r2, _⟩ := toD_ok s1 r1 hx
      refine ⟨st2, F2, α1, x, s2, r2, ?_⟩
      split at p1
      · exact fun σ' F' α' H' e' s' _ => p1 σ' F' α' H' (e2.trans e') s'
      · exact p1.elim
    · exact p1.elim
/-- xs[i] = e -/
def setIx (x : Val) (w k : Val) (st : S) : OS := match w, k with
  | .c n, .d (.int i) => match toD x st with
    | some (y, st1) => match st1.c[n]? with
      | some (.own xs) => match ixN xs.length i with
        | some j => .ok .nx { st1 with c := st1.c.set n (.own (xs.set j y)) }
        | none => .bad
      | _ => .bad
    | none => .bad
  | _, _ => .bad
def setIxS (fo fi fe : S → OE) : S → OS := fun st => (fe st).bind fun v st1 => (fo st1).bind fun w st2 => (fi st2).bind fun k st3 => setIx v w k st3
theorem s_sub {fo fi : S → OE} {o i : Expr} {tpos : Pos} (ho : PE X o (tI c m W fo)) (hi : PE X i (tI c m W fi)) (he : PE X e (tI c m W f))
    (ha : ∀ v, assign (.Subscript o i tpos) X.env v = (do
      let ov ← holding [v] (eval o X.env)
      let iv ← holding [v, ov] (eval i X.env)
      standAt tpos
      holding [v, ov, iv] (setItem ov iv v)
      release [v, ov, iv] []) := by intro _; rfl)
    (hs : swapsWithSole [.Subscript o i tpos] e pos.line X.env = pure false := by rfl) (hw : swappedStores [.Subscript o i tpos] e X.env = pure none := by rfl)
    (h1 : (assignEach [.Subscript o i tpos] X.env).map (·.2) = [assign (.Subscript o i tpos) X.env] := by rfl) : PS X (.Assign [.Subscript o i tpos] e pos) (tS c m W (setIxS fo fi f)) :=
  PS_imp (ps_asg he (pg_sub ho hi set_list ha) hs hw h1) fun σ H D ⟨st, F, α, sr, p⟩ =>
  kE pstS sr p fun v st1 x F1 α1 H1 _ s1 r1 p1 => kE pstS s1 p1 fun w st2 y F2 α2 H2 e2 s2 r2 p2 => kE pstS s2 p2 fun k st3 z F3 α3 H3 e3 s3 r3 p3 => by
    have q1 := r1.mono (e2.trans e3)
    have q2 := r2.mono e3
    unfold setIx at p3
    split at p3
    · rename_i n i
      cases r3
      split at p3
      · rename_i y st4 hy
        obtain ⟨F4, e4, s4, q4, _⟩ := toD_ok s3 q1 hy
        split at p3
        · rename_i xs hc
          split at p3
          · rename_i j hj
            obtain ⟨a, ha', rfl⟩ := q2.mono e4
            obtain ⟨d, vs, hd, g1, g2⟩ := s4.ownA hc
            rw [ha'] at hd; cases hd
            refine ⟨a, vs, i, j, rfl, rfl, g1, by rw [← g2.len]; exact hj, ?_⟩
            obtain ⟨e5, s5⟩ := s4.setL ha' hc (g2.set q4 j)
            exact p3 σ F4 α3 _ (e4.trans e5) s5
          · exact p3.elim
        · exact p3.elim
      · exact p3.elim
    · exact p3.elim

/-! ### while -/
def whileS (t : S → OE) (g : S → OS) : Nat → S → OS
  | 0, _ => .bad
  | n + 1, st => (t st).bind (onB (fun st1 => match g st1 with
    | .ok .nx st2 => whileS t g n st2
    | .ok .ct st2 => whileS t g n st2
    | .ok .bk st2 => .ok .nx st2
    | o => o) nextS)
theorem s_while {q : Expr} {B : List Stmt} {n : Nat} (hp : PassesOwn (model X.prog X.w) X.A X.env X.xe) (ht : PT X q (tT c m W f)) (hb : PSs X B (tS c m W G)) : PS X (.While q B [] pos) (tS c m W (whileS f G n)) :=
  PS_imp (ps_while hp ht hb) fun σ H D ⟨st, F, α, sr, p⟩ => by
    refine ⟨fun k σ H => ∃ st F α, SR c m st F α σ H ∧ PSo c m W F α H D (whileS f G k st), ⟨n, st, F, α, sr, p⟩, ?_⟩
    rintro k σ H ⟨st, F, α, sr, p⟩
    cases k with
    | zero => exact p.elim
    | succ k =>
      refine kT pstS sr p fun b st1 F1 α1 H1 _ s1 p1 => ?_
      cases b with
      | false => exact p1 σ F1 α1 H1 .refl s1
      | true =>
        refine ⟨fun σ H => ∃ st F α, SR c m st F α σ H ∧ PSo c m W F α H D (whileS f G k st), fun σ' H' h => ⟨k, Nat.lt_succ_self _, h⟩, st1, F1, α1, s1, ?_⟩
        simp only [if_true] at p1
        generalize G st1 = o at p1 ⊢
        cases o with
        | ok fl st2 =>
          cases fl with
          | nx => exact fun σ' F' α' H' e' s' => ⟨st2, F', α', s', PSo.evo e' p1⟩
          | ct => exact fun σ' F' α' H' e' s' => ⟨st2, F', α', s', PSo.evo e' p1⟩
          | bk => exact p1
          | ret v => exact p1
        | exc nm x st2 => exact p1
        | bad => exact p1
end
end Sh
end
section
set_option Elab.async false
set_option linter.all false
set_option maxRecDepth 100000
set_option maxHeartbeats 2000000
namespace Sh
open PySem PySem.Spec PyProof.Rows
open L2 hiding St

mutual
def beqD : D → D → Bool
  | .non, .non => true
  | .bl a, .bl b => a == b
  | .int a, .int b => a == b
  | .str a, .str b => decide (a = b)
  | .obj a, .obj b => a == b
  | .ty a, .ty b => decide (a = b)
  | .tup a, .tup b => beqDs a b
  | .lst a, .lst b => beqDs a b
  | .klst a, .klst b => beqDs a b
  | _, _ => false
def beqDs : List D → List D → Bool
  | [], [] => true
  | x :: xs, y :: ys => beqD x y && beqDs xs ys
  | _, _ => false
end
mutual
theorem beqD_eq : ∀ {x y : D}, beqD x y = true → x = y
  | .non, y, h => by cases y <;> simp_all [beqD]
  | .bl a, y, h => by cases y <;> simp_all [beqD]
  | .int a, y, h => by cases y <;> simp_all [beqD]
  | .str a, y, h => by cases y <;> simp_all [beqD]
  | .obj a, y, h => by cases y <;> simp_all [beqD]
  | .ty a, y, h => by cases y <;> simp_all [beqD]
  | .tup a, y, h => by
    cases y with
    | tup b => rw [beqD] at h; rw [beqDs_eq h]
    | _ => simp [beqD] at h
  | .lst a, y, h => by
    cases y with
    | lst b => rw [beqD] at h; rw [beqDs_eq h]
    | _ => simp [beqD] at h
  | .klst a, y, h => by
    cases y with
    | klst b => rw [beqD] at h; rw [beqDs_eq h]
    | _ => simp [beqD] at h
theorem beqDs_eq : ∀ {xs ys : List D}, beqDs xs ys = true → xs = ys
  | [], [], _ => rfl
  | [], y :: ys, h => by simp [beqDs] at h
  | x :: xs, [], h => by simp [beqDs] at h
  | x :: xs, y :: ys, h => by
    rw [beqDs, Bool.and_eq_true] at h
    rw [beqD_eq h.1, beqDs_eq h.2]
end
mutual
theorem beqD_rfl : ∀ x : D, beqD x x = true
  | .non => by simp [beqD]
  | .bl a => by simp [beqD]
  | .int a => by simp [beqD]
  | .str a => by simp [beqD]
  | .obj a => by simp [beqD]
  | .ty a => by simp [beqD]
  | .tup a => by rw [beqD]; exact beqDs_rfl a
  | .lst a => by rw [beqD]; exact beqDs_rfl a
  | .klst a => by rw [beqD]; exact beqDs_rfl a
theorem beqDs_rfl : ∀ xs : List D, beqDs xs xs = true
  | [] => by simp [beqDs]
  | x :: xs => by rw [beqDs, beqD_rfl x, beqDs_rfl xs]; rfl
end

/-! ### what is walked -/
def gdOk : Option Nat → List D → S → Bool
  | none, _, _ => true
  | some n, xs, st => match st.c[n]? with
    | some cl => beqDs cl.xs xs
    | none => false
/-- an iterator gives xs, one by one, as long as the cell it walks stays -/
def Yl (c : Cn) (m : Fm) (xs : List D) (ck : Option Nat) (F0 : Fz) (α0 : List Addr) (H0 : Hp) (J : It) : Prop :=
  ∀ i st F α σ H, Evo F0 α0 H0 F α H → SR c m st F α σ H → gdOk ck xs st = true →
    (xs.length ≤ i → J.stop i H) ∧ ∀ x, xs[i]? = some x → J.go i H ∧ ∀ v H', J.yld i H v H' → Evo F α H F α H' ∧ SR c m st F α σ H' ∧ Rep c F H' x v
abbrev IO := Out (List D × Option Nat)
def PWo (c : Cn) (m : Fm) (W : WX) (σ : L2.St) (F : Fz) (α : List Addr) (H : Hp) (R : It → Hp → Prop) : IO → Prop
  | .ok p st' => ∀ J F' α' H', Evo F α H F' α' H' → SR c m st' F' α' σ H' → Yl c m p.1 p.2 F' α' H' J → R J H'
  | .exc nm x st' => Xo c m W σ F α H nm x st'
  | .bad => False
def tW (c : Cn) (m : Fm) (W : WX) (f : S → IO) : TI := fun σ H R => ∃ st F α, SR c m st F α σ H ∧ PWo c m W σ F α H R (f st)
theorem PI_imp {X : Cx} {tg e : Expr} {t t' : TI} (h : PI X tg e t) (i : ∀ σ H Q, t' σ H Q → t σ H Q) : PI X tg e t' := ⟨fun pins s σ H Q I q => h.run pins s σ H Q I (i σ H Q q)⟩
section
variable {c : Cn} {m : Fm} {W : WX} {σ : L2.St} {F F1 : Fz} {α α1 : List Addr} {H H1 : Hp} {st st1 : S}
theorem PWo.evo {R : It → Hp → Prop} {o : IO} (e : Evo F α H F1 α1 H1) (h : PWo c m W σ F α H R o) : PWo c m W σ F1 α1 H1 R o := by
  cases o with
  | ok v st' => exact fun J F' α' H' e' => h J F' α' H' (e.trans e')
  | exc nm x st' => exact Xo.evo e h
  | bad => exact h
theorem pstW {R : It → Hp → Prop} : Pst c m W σ fun F α H o => PWo c m W σ F α H R o := ⟨fun e h => h.evo e, fun h => h, fun h => h⟩
theorem SqL.evo {a : Addr} {vs : List V} {xs : List D} (e : Ev F H F1 H1) (f : F a) (h : H a = some (.lst vs)) : SqL c.K H1 a vs := .inl (.inl (e.keep _ _ f h))
/-- a list or a tuple, walked -/
def iSeq (K : PySem.W.Frag) (tl : TE) : TI := fun σ H R => tl σ H fun x H1 => ∃ a, x = .ref a ∧ (((∃ xs, SqL K H1 a xs) ∧ R (Itl K a) H1) ∨ ((∃ xs, SqT K H1 a xs) ∧ R (Itt K a) H1))
theorem pi_seq {X : Cx} {tg l : Expr} {tl : TE} (hl : PE X l tl) : PI X tg l (iSeq X.K tl) := by
  refine ⟨fun pins s σ H R I h => ?_⟩
  refine thn (hl.run pins s σ H _ I h) fun v s1 ⟨x, H1, I1, r1, q1⟩ => ?_
  obtain ⟨a, e, q1⟩ := q1
  subst e
  cases r1
  rcases q1 with ⟨⟨xs, hq⟩, q⟩ | ⟨⟨xs, hq⟩, q⟩
  · obtain ⟨its, rv, p, hz⟩ := I1.list hq
    refine wpAny_pyIter_list p.isList ?_
    refine ⟨s1.heap.objs.size, [s1.heap.objs.size], _, _, H1, rfl, I1.kept (t' := s1.toks) fun b o e => Heap.get?_push_of_some _ e, turn_list a _, ⟨_, Heap.get?_push_size _ rfl, rfl, rfl⟩, fun b hb => ?_, q⟩
    have e : b = s1.heap.objs.size := by simpa using hb
    subst e
    exact I1.fpOk (Nat.le_refl _) (I1.hok.fresh (Nat.le_refl _))
  · obtain ⟨its, rv, p, hz⟩ := I1.tuple hq
    refine wpAny_pyIter_tuple (show s1.heap.IsTuple a its.toArray from p) ?_
    refine ⟨s1.heap.objs.size, [s1.heap.objs.size], _, _, H1, rfl, I1.kept (t' := s1.toks) fun b o e => Heap.get?_push_of_some _ e, turn_tuple a _, ⟨_, Heap.get?_push_size _ rfl, rfl, rfl⟩, fun b hb => ?_, q⟩
    have e : b = s1.heap.objs.size := by simpa using hb
    subst e
    exact I1.fpOk (Nat.le_refl _) (I1.hok.fresh (Nat.le_refl _))
/-- the cell of a value -/
def ckOf : Val → Option Nat
  | .c n => some n
  | _ => none
/-- what stands at a, in the later states too -/
theorem seq_later {va : Val} {a : Addr} {xs : List D} (sr : SR c m st F α σ H) (r : VR c m F α H va (.ref a)) (e : seqOf va st = some xs) :
    (∀ st' F' α' σ' H', Evo F α H F' α' H' → SR c m st' F' α' σ' H' → gdOk (ckOf va) xs st' = true → ∃ vs, SqL c.K H' a vs ∧ Reps c F' H' xs vs) ∨
    ((∃ zs, va = .d (.tup zs)) ∧ ∀ st' F' α' σ' H', Evo F α H F' α' H' → SR c m st' F' α' σ' H' → gdOk (ckOf va) xs st' = true → ∃ vs, SqT c.K H' a vs ∧ Reps c F' H' xs vs) := by
  unfold seqOf at e
  split at e
  · cases e
    cases r with
    | lst f h q => exact .inl fun st' F' α' σ' H' e s g => ⟨_, .inl (.inl (e.ev.keep _ _ f h)), Reps.mono e.ev q⟩
  · cases e
    cases r with
    | klst h q => exact .inl fun st' F' α' σ' H' e s g => ⟨_, (h.imp (fun ⟨o, z⟩ => .inr ⟨o, e.ev.frzs _ _ _ z⟩) id).elim .inl .inr, Reps.mono e.ev q⟩
  · cases e
    cases r with
    | tup h q => exact .inr ⟨⟨_, rfl⟩, fun st' F' α' σ' H' e s g => ⟨_, e.ev.sqT h, Reps.mono e.ev q⟩⟩
  · rename_i n _
    obtain ⟨a', ha, hr⟩ := r
    cases hr
    refine .inl fun st' F' α' σ' H' e' s g => ?_
    obtain ⟨cl, hc, ck⟩ := s.cell (pre_get e'.pre ha)
    unfold gdOk ckOf at g
    simp only [hc] at g
    obtain ⟨vs, h1, h2⟩ := ck.read
    rw [beqDs_eq g] at h2
    exact ⟨vs, .inl (.inl h1), h2⟩
  · cases e
theorem gd0 {va : Val} {xs : List D} (e : seqOf va st = some xs) : gdOk (ckOf va) xs st = true := by
  cases va with
  | d x => rfl
  | t a b x => rfl
  | x nm y => rfl
  | c n =>
    show (match st.c[n]? with
      | some cl => beqDs cl.xs xs
      | none => false) = true
    have e : (st.c[n]?).map Cell.xs = some xs := e
    cases hc : st.c[n]? with
    | none => rw [hc] at e; cases e
    | some cl =>
      rw [hc] at e
      cases e
      exact beqDs_rfl _
/-- sequences -/
def itV (v : Val) (st : S) : IO := match seqOf v st with
  | some xs => .ok (xs, ckOf v) st
  | none => .bad
def itE (f : S → OE) : S → IO := fun st => (f st).bind itV
variable {X : Cx} {tg e : Expr} {f : S → OE} {es : List Expr} {pos p tpos : Pos} {elts : List Expr} {kk : Nat}
theorem w_seq (hK : X.K = c.K) (he : PE X e (tI c m W f)) : PI X tg e (tW c m W (itE f)) := PI_imp (pi_seq he) fun σ H R ⟨st, F, α, sr, p⟩ => by
  rw [hK]
  refine kE pstW sr p fun v st1 x F1 α1 H1 _ s1 r1 p1 => ?_
  unfold itV at p1
  split at p1
  · rename_i xs hx
    obtain ⟨a, vs, rfl, hs, q⟩ := seqOf_ok s1 r1 hx
    refine ⟨a, rfl, ?_⟩
    rcases seq_later s1 r1 hx with h | ⟨_, h⟩
    · obtain ⟨ws, h1, h2⟩ := h st1 F1 α1 σ H1 .refl s1 (gd0 hx)
      refine .inl ⟨⟨ws, h1⟩, p1 _ F1 α1 H1 .refl s1 fun i st2 F2 α2 σ2 H2 e2 s2 g2 => ?_⟩
      obtain ⟨us, h3, h4⟩ := h st2 F2 α2 σ2 H2 e2 s2 g2
      refine ⟨fun hl => ⟨us, h3, by rw [← h4.len]; exact hl⟩, fun y hy => ?_⟩
      obtain ⟨v, hv, rv⟩ := h4.get hy
      exact ⟨⟨us, v, h3, hv⟩, fun w H' ⟨e, hw⟩ => by
        subst e
        have := hw us h3
        rw [hv] at this; cases this
        exact ⟨.refl, s2, rv⟩⟩
    · obtain ⟨ws, h1, h2⟩ := h st1 F1 α1 σ H1 .refl s1 (gd0 hx)
      refine .inr ⟨⟨ws, h1⟩, p1 _ F1 α1 H1 .refl s1 fun i st2 F2 α2 σ2 H2 e2 s2 g2 => ?_⟩
      obtain ⟨us, h3, h4⟩ := h st2 F2 α2 σ2 H2 e2 s2 g2
      refine ⟨fun hl => ⟨us, h3, by rw [← h4.len]; exact hl⟩, fun y hy => ?_⟩
      obtain ⟨v, hv, rv⟩ := h4.get hy
      exact ⟨⟨us, v, h3, hv⟩, fun w H' ⟨e, hw⟩ => by
        subst e
        have := hw us h3
        rw [hv] at this; cases this
        exact ⟨.refl, s2, rv⟩⟩
  · exact p1.elim
/-- lo, lo + 1, .. -/
def rngL (lo : Int) (n : Nat) : List D := (List.range n).map fun i : Nat => D.int (lo + i)
theorem yl_rng (lo : Int) (n : Nat) : Yl c m (rngL lo n) none F α H (Itr lo n) := by
  intro i st2 F2 α2 σ2 H2 e2 s2 g2
  refine ⟨fun hl => ?_, fun x hx => ?_⟩
  · show n ≤ i
    simpa [rngL] using hl
  · have hi : i < n := by
      have := (List.getElem?_eq_some_iff.mp hx).1
      simpa [rngL] using this
    refine ⟨hi, fun v H' ⟨e, hv⟩ => ?_⟩
    subst e hv
    have : x = .int (lo + i) := by
      simp [rngL, hi] at hx
      exact hx.symm
    subst this
    exact ⟨.refl, s2, .int⟩
def bigI (i : Int) : Bool := decide (-(2 ^ 62) ≤ i) && decide (i < 2 ^ 62)
def rng1V (vs : List Val) (st : S) : IO := match vs with
  | [.d (.int j)] => if bigI j then .ok (rngL 0 j.toNat, none) st else .bad
  | _ => .bad
def rng2V (vs : List Val) (st : S) : IO := match vs with
  | [.d (.int i), .d (.int j)] => if bigI i && bigI j then .ok (rngL i (j - i).toNat, none) st else .bad
  | _ => .bad
def itA (g : List Val → S → IO) (fs : List (S → OE)) : S → IO := fun st => (seqE fs st).bind g
theorem big_of {i : Int} (h : bigI i = true) : -(2 ^ 62) ≤ i ∧ i < 2 ^ 62 := by
  unfold bigI at h
  rw [Bool.and_eq_true, decide_eq_true_eq, decide_eq_true_eq] at h
  exact h
theorem w_rng1 {a : Expr} {fs : List (S → OE)} (hg : Gl X "range" := by rfl) (hm : X.mg "range" = none) (ha : PA X [a] (tA c m W (seqE fs))) (hs : starEach [a] X.env = [(false, eval a X.env)] := by rfl) : PI X tg (.Call (.Name "range" p) [a] [] pos) (tW c m W (itA rng1V fs)) :=
  PI_imp (pi_range1 hg hm ha hs) fun σ H R ⟨st, F, α, sr, p⟩ => kA pstW sr p fun vs st1 xs F1 α1 H1 _ s1 r1 p1 => by
    unfold rng1V at p1
    split at p1
    · cases r1 with
      | cons r1 r2 =>
        cases r2
        cases r1
        split at p1
        · rename_i j h
          obtain ⟨h1, h2⟩ := big_of h
          exact ⟨j, rfl, h1, h2, p1 _ F1 α1 H1 .refl s1 (yl_rng 0 j.toNat)⟩
        · exact p1.elim
    · exact p1.elim
theorem w_rng2 {a b : Expr} {fs : List (S → OE)} (hg : Gl X "range" := by rfl) (hm : X.mg "range" = none) (ha : PA X [a, b] (tA c m W (seqE fs))) (hs : starEach [a, b] X.env = [(false, eval a X.env), (false, eval b X.env)] := by rfl) (hs2 : starEach [b] X.env = [(false, eval b X.env)] := by rfl) : PI X tg (.Call (.Name "range" p) [a, b] [] pos) (tW c m W (itA rng2V fs)) :=
  PI_imp (pi_range2 hg hm ha hs hs2) fun σ H R ⟨st, F, α, sr, p⟩ => kA pstW sr p fun vs st1 xs F1 α1 H1 _ s1 r1 p1 => by
    unfold rng2V at p1
    split at p1
    · cases r1 with
      | cons r1 r2 =>
        cases r2 with
        | cons r2 r3 =>
          cases r3
          cases r1
          cases r2
          split at p1
          · rename_i i j h
            rw [Bool.and_eq_true] at h
            obtain ⟨h1, h2⟩ := big_of h.1
            obtain ⟨h3, h4⟩ := big_of h.2
            exact ⟨i, j, rfl, ⟨h1, h2, h3, h4⟩, p1 _ F1 α1 H1 .refl s1 (yl_rng i (j - i).toNat)⟩
          · exact p1.elim
    · exact p1.elim

/-! ### for -/
def forL (g : D → S → Option S) (b : S → OS) (ck : Option Nat) (all : List D) : List D → S → OS
  | [], st => if gdOk ck all st then .ok .nx st else .bad
  | x :: r, st => if gdOk ck all st then match g x st with
    | some st1 => match b st1 with
      | .ok .nx st2 => forL g b ck all r st2
      | .ok .ct st2 => forL g b ck all r st2
      | .ok .bk st2 => .ok .nx st2
      | o => o
    | none => .bad else .bad
def forS (it : S → IO) (g : D → S → Option S) (b : S → OS) : S → OS := fun st => (it st).bind fun p st1 => forL g b p.2 p.1 p.1 st1
variable {G : S → OS} {body : List Stmt} {it : S → IO} {g : D → S → Option S} {ws : List Nat}
theorem s_for {iter : Expr} (hp : PassesOwn (model X.prog X.w) X.A X.env X.xe) (hc : X.calm = true) (hi : PI X tg iter (tW c m W it)) (hg : PG X tg (tG c m ws g)) (hb : PSs X body (tS c m W G))
    (hs : ∀ x, foldedSetIterable iter X.env x = pure x := by intro _; rfl) : PS X (.For tg iter body [] pos) (tS c m W (forS it g G)) := PS_imp (ps_for hp hc hi hg hb hs) fun σ H D ⟨st, F, α, sr, p⟩ => by
  refine ⟨st, F, α, sr, ?_⟩
  unfold forS at p
  generalize it st = o at p ⊢
  cases o with
  | exc nm x st' => exact p σ
  | bad => exact p
  | ok q st1 =>
    obtain ⟨all, ck⟩ := q
    intro J F1 α1 H1 e1 s1 hy
    refine ⟨fun i k σ H => k = all.length - i ∧ ∃ st F α, Evo F1 α1 H1 F α H ∧ SR c m st F α σ H ∧ PSo c m W F α H D (forL g G ck all (all.drop i) st), ⟨_, rfl, st1, F1, α1, .refl, s1, PSo.evo e1 p⟩, ?_⟩
    rintro i k σ H ⟨hk, st, F, α, e, s, p⟩
    cases hx : all[i]? with
    | none =>
      have hl : all.length ≤ i := List.getElem?_eq_none_iff.mp hx
      rw [List.drop_eq_nil_of_le hl] at p
      unfold forL at p
      split at p
      · rename_i hg
        exact .inl ⟨(hy i st F α σ H e s hg).1 hl, p σ F α H .refl s⟩
      · exact p.elim
    | some x =>
      obtain ⟨hl, hx'⟩ := List.getElem?_eq_some_iff.mp hx
      rw [List.drop_eq_getElem_cons hl, hx'] at p
      unfold forL at p
      split at p
      · rename_i hg
        obtain ⟨go, yl⟩ := (hy i st F α σ H e s hg).2 x hx
        refine .inr ⟨go, fun σ' H' => ∃ st F α, Evo F1 α1 H1 F α H' ∧ SR c m st F α σ' H' ∧ PSo c m W F α H' D (forL g G ck all (all.drop (i + 1)) st), fun σ' H' h => ⟨_, by omega, rfl, h⟩, fun v H' hv => ?_⟩
        obtain ⟨e2, s2, r2⟩ := yl v H' hv
        refine ⟨st, F, α, x, s2, r2, ?_⟩
        split at p
        · rename_i st3 hgx
          try rw [hgx]
          intro σ3 F3 α3 H3 e3 s3 _
          refine ⟨st3, F3, α3, s3, ?_⟩
          have ee := e.trans (e2.trans e3)
          have p' := PSo.evo (e2.trans e3) p
          generalize G st3 = o at p' ⊢
          cases o with
          | ok fl st4 =>
            cases fl with
            | nx => exact fun σ' F' α' H' e' s' => ⟨st4, F', α', ee.trans e', s', PSo.evo e' p'⟩
            | ct => exact fun σ' F' α' H' e' s' => ⟨st4, F', α', ee.trans e', s', PSo.evo e' p'⟩
            | bk => exact p'
            | ret v => exact p'
          | exc nm x st4 => exact p'
          | bad => exact p'
        · exact p.elim
      · exact p.elim
end
end Sh
end
section
set_option Elab.async false
set_option linter.all false
set_option maxRecDepth 100000
set_option maxHeartbeats 2000000
namespace Sh
open PySem PySem.Spec PyProof.Rows
open L2 hiding St

section
variable {c : Cn} {m : Fm} {W : WX} {σ : L2.St} {F F1 : Fz} {α α1 : List Addr} {H H1 : Hp} {st st1 : S}
/-- a list that is not among the frame's -/
structure Hid (F : Fz) (α : List Addr) (H : Hp) (D : Addr) (vs : List V) : Prop where
  at_ : H D = some (.lst vs)
  nin : D ∉ α
  nfz : ¬ F D
theorem Hid.evo {D : Addr} {vs : List V} (h : Hid F α H D vs) (e : Evo F α H F1 α1 H1) : Hid F1 α1 H1 D vs := by
  refine ⟨e.fr.keep _ _ h.at_ h.nin fun ps z => (nomatch z), fun z => ?_, fun z => ?_⟩
  · rcases e.loc D z with w | w
    · exact h.nin w
    · exact w.lst h.at_
  · rcases e.nF D z with w | w | w
    · exact h.nfz w
    · exact w.lst h.at_
    · exact h.nin w
theorem SR.setFree (sr : SR c m st F α σ H) {D : Addr} {vs ws : List V} (h : Hid F α H D vs) (h0 : NT m.H0 D) :
    Ev F H F (upd H D (.lst ws)) ∧ SR c m st F α σ (upd H D (.lst ws)) ∧ Hid F α (upd H D (.lst ws)) D ws := by
  have hw := h.at_
  have nF := h.nfz
  have k : ∀ b u, b ≠ D → H b = some u → upd H D (.lst ws) b = some u := fun b u hb e => by rw [upd_ne hb]; exact e
  have no : ∀ b u, H b = some u → (∀ l, u ≠ .lst l) → b ≠ D := fun b u e h z => by
    subst z
    rw [hw] at e
    cases e
    exact h _ rfl
  have ev : Ev F H F (upd H D (.lst ws)) := ⟨fun _ h => h, fun b u f h => k b u (fun z => nF (z ▸ f)) h, fun b xs h => k b _ (no b _ h fun l z => nomatch z) h, fun b ob u h => k b _ (no b _ h fun l z => nomatch z) h, fun b φ h => k b _ (no b _ h fun l z => nomatch z) h, fun b fs h => k b _ (no b _ h fun l z => nomatch z) h⟩
  refine ⟨ev, ⟨sr.len, fun i val hi => ?_, ⟨sr.cells.len, sr.cells.nd, fun j b cl hb hcl => ?_⟩, sr.pre, sr.loc, fun b hb => ?_, fun q hq => ?_, ⟨fun b u h1 h2 h3 => ?_⟩, sr.new, sr.old, sr.ioF, sr.ioL, sr.dom0⟩, ⟨upd_same, h.nin, h.nfz⟩⟩
  · obtain ⟨v, q1, q2⟩ := sr.vars i val hi
    refine ⟨v, q1, ?_⟩
    cases val with
    | d x => exact Rep.mono ev q2
    | c n => exact q2
    | t a b x => exact q2
    | x nm y =>
      obtain ⟨a, oe, C, d, u, h1, h2, h3, h4, h5, h6⟩ := q2
      exact ⟨a, oe, C, d, u, h1, h2, h3, h4, ev.xds _ _ h5, Rep.mono ev h6⟩
  · have hba : b ≠ D := fun z => h.nin (z ▸ List.mem_of_getElem? hb)
    exact (sr.cells.here j b cl hb hcl).mono ev (fun z => z) (upd_ne hba)
  · obtain ⟨xs, h⟩ := sr.dom b hb
    exact ⟨xs, k b _ (fun z => nF (z ▸ hb)) h⟩
  · obtain ⟨ps, t1, t2, t3⟩ := sr.tab q hq
    refine ⟨ps, k _ _ (no _ _ t1 fun l z => nomatch z) t1, t2, fun p' cv hcv => ?_⟩
    obtain ⟨c0, z1, z2⟩ := t3 p' cv hcv
    refine ⟨c0, z1, k _ _ (no _ _ z2 fun l z => ?_) z2⟩
    unfold LamX.CodeO at z
    cases z
  · have hb := sr.fra.keep b u h1 h2 h3
    refine k b u (fun z => ?_) hb
    exact h0.no (z ▸ h1) h3
theorem Evo.setFree {F0 : Fz} {α0 : List Addr} {H0 : Hp} (e : Evo F0 α0 H0 F α H) {D : Addr} {ws : List V} (h0 : NT H0 D) (ev : Ev F H F (upd H D (.lst ws))) : Evo F0 α0 H0 F α (upd H D (.lst ws)) := by
  refine ⟨e.ev.trans ev, e.pre, e.loc, ⟨fun b o q n t => ?_⟩, e.nF⟩
  rw [upd_ne (fun (z : b = D) => h0.no (z ▸ q) t)]; exact e.fr.keep b o q n t
/-- the hidden list becomes the frame's own -/
theorem SR.show_ (sr : SR c m st F α σ H) {Dl : Addr} {xs : List D} {vs : List V} (h : Hid F α H Dl vs) (h0 : NT m.H0 Dl) (r : Reps c F H xs vs) : SR c m { st with c := st.c ++ [.own xs] } F (α ++ [Dl]) σ H := by
  refine ⟨sr.len, fun i val hi => ?_, ⟨by rw [List.length_append, List.length_append, sr.cells.len]; rfl, ?_, fun n a cl ha hc => ?_⟩, sr.pre.trans (List.prefix_append _ _), fun a ha => ?_, sr.dom, sr.tab, sr.fra, sr.new, sr.old, sr.ioF, sr.ioL, sr.dom0⟩
  · obtain ⟨v, q1, q2⟩ := sr.vars i val hi
    refine ⟨v, q1, ?_⟩
    cases val with
    | d x => exact q2
    | c n =>
      obtain ⟨a, h1, h2⟩ := q2
      exact ⟨a, pre_get (List.prefix_append _ _) h1, h2⟩
    | t a b x => exact q2
    | x nm y => exact q2
  · refine List.nodup_append.mpr ⟨sr.cells.nd, List.nodup_cons.mpr ⟨by simp, List.nodup_nil⟩, fun a ha b hb => ?_⟩
    rw [List.mem_singleton.mp hb]
    exact fun z => h.nin (z ▸ ha)
  · by_cases hn : n < α.length
    · rw [List.getElem?_append_left hn] at ha
      rw [List.getElem?_append_left (by rw [← sr.cells.len]; exact hn)] at hc
      exact sr.cells.here n a cl ha hc
    · have hn' : n = α.length := by
        have := (List.getElem?_eq_some_iff.mp ha).1
        rw [List.length_append, List.length_singleton] at this
        omega
      subst hn'
      rw [List.getElem?_append_right (Nat.le_refl _), Nat.sub_self] at ha
      rw [List.getElem?_append_right (by rw [sr.cells.len]; exact Nat.le_refl _), sr.cells.len, Nat.sub_self] at hc
      cases ha
      cases hc
      exact ⟨h.nfz, vs, h.at_, r⟩
  · rcases List.mem_append.mp ha with ha | ha
    · exact sr.loc a ha
    · rw [List.mem_singleton.mp ha]
      exact .inr h0
theorem Evo.show_ {F0 : Fz} {α0 : List Addr} {H0 : Hp} (e : Evo F0 α0 H0 F α H) {D : Addr} (h0 : NT H0 D) : Evo F0 α0 H0 F (α ++ [D]) H :=
  ⟨e.ev, e.pre.trans (List.prefix_append _ _), fun a ha => (List.mem_append.mp ha).elim (e.loc a) fun z => by rw [List.mem_singleton.mp z]; exact .inr h0, e.fr, e.nF⟩
def wipeV (v : List (Option Val)) : List Nat → List (Option Val)
  | [] => v
  | i :: is => (wipeV v is).set i none
theorem SR.wipe (sr : SR c m st F α σ H) : ∀ vs : List Nat, SR c m { st with v := wipeV st.v vs } F α (L2.wipe σ vs) H
  | [] => sr
  | i :: is => (SR.wipe sr is).unv
/-- back from a block -/
theorem SR.back {σ1 : L2.St} (s0 : SR c m st F α σ H) (e : Evo F α H F1 α1 H1) (s1 : SR c m st1 F1 α1 σ1 H1) : SR c m { v := st.v, c := st1.c } F1 α1 σ H1 := by
  refine ⟨s0.len, fun i val hi => ?_, s1.cells, s1.pre, s1.loc, s1.dom, s1.tab, s1.fra, s1.new, s1.old, s1.ioF, s1.ioL, s1.dom0⟩
  obtain ⟨v, h1, h2⟩ := s0.vars i val hi
  exact ⟨v, h1, h2.mono e⟩
end
/-- nothing is raised -/
def WF : WX := fun _ _ _ _ => False
def compL (g : D → S → Option S) (t f : S → OE) (vs : List Nat) (v0 : List (Option Val)) (ck : Option Nat) (all : List D) : List D → S → Out (List D)
  | [], st => if gdOk ck all st then .ok [] st else .bad
  | x :: r, st => if gdOk ck all st then match g x { v := wipeV v0 vs, c := st.c } with
    | some st1 => match t st1 with
      | .ok (.d (.bl true)) st2 => match f st2 with
        | .ok v st3 => match toD v st3 with
          | some (y, st4) => (compL g t f vs v0 ck all r { v := v0, c := st4.c }).bind fun ys st5 => .ok (y :: ys) st5
          | none => .bad
        | _ => .bad
      | .ok (.d (.bl false)) st2 => compL g t f vs v0 ck all r { v := v0, c := st2.c }
      | _ => .bad
    | none => .bad else .bad
def compE (it : S → IO) (g : D → S → Option S) (t f : S → OE) (vs : List Nat) : S → OE := fun st => (it st).bind fun p st1 => if p.1.length ≤ 1000000 then (compL g t f vs st1.v p.2 p.1 p.1 st1).bind newLst else .bad
section
variable {X : Cx} {c : Cn} {m : Fm} {W : WX} {e : Expr} {pos : Pos}
theorem bind_ok {α β : Type} (a : α) (st : S) (g : α → S → Out β) : (Out.ok a st).bind g = g a st := rfl
theorem bind_assoc {α β γ : Type} (o : Out α) (g : α → S → Out β) (h : β → S → Out γ) : (o.bind g).bind h = o.bind fun a s => (g a s).bind h := by
  cases o <;> rfl
theorem lc_imp {it : S → IO} {g : D → S → Option S} {t f : S → OE} {vs ws : List Nat} (hw : ∀ i ∈ ws, i ∈ vs) : ∀ σ H Q, tI c m W (compE it g t f vs) σ H Q → tLc (tW c m W it) (tG c m ws g) (tT c m WF t) (tI c m WF f) vs σ H Q := fun σ H Q ⟨st, F, α, sr, p⟩ => by
  refine ⟨st, F, α, sr, ?_⟩
  unfold compE at p
  generalize it st = o at p ⊢
  cases o with
  | exc nm x st' => exact p
  | bad => exact p
  | ok q st1 =>
    obtain ⟨all, ck⟩ := q
    intro J F1 α1 H1 e1 s1 hy Dl hD
    replace p := PEo.evo e1 p
    rw [bind_ok] at p
    split at p
    · rename_i hlen
      have h0 : NT m.H0 Dl := s1.fresh0 (.of hD)
      have nα : Dl ∉ α1 := fun z => by
        obtain ⟨n, hn⟩ := List.mem_iff_getElem?.mp z
        obtain ⟨cl, _, ck⟩ := s1.cell hn
        obtain ⟨ws, hw, _⟩ := ck.read
        rw [hD] at hw; cases hw
      have nF : ¬ F1 Dl := fun z => by
        obtain ⟨ws, hw⟩ := s1.dom Dl z
        rw [hD] at hw; cases hw
      obtain ⟨e2, s2⟩ := s1.newT (o := .lst []) hD
      refine ⟨fun i k H => k = all.length - i ∧ ∃ st F α acc us, st.v = st1.v ∧ Evo F1 α1 H1 F α H ∧ SR c m st F α σ H ∧ Hid F α H Dl us ∧ Reps c F H acc us ∧ acc.length + (all.length - i) ≤ 1000000 ∧
        PEo c m W σ F1 α1 H1 Q ((compL g t f vs st1.v ck all (all.drop i) st).bind fun ys st => newLst (acc ++ ys) st), ⟨_, rfl, st1, F1, α1, [], [], rfl, e2, s2, ⟨upd_same, nα, nF⟩, .nil, by simpa using hlen, ?_⟩, ?_⟩
      · exact p
      rintro i k H ⟨hk, st, F, α, acc, us, hv, e, s, hid, ra, hn, p⟩
      cases hx : all[i]? with
      | none =>
        have hl : all.length ≤ i := List.getElem?_eq_none_iff.mp hx
        rw [List.drop_eq_nil_of_le hl] at p
        unfold compL at p
        split at p
        · rename_i hg
          refine .inl ⟨(hy i st F α σ H e s hg).1 hl, ?_⟩
          rw [bind_ok, List.append_nil] at p
          refine p (.ref Dl) F (α ++ [Dl]) H (e.show_ (.of hD)) (s.show_ hid h0 ra) ⟨Dl, ?_, rfl⟩
          rw [← s.cells.len, List.getElem?_append_right (Nat.le_refl _), Nat.sub_self]
          rfl
        · exact p.elim
      | some x =>
        obtain ⟨hl, hx'⟩ := List.getElem?_eq_some_iff.mp hx
        rw [List.drop_eq_getElem_cons hl, hx'] at p
        unfold compL at p
        split at p
        · rename_i hg
          obtain ⟨go, yl⟩ := (hy i st F α σ H e s hg).2 x hx
          refine .inr ⟨go, fun H => ∃ st F α acc us, st.v = st1.v ∧ Evo F1 α1 H1 F α H ∧ SR c m st F α σ H ∧ Hid F α H Dl us ∧ Reps c F H acc us ∧ acc.length + (all.length - (i + 1)) ≤ 1000000 ∧
            PEo c m W σ F1 α1 H1 Q ((compL g t f vs st1.v ck all (all.drop (i + 1)) st).bind fun ys st => newLst (acc ++ ys) st), fun H' h => ⟨_, by omega, rfl, h⟩, fun v H' hv' => ?_⟩
          obtain ⟨e2, s2, r2⟩ := yl v H' hv'
          refine ⟨{ v := wipeV st1.v vs, c := st.c }, F, α, x, by rw [← hv]; exact s2.wipe vs, r2, ?_⟩
          split at p
          · rename_i st3 hgx
            try rw [hgx]
            intro σ3 F3 α3 H3 e3 s3 w3
            refine ⟨?_, st3, F3, α3, s3, ?_⟩
            · rw [w3 vs hw]
              refine List.ext_getElem? fun j => ?_
              rw [wipe_get, wipe_get]
              split
              · cases σ[j]? <;> simp
              · rfl
            have e23 := e2.trans e3
            generalize t st3 = o at p ⊢
            cases o with
            | exc nm y st4 => exact p.elim
            | bad => exact p.elim
            | ok w st4 =>
              cases w with
              | c n => exact p.elim
              | t a b z => exact p.elim
              | x a z => exact p.elim
              | d y =>
                cases y with
                | bl b =>
                  intro F4 α4 H4 e4 s4
                  have e24 := e23.trans e4
                  cases b with
                  | false =>
                    rw [if_neg Bool.false_ne_true]
                    refine ⟨{ v := st1.v, c := st4.c }, F4, α4, acc, us, rfl, e.trans e24, ?_, hid.evo e24, Reps.mono e24.ev ra, by omega, p⟩
                    have sb := SR.back s2 (e3.trans e4) s4
                    rw [hv] at sb
                    exact sb
                  | true =>
                    rw [if_pos rfl]
                    refine ⟨st4, F4, α4, s4, ?_⟩
                    simp only at p
                    generalize f st4 = o at p ⊢
                    cases o with
                    | exc nm y st5 => exact p.elim
                    | bad => exact p.elim
                    | ok w st5 =>
                      intro y F5 α5 H5 e5 s5 r5
                      simp only at p
                      split at p
                      · rename_i z st6 hz
                        obtain ⟨F6, e6, s6, r6, hv6⟩ := toD_ok s5 r5 hz
                        have e26 := e24.trans (e5.trans e6)
                        have hid6 := hid.evo e26
                        have ra6 := Reps.mono e26.ev ra
                        refine ⟨us, hid6.at_, by rw [← ra.len]; rw [sizeLine_eq]; omega, ?_⟩
                        have sb := SR.back s2 (e3.trans (e4.trans (e5.trans e6))) s6
                        rw [hv] at sb
                        obtain ⟨ev7, s7, hid7⟩ := sb.setFree (ws := us ++ [y]) hid6 h0
                        refine ⟨{ v := st1.v, c := st6.c }, F6, α5, acc ++ [z], us ++ [y], rfl, (e.trans e26).setFree (.of hD) ev7, s7, hid7, Reps.append (Reps.mono ev7 ra6) (.cons (Rep.mono ev7 r6) .nil), by rw [List.length_append, List.length_singleton]; omega, ?_⟩
                        rw [bind_assoc] at p
                        simp only [bind_ok, List.append_assoc, List.singleton_append] at p ⊢
                        exact p
                      · exact p.elim
                | _ => exact p.elim
          · exact p.elim
        · exact p.elim
    · exact p.elim
theorem t_yes : PTs X [] (tT c m W (cE (.bl true))) := ⟨fun pins s σ H Q I ⟨st, F, α, sr, p⟩ => pts_nil.run pins s σ H Q I (p F α H .refl sr)⟩
theorem t_one {q : Expr} {t : S → OE} (h : PT X q (tT c m W t)) : PTs X [q] (tT c m W t) := pts_one h
theorem i_lc {elt tg iter : Expr} {ifs : List Expr} {scope : Scope} {own : List (Str × Nat)} {it : S → IO} {g : D → S → Option S} {t f : S → OE} {ws : List Nat} (hc : X.calm = true) (hN : X.N.Nodup) (hi : PI X tg iter (tW c m W it)) (ok : BlkOk X.N X.env.scope scope own)
    (hg : ∀ (s : Shared) (H : Hp) (C : Addr) (cl : List (Str × Addr)) (fp : List Addr), PG (X.blk s H scope (compEnvC scope cl C X.env) fp) tg (tG c m ws g)) (ht : ∀ (s : Shared) (H : Hp) (C : Addr) (cl : List (Str × Addr)) (fp : List Addr), PTs (X.blk s H scope (compEnvC scope cl C X.env) fp) ifs (tT c m WF t))
    (he : ∀ (s : Shared) (H : Hp) (C : Addr) (cl : List (Str × Addr)) (fp : List Addr), PE (X.blk s H scope (compEnvC scope cl C X.env) fp) elt (tI c m WF f)) (hw : ∀ i ∈ ws, i ∈ own.map (·.2)) (hs : ∀ x, foldedSetIterable iter X.env x = pure x := by intro _; rfl) :
    PE X (.ListComp elt [⟨tg, iter, ifs, 0⟩] scope pos) (tI c m W (compE it g t f (own.map (·.2)))) := PE_imp (pe_lc hc hN hi ok hg ht he hs) (lc_imp hw)
theorem s_setLc {i : Nat} {y : Str} {py : Pos} {spos : Pos} {elt tg iter : Expr} {ifs : List Expr} {scope : Scope} {own : List (Str × Nat)} {it : S → IO} {g : D → S → Option S} {t f : S → OE} {ws : List Nat} (hc : X.calm = true) (hN : X.N.Nodup) (hi : PI X tg iter (tW c m W it)) (ok : BlkOk X.N X.env.scope scope own)
    (hg : ∀ (s : Shared) (H : Hp) (C : Addr) (cl : List (Str × Addr)) (fp : List Addr), PG (X.blk s H scope (compEnvC scope cl C X.env) fp) tg (tG c m ws g)) (ht : ∀ (s : Shared) (H : Hp) (C : Addr) (cl : List (Str × Addr)) (fp : List Addr), PTs (X.blk s H scope (compEnvC scope cl C X.env) fp) ifs (tT c m WF t))
    (he : ∀ (s : Shared) (H : Hp) (C : Addr) (cl : List (Str × Addr)) (fp : List Addr), PE (X.blk s H scope (compEnvC scope cl C X.env) fp) elt (tI c m WF f)) (hw : ∀ i ∈ ws, i ∈ own.map (·.2)) (hy : X.N[i]? = some y := by rfl) (hyl : X.env.scope.names.lookup y = some .local := by rfl)
    (hsw : swapsWith (.ListComp elt [⟨tg, iter, ifs, 0⟩] scope pos) (some (.Name y py)) spos.line X.env = pure true) (hs : ∀ x, foldedSetIterable iter X.env x = pure x := by intro _; rfl) :
    PS X (.Assign [.Name y py] (.ListComp elt [⟨tg, iter, ifs, 0⟩] scope pos) spos) (tS c m W (setS i (compE it g t f (own.map (·.2))))) :=
  PS_imp (ps_setLc hc hN hy hyl hsw hi ok hg ht he hs) fun σ H D ⟨st, F, α, sr, p⟩ => lc_imp hw σ H _ (kE pstS sr p fun v st1 y F1 α1 H1 _ s1 r1 p1 => p1 _ F1 α1 H1 .refl (s1.setv r1))
end
end Sh
end
section
set_option Elab.async false
set_option linter.all false
set_option maxRecDepth 100000
set_option maxHeartbeats 2000000
namespace Sh
open PySem PySem.Spec PyProof.Rows
open L2 hiding St

/-! ### what a def is given, and what it gives -/
inductive Ar where
  | d (x : D) | o (xs : List D) | t (ok : Bool) (nm : Str) (x : D)
inductive RV where
  | d (x : D) | io (i : Nat) | new (xs : List D)
inductive RD where
  | ok (r : RV) (cs : List Cell) | exc (nm : Str) (x : D) (cs : List Cell) | bad
def inV : List Ar → Nat → List Val
  | [], _ => []
  | .d x :: r, n => .d x :: inV r n
  | .o _ :: r, n => .c n :: inV r (n + 1)
  | .t ok nm x :: r, n => .t ok nm x :: inV r n
def inC : List Ar → List Cell
  | [] => []
  | .d _ :: r => inC r
  | .o xs :: r => .own xs :: inC r
  | .t _ _ _ :: r => inC r
def startS (nl : Nat) (as : List Ar) : S := { v := (inV as 0).map some ++ List.replicate (nl - (inV as 0).length) none, c := inC as }
def outR (n : Nat) (v : Val) (st : S) : RD := match v with
  | .d x => .ok (.d x) (st.c.take n)
  | .c k => if k < n then .ok (.io k) (st.c.take n) else match st.c[k]? with
    | some (.own xs) => .ok (.new xs) (st.c.take n)
    | some (.frz xs) => .ok (.d (.lst xs)) (st.c.take n)
    | none => .bad
  | _ => .bad
def runD (np nl : Nat) (G : S → OS) (as : List Ar) : RD := if as.length = np then match G (startS nl as) with
  | .ok (.ret v) st => outR (inC as).length v st
  | .ok .nx st => .ok (.d .non) (st.c.take (inC as).length)
  | .exc nm x st => .exc nm x (st.c.take (inC as).length)
  | _ => .bad else .bad

abbrev TP := Addr → Bool → Str → D → Prop
inductive ArgsOk (c : Cn) (tp : TP) (F : Fz) (H : Hp) : List Ar → List V → List Addr → Prop
  | nil : ArgsOk c tp F H [] [] []
  | d {x : D} {v : V} {as : List Ar} {vs : List V} {io : List Addr} : Rep c F H x v → ArgsOk c tp F H as vs io → ArgsOk c tp F H (.d x :: as) (v :: vs) io
  | o {a : Addr} {xs : List D} {as : List Ar} {vs : List V} {io : List Addr} : CellOk c F H a (.own xs) → ArgsOk c tp F H as vs io → ArgsOk c tp F H (.o xs :: as) (.ref a :: vs) (a :: io)
  | t {f : Addr} {ok : Bool} {nm : Str} {x : D} {as : List Ar} {vs : List V} {io : List Addr} : tp f ok nm x → ArgsOk c tp F H as vs io → ArgsOk c tp F H (.t ok nm x :: as) (.ref f :: vs) io
theorem ArgsOk.imp {c : Cn} {tp tp' : TP} {F : Fz} {H : Hp} (i : ∀ f ok nm x, tp f ok nm x → tp' f ok nm x) {as : List Ar} {vs : List V} {io : List Addr} (h : ArgsOk c tp F H as vs io) : ArgsOk c tp' F H as vs io := by
  induction h with
  | nil => exact .nil
  | d r _ ih => exact .d r ih
  | o r _ ih => exact .o r ih
  | t r _ ih => exact .t (i _ _ _ _ r) ih
theorem ArgsOk.len {c : Cn} {tp : TP} {F : Fz} {H : Hp} {as : List Ar} {vs : List V} {io : List Addr} (h : ArgsOk c tp F H as vs io) : as.length = vs.length := by
  induction h with
  | nil => rfl
  | d _ _ ih => exact congrArg (· + 1) ih
  | o _ _ ih => exact congrArg (· + 1) ih
  | t _ _ ih => exact congrArg (· + 1) ih
theorem ArgsOk.cl {c : Cn} {tp : TP} {F : Fz} {H : Hp} {as : List Ar} {vs : List V} {io : List Addr} (h : ArgsOk c tp F H as vs io) : io.length = (inC as).length ∧ ∀ (n : Nat) (a : Addr) (cl : Cell), io[n]? = some a → (inC as)[n]? = some cl → CellOk c F H a cl := by
  induction h with
  | nil => exact ⟨rfl, fun n a cl h => by simp at h⟩
  | d _ _ ih => exact ih
  | t _ _ ih => exact ih
  | @o a xs as vs io r _ ih =>
    refine ⟨congrArg (· + 1) ih.1, fun n b cl h1 h2 => ?_⟩
    cases n with
    | zero =>
      simp only [inC, List.getElem?_cons_zero] at h1 h2
      cases h1; cases h2
      exact r
    | succ n =>
      simp only [inC, List.getElem?_cons_succ] at h1 h2
      exact ih.2 n b cl h1 h2
structure Post (c : Cn) (F : Fz) (H : Hp) (io : List Addr) (F' : Fz) (H' : Hp) (cs : List Cell) : Prop where
  ev : Ev F H F' H'
  fr : Keeps0 io H H'
  dom : Dom F' H'
  tab : LamX.Tabs c.T H'
  nF : ∀ a, F' a → F a ∨ NT H a ∨ a ∈ io
  cells : CellsOk c F' H' io cs
def RvOk (c : Cn) (H : Hp) (io : List Addr) (F' : Fz) (H' : Hp) : RV → V → Prop
  | .d x, v => Rep c F' H' x v
  | .io i, v => ∃ a, io[i]? = some a ∧ v = .ref a
  | .new xs, v => ∃ a, v = .ref a ∧ NT H a ∧ CellOk c F' H' a (.own xs)
def RDo (c : Cn) (F : Fz) (H : Hp) (io : List Addr) (Q : VK) (E : XK) : RD → Prop
  | .ok r cs => ∀ v F' H', Post c F H io F' H' cs → RvOk c H io F' H' r v → Q v H'
  | .exc nm x cs => ∀ C dx v F' H', c.mg nm = some (.ref C) → Post c F H io F' H' cs → H' dx = some (.xd [(("what" : Str), v)]) → NT H dx → Rep c F' H' x v → E (.ref C) (some dx) H'
  | .bad => False
/-- a def's promise: where it is called with as, it gives what d says -/
def FnS (c : Cn) (k : Nat) (f : Addr) (d : List Ar → RD) : Prop :=
  ∀ (A : Around) (outer : List Env) (s : Shared) (H : Hp) (F : Fz) (as : List Ar) (vs : List V) (us : List Value) (io : List Addr) (Q : VK) (E : XK), Room k A → Env0 c.P c.w c.K c.mg c.base A outer s H → Dom F H → LamX.Tabs c.T H →
    ArgsOk c (ThkOk c s H F outer) F H as vs io → io.Nodup → Vals vs us → RDo c F H io Q E (d as) → codeAny (model c.P c.w) A (.call (.ref f) ⟨us, []⟩) (CR (L2N.CX c.P c.w) outer c.P c.w H s Q E) s
theorem FnS.mono {c : Cn} {j k : Nat} {f : Addr} {d : List Ar → RD} (h : FnS c j f d) (hk : j ≤ k) : FnS c k f d := fun A outer s H F as vs us io Q E hr => h A outer s H F as vs us io Q E (hr.mono hk)
theorem start_sr {c : Cn} {s : Shared} {H : Hp} {outer : List Env} {F : Fz} {as : List Ar} {vs : List V} {io : List Addr} {N : List Str} (h : ArgsOk c (ThkOk c s H F outer) F H as vs io) (nd : io.Nodup) (hd : Dom F H) (ht : LamX.Tabs c.T H) :
    SR c ⟨s, H, outer, F, io, none⟩ (startS N.length as) F io (L2.start N vs) H := by
  have cl := h.cl
  have hv : ∀ (pre : List Addr) (α : List Addr), α = pre ++ io → (inV as pre.length).length = vs.length ∧ ∀ (i : Nat) (val : Val), (inV as pre.length)[i]? = some val → ∃ v, vs[i]? = some v ∧ VR c ⟨s, H, outer, F, io, none⟩ F α H val v := by
    have key : ∀ {as : List Ar} {vs : List V} {jo : List Addr}, ArgsOk c (ThkOk c s H F outer) F H as vs jo → ∀ (pre α : List Addr), α = pre ++ jo → (inV as pre.length).length = vs.length ∧ ∀ (i : Nat) (val : Val), (inV as pre.length)[i]? = some val → ∃ v, vs[i]? = some v ∧ VR c ⟨s, H, outer, F, io, none⟩ F α H val v := by
      intro as vs jo h
      induction h with
      | nil => exact fun pre α e => ⟨rfl, fun i val hi => by simp [inV] at hi⟩
      | @d x v as vs jo r _ ih =>
        intro pre α e
        obtain ⟨h1, h2⟩ := ih pre α e
        refine ⟨congrArg (· + 1) h1, fun i val hi => ?_⟩
        cases i with
        | zero =>
          simp only [inV, List.getElem?_cons_zero] at hi
          cases hi
          exact ⟨v, rfl, r⟩
        | succ i =>
          simp only [inV, List.getElem?_cons_succ] at hi ⊢
          exact h2 i val hi
      | @t f ok nm x as vs jo r _ ih =>
        intro pre α e
        obtain ⟨h1, h2⟩ := ih pre α e
        refine ⟨congrArg (· + 1) h1, fun i val hi => ?_⟩
        cases i with
        | zero =>
          simp only [inV, List.getElem?_cons_zero] at hi
          cases hi
          exact ⟨_, rfl, f, rfl, r⟩
        | succ i =>
          simp only [inV, List.getElem?_cons_succ] at hi ⊢
          exact h2 i val hi
      | @o a xs as vs jo r _ ih =>
        intro pre α e
        obtain ⟨h1, h2⟩ := ih (pre ++ [a]) α (by rw [e, List.append_assoc]; rfl)
        rw [List.length_append, List.length_singleton] at h1 h2
        refine ⟨congrArg (· + 1) h1, fun i val hi => ?_⟩
        cases i with
        | zero =>
          simp only [inV, List.getElem?_cons_zero] at hi
          cases hi
          refine ⟨_, rfl, a, ?_, rfl⟩
          rw [e, List.getElem?_append_right (Nat.le_refl _), Nat.sub_self]
          rfl
        | succ i =>
          simp only [inV, List.getElem?_cons_succ] at hi ⊢
          exact h2 i val hi
    exact key h
  obtain ⟨hl, hv⟩ := hv [] io rfl
  simp only [List.length_nil] at hl hv
  refine ⟨?_, fun i val hi => ?_, ⟨cl.1, nd, cl.2⟩, List.prefix_rfl, fun a ha => .inl ha, hd, ht, .refl, fun a ha => .inl ha, fun a ha => ha, fun a ha z => ?_, fun a ha => ?_, hd⟩
  · unfold L2.start startS
    simp only [List.length_append, List.length_map, List.length_replicate, hl]
  · unfold startS at hi
    unfold L2.start
    simp only at hi
    by_cases hi2 : i < (inV as 0).length
    · rw [List.getElem?_append_left (by rw [List.length_map]; exact hi2), List.getElem?_map] at hi
      cases q : (inV as 0)[i]? with
      | none => rw [q] at hi; cases hi
      | some w =>
        rw [q] at hi
        cases hi
        obtain ⟨v, h1, h2⟩ := hv i val q
        refine ⟨v, ?_, h2⟩
        rw [List.getElem?_append_left (by rw [List.length_map, ← hl]; exact hi2), List.getElem?_map, h1]
        rfl
    · rw [List.getElem?_append_right (by rw [List.length_map]; omega), List.getElem?_replicate] at hi
      split at hi <;> cases hi
  · obtain ⟨n, hn⟩ := List.mem_iff_getElem?.mp ha
    have h1 := (List.getElem?_eq_some_iff.mp hn).1
    rw [cl.1] at h1
    have ck := cl.2 n a _ hn (List.getElem?_eq_getElem h1)
    cases q : (inC as)[n] with
    | own xs => rw [q] at ck; exact ck.1 z
    | frz xs =>
      have : ∀ as : List Ar, ∀ xs : List D, Cell.frz xs ∉ inC as := by
        intro as
        induction as with
        | nil => intro xs z; simp [inC] at z
        | cons a as ih =>
          intro xs z
          cases a with
          | d x => exact ih xs z
          | t a b x => exact ih xs z
          | o ys => simp only [inC, List.mem_cons] at z; rcases z with z | z; · cases z
                    exact ih xs z
      exact (this as xs (q ▸ List.getElem_mem h1)).elim
  · obtain ⟨n, hn⟩ := List.mem_iff_getElem?.mp ha
    have h1 := (List.getElem?_eq_some_iff.mp hn).1
    rw [cl.1] at h1
    obtain ⟨ws, hw, _⟩ := (cl.2 n a _ hn (List.getElem?_eq_getElem h1)).read
    exact ⟨ws, hw⟩
theorem SR.post {c : Cn} {m : Fm} {st : S} {F : Fz} {α : List Addr} {σ : L2.St} {H : Hp} {n : Nat} (sr : SR c m st F α σ H) (e : Evo m.F0 m.io m.H0 F α H) (hn : n = m.io.length) : Post c m.F0 m.H0 m.io F H (st.c.take n) := by
  subst hn
  obtain ⟨t, ht⟩ := sr.pre
  have hl : m.io.length ≤ st.c.length := by rw [← sr.cells.len, ← ht, List.length_append]; omega
  refine ⟨e.ev, e.fr, sr.dom, sr.tab, e.nF, ⟨by rw [List.length_take]; omega, ?_, fun k a cl ha hc => ?_⟩⟩
  · have := sr.cells.nd
    rw [← ht] at this
    exact (List.nodup_append.mp this).1
  · have hk := (List.getElem?_eq_some_iff.mp ha).1
    rw [List.getElem?_take, if_pos hk] at hc
    exact sr.cells.here k a cl (by rw [← ht, List.getElem?_append_left hk]; exact ha) hc
theorem fnS_of {c : Cn} {k : Nat} {f : Addr} {name qual : Str} {params : Arguments} {body : List Stmt} {scope : Scope} {dV kV doc pm cdv ct oc : Value} {an od : Option Addr}
    {osl : Array (Option Value)} {N ps : List Str} {G : S → OS} (lk : c.K.lookup f = some ⟨oc, od, .func (PySem.W.fnOf name qual params body scope dV kV doc pm an cdv ct), osl⟩) (hcd : PySem.W.codeIn c.K cdv qual = true) (Sc : FnScope N ps scope)
    (hb : Binds c.K (PySem.W.fnOf name qual params body scope dV kV doc pm an cdv ct) ps [])
    (hbody : ∀ (A : Around) (outer : List Env) (s : Shared) (H : Hp) (F : Fz) (io : List Addr) (E : XK), Room k (A.deeper (envOfC qual scope s.heap.objs.size f cdv)) →
      L2N.Takes (cxOf (L2N.CX c.P c.w) c.P c.w c.K c.mg c.base N qual scope f cdv A outer s H E) (fun cls d _ H => E cls d H) →
      PSs (cxOf (L2N.CX c.P c.w) c.P c.w c.K c.mg c.base N qual scope f cdv A outer s H E) body (tS c ⟨s, H, outer, F, io, none⟩ (fun cls d _ H => E cls d H) G)) :
    FnS c (k + 1) f (runD ps.length N.length G) := by
  intro A outer s H F as vs us io Q E hr e0 hd ht ha nd hv h
  unfold runD at h
  split at h
  · rename_i hlen
    have hl : vs.length = ps.length := by rw [← ha.len, hlen]
    have hl2 : us.length = ps.length := by rw [← hl]; exact hv.length.symm
    have KX : c.K.In s.heap := e0.mod.kin.keeps fun b o e => (e0.bs b o e).1
    have hbt : BindsTo s (PySem.W.fnOf name qual params body scope dV kV doc pm an cdv ct) ⟨us, []⟩ (ps.zip us) := by
      have := hb s us KX (by rw [List.append_nil]; exact hl2)
      rw [List.append_nil] at this
      exact this
    refine LamX.run_ofS lk hcd Sc hr e0 hbt hv hl fun hr' => ?_
    refine ⟨_, hbody A outer s H F io E hr' ?_, startS N.length as, F, io, start_sr ha nd hd ht, ?_⟩
    · exact L2N.takes_of rfl rfl rfl rfl
    · have hn := ha.cl.1
      generalize G (startS N.length as) = o at h ⊢
      cases o with
      | bad => exact h
      | exc nm x st =>
        intro σ' C dx v F' α' H' hm e s' hx h0 r
        exact h C dx v F' H' hm (s'.post e hn.symm) hx h0 r
      | ok fl st =>
        cases fl with
        | bk => exact h.elim
        | ct => exact h.elim
        | nx =>
          intro σ' F' α' H' e s'
          exact h .non F' H' (s'.post e hn.symm) .non
        | ret v =>
          intro x σ' F' α' H' e s' r
          simp only at h
          unfold outR at h
          split at h
          · exact h x F' H' (s'.post e hn.symm) r
          · rename_i j
            obtain ⟨a, h1, rfl⟩ := r
            obtain ⟨t, hpre⟩ := s'.pre
            have hpre : io ++ t = α' := hpre
            split at h
            · rename_i hj
              refine h _ F' H' (s'.post e hn.symm) ⟨a, ?_, rfl⟩
              rw [← hpre, List.getElem?_append_left (by rw [hn]; exact hj)] at h1
              exact h1
            · rename_i hj
              have ck := s'.cell h1
              obtain ⟨cl, hc, ck⟩ := ck
              have nio : a ∉ io := fun z => by
                obtain ⟨n, hn'⟩ := List.mem_iff_getElem?.mp z
                have hlt := (List.getElem?_eq_some_iff.mp hn').1
                have : α'[n]? = some a := by rw [← hpre, List.getElem?_append_left hlt]; exact hn'
                have := nd_at s'.cells.nd h1 this
                omega
              have h0 : NT H a := (s'.loc a (List.mem_of_getElem? h1)).resolve_left nio
              rw [hc] at h
              cases cl with
              | own xs => exact h _ F' H' (s'.post e hn.symm) ⟨a, rfl, h0, ck⟩
              | frz xs =>
                obtain ⟨g1, vs, g2, g3⟩ := ck
                exact h _ F' H' (s'.post e hn.symm) (.lst g1 g2 g3)
          · exact h.elim
  · exact h.elim
end Sh
end
section
set_option Elab.async false
set_option linter.all false
set_option maxRecDepth 100000
set_option maxHeartbeats 2000000
namespace Sh
open PySem PySem.Spec PyProof.Rows
open L2 hiding St

/-! ### calls -/
def toArs : List Val → S → Option (List Ar × List Nat)
  | [], _ => some ([], [])
  | v :: vs, st => match toArs vs st with
    | none => none
    | some (as, ns) => match v with
      | .d x => some (.d x :: as, ns)
      | .t ok nm x => some (.t ok nm x :: as, ns)
      | .x _ _ => none
      | .c n => match st.c[n]? with
        | some (.own xs) => if n ∈ ns then none else some (.o xs :: as, n :: ns)
        | some (.frz xs) => some (.d (.lst xs) :: as, ns)
        | none => none
def noT : List Ar → Bool
  | [] => true
  | .t _ _ _ :: _ => false
  | _ :: r => noT r
def updC : List Nat → List Cell → List Cell → List Cell
  | n :: ns, cl :: cs, l => updC ns cs (l.set n cl)
  | _, _, l => l
def backV (r : RV) (ns : List Nat) (st : S) : OE := match r with
  | .d x => .ok (.d x) st
  | .io i => match ns[i]? with
    | some n => .ok (.c n) st
    | none => .bad
  | .new xs => newLst xs st
def afterD (ns : List Nat) (st : S) : RD → OE
  | .ok r cs => backV r ns { st with c := updC ns cs st.c }
  | .exc nm x cs => .exc nm x { st with c := updC ns cs st.c }
  | .bad => .bad
def callV (d : List Ar → RD) (vs : List Val) (st : S) : OE := match toArs vs st with
  | some (as, ns) => if noT as then afterD ns st (d as) else .bad
  | none => .bad
def callVT (d : List Ar → RD) (vs : List Val) (st : S) : OE := match toArs vs st with
  | some (as, ns) => afterD ns st (d as)
  | none => .bad
def tpOf (c : Cn) (m : Fm) : TP := fun f ok nm x => ThkOk c m.s0 m.H0 m.F0 m.outer f ok nm x
section
variable {c : Cn} {m : Fm} {W : WX} {σ : L2.St} {F F1 : Fz} {α α1 : List Addr} {H H1 : Hp} {st st1 : S}
theorem toArs_ok (sr : SR c m st F α σ H) : ∀ {vals : List Val} {vs : List V} {as : List Ar} {ns : List Nat}, VRs c m F α H vals vs → toArs vals st = some (as, ns) →
    ∃ io, ArgsOk c (tpOf c m) F H as vs io ∧ io.length = ns.length ∧ (∀ (i n : Nat), ns[i]? = some n → ∃ a, io[i]? = some a ∧ α[n]? = some a) ∧ ns.Nodup ∧ io.Nodup := by
  intro vals
  induction vals with
  | nil =>
    intro vs as ns r e
    cases r
    cases e
    exact ⟨[], .nil, rfl, fun i n h => by simp at h, .nil, .nil⟩
  | cons val vals ih =>
    intro vs as ns r e
    cases r with
    | @cons _ v _ vs r1 r2 =>
      unfold toArs at e
      cases q : toArs vals st with
      | none => rw [q] at e; cases e
      | some p =>
        obtain ⟨as1, ns1⟩ := p
        rw [q] at e
        obtain ⟨io, h1, h2, h3, h4, h5⟩ := ih r2 q
        simp only at e
        cases val with
        | d x => cases e; exact ⟨io, .d r1 h1, h2, h3, h4, h5⟩
        | x nm y => cases e
        | t ok nm x =>
          cases e
          obtain ⟨f, rfl, hf⟩ := r1
          exact ⟨io, .t hf h1, h2, h3, h4, h5⟩
        | c n =>
          obtain ⟨a, ha, rfl⟩ := r1
          obtain ⟨cl, hc, ck⟩ := sr.cell ha
          simp only [hc] at e
          cases cl with
          | frz xs =>
            cases e
            obtain ⟨g1, us, g2, g3⟩ := ck
            exact ⟨io, .d (.lst g1 g2 g3) h1, h2, h3, h4, h5⟩
          | own xs =>
            simp only at e
            split at e
            · cases e
            · rename_i hn
              cases e
              refine ⟨a :: io, .o ck h1, congrArg (· + 1) h2, fun i k hk => ?_, List.nodup_cons.mpr ⟨hn, h4⟩, List.nodup_cons.mpr ⟨fun z => hn ?_, h5⟩⟩
              · cases i with
                | zero => simp at hk; subst hk; exact ⟨a, rfl, ha⟩
                | succ i =>
                  obtain ⟨b, g1, g2⟩ := h3 i k (by simpa using hk)
                  exact ⟨b, by simpa using g1, g2⟩
              · obtain ⟨i, hi⟩ := List.mem_iff_getElem?.mp z
                have hlt := (List.getElem?_eq_some_iff.mp hi).1
                rw [h2] at hlt
                obtain ⟨b, g1, g2⟩ := h3 i _ (List.getElem?_eq_getElem hlt)
                rw [hi] at g1; cases g1
                rw [nd_at sr.cells.nd ha g2]
                exact List.getElem_mem hlt
theorem updC_len : ∀ (ns : List Nat) (cs l : List Cell), (updC ns cs l).length = l.length
  | [], _, _ => rfl
  | _ :: _, [], _ => rfl
  | n :: ns, cl :: cs, l => by unfold updC; rw [updC_len ns cs, List.length_set]
theorem updC_out : ∀ {ns : List Nat} {cs l : List Cell} {j : Nat}, j ∉ ns → (updC ns cs l)[j]? = l[j]?
  | [], _, _, _, _ => rfl
  | _ :: _, [], _, _, _ => rfl
  | n :: ns, cl :: cs, l, j, h => by
    simp only [List.mem_cons, not_or] at h
    unfold updC
    rw [updC_out h.2, List.getElem?_set_ne (Ne.symm h.1)]
theorem updC_in : ∀ {ns : List Nat} {cs l : List Cell} {i n : Nat}, ns.Nodup → ns.length = cs.length → ns[i]? = some n → n < l.length → ∃ cl, cs[i]? = some cl ∧ (updC ns cs l)[n]? = some cl
  | [], _, _, _, _, _, _, h, _ => by simp at h
  | _ :: _, [], _, _, _, _, h, _, _ => by simp at h
  | k :: ns, cl :: cs, l, i, n, nd, hl, h, hn => by
    obtain ⟨nd1, nd2⟩ := List.nodup_cons.mp nd
    cases i with
    | zero =>
      simp at h; subst h
      refine ⟨cl, rfl, ?_⟩
      unfold updC
      rw [updC_out nd1, List.getElem?_set_self hn]
    | succ i =>
      simp only [List.getElem?_cons_succ] at h ⊢
      unfold updC
      exact updC_in nd2 (by simpa using hl) h (by rw [List.length_set]; exact hn)
theorem SR.called (sr : SR c m st F α σ H) {ns : List Nat} {io : List Addr} {F' : Fz} {H' : Hp} {cs : List Cell} (hl : io.length = ns.length) (hi : ∀ (i n : Nat), ns[i]? = some n → ∃ a, io[i]? = some a ∧ α[n]? = some a) (nd : ns.Nodup) (p : Post c F H io F' H' cs) :
    Evo F α H F' α H' ∧ SR c m { st with c := updC ns cs st.c } F' α σ H' := by
  have sub : ∀ a ∈ io, a ∈ α ∧ ∃ n, n ∈ ns ∧ α[n]? = some a := fun a ha => by
    obtain ⟨i, hi2⟩ := List.mem_iff_getElem?.mp ha
    have hlt := (List.getElem?_eq_some_iff.mp hi2).1
    rw [hl] at hlt
    obtain ⟨b, g1, g2⟩ := hi i _ (List.getElem?_eq_getElem hlt)
    rw [hi2] at g1; cases g1
    exact ⟨List.mem_of_getElem? g2, _, List.getElem_mem hlt, g2⟩
  have evo : Evo F α H F' α H' := ⟨p.ev, List.prefix_rfl, fun _ h => .inl h, ⟨fun b o h n t => p.fr.keep b o h (fun z => n (sub b z).1) t⟩, fun a ha => (p.nF a ha).imp id (Or.imp id fun z => (sub a z).1)⟩
  refine ⟨evo, ⟨sr.len, fun i val h => ?_, ⟨by rw [updC_len]; exact sr.cells.len, sr.cells.nd, fun n a cl ha hc => ?_⟩, sr.pre, sr.loc, p.dom, p.tab, ⟨fun b o h1 h2 h3 => ?_⟩, fun a ha => ?_, fun a ha => p.ev.sub a (sr.old a ha), sr.ioF, sr.ioL, sr.dom0⟩⟩
  · obtain ⟨v, h1, h2⟩ := sr.vars i val h
    exact ⟨v, h1, h2.mono evo⟩
  · by_cases hn : n ∈ ns
    · obtain ⟨i, hin⟩ := List.mem_iff_getElem?.mp hn
      have hlt : n < st.c.length := by rw [← sr.cells.len]; exact (List.getElem?_eq_some_iff.mp ha).1
      obtain ⟨b, g1, g2⟩ := hi i n hin
      rw [ha] at g2; cases g2
      obtain ⟨cl', g3, g4⟩ := updC_in nd (by rw [← hl, p.cells.len]) hin hlt
      rw [g4] at hc; cases hc
      exact p.cells.here i a _ g1 g3
    · rw [updC_out hn] at hc
      have ck := sr.cells.here n a cl ha hc
      have nio : a ∉ io := fun z => by
        obtain ⟨_, k, hk, g⟩ := sub a z
        rw [nd_at sr.cells.nd ha g] at hn
        exact hn hk
      obtain ⟨ws, hw, _⟩ := ck.read
      refine ck.mono p.ev (fun z w => ?_) ((p.fr.keep a _ hw nio fun ps z => nomatch z).trans hw.symm)
      rcases p.nF a w with w | w | w
      · exact z w
      · exact w.lst hw
      · exact nio w
  · have hb := sr.fra.keep b o h1 h2 h3
    refine p.fr.keep b o hb (fun z => ?_) h3
    rcases sr.loc b (sub b z).1 with w | w
    · exact h2 w
    · exact w.no h1 h3
  · rcases p.nF a ha with w | w | w
    · exact sr.new a w
    · exact .inr (.inl (sr.fresh0 w))
    · exact .inr ((sr.loc a (sub a w).1).symm)
/-- behind a call -/
theorem after_ok (sr : SR c m st F α σ H) {ns : List Nat} {io : List Addr} {Q : VK} (hl : io.length = ns.length) (hi : ∀ (i n : Nat), ns[i]? = some n → ∃ a, io[i]? = some a ∧ α[n]? = some a) (nd : ns.Nodup) {r : RD}
    (p : PEo c m W σ F α H Q (afterD ns st r)) : RDo c F H io Q (WE W σ) r := by
  cases r with
  | bad => exact p
  | exc nm x cs =>
    intro C dx v F' H' hm ps hx h0 rp
    obtain ⟨e, s⟩ := sr.called hl hi nd ps
    exact p C dx v F' α H' hm e s hx (sr.fresh0 h0) rp
  | ok r cs =>
    intro v F' H' ps rv
    obtain ⟨e, s⟩ := sr.called hl hi nd ps
    unfold afterD at p
    cases r with
    | d x => exact p v F' α H' e s rv
    | io i =>
      obtain ⟨a, h1, rfl⟩ := rv
      unfold backV at p
      simp only at p
      split at p
      · rename_i n hn
        obtain ⟨b, g1, g2⟩ := hi i n hn
        rw [h1] at g1; cases g1
        exact p _ F' α H' e s ⟨a, g2, rfl⟩
      · exact p.elim
    | new xs =>
      obtain ⟨a, rfl, h0, ck⟩ := rv
      obtain ⟨nF, vs, g1, g2⟩ := ck
      have nα : a ∉ α := fun z => by
        obtain ⟨n, hn⟩ := List.mem_iff_getElem?.mp z
        obtain ⟨cl, _, ck⟩ := sr.cell hn
        obtain ⟨ws, hw, _⟩ := ck.read
        exact h0.lst hw
      refine p (.ref a) F' (α ++ [a]) H' (e.show_ h0) (s.show_ ⟨g1, nα, nF⟩ (sr.fresh0 h0) g2) ⟨a, ?_, rfl⟩
      rw [← s.cells.len, List.getElem?_append_right (Nat.le_refl _), Nat.sub_self]
      rfl
theorem noT_ok {tp tp' : TP} {as : List Ar} {vs : List V} {io : List Addr} (h : ArgsOk c tp F H as vs io) (n : noT as = true) : ArgsOk c tp' F H as vs io := by
  induction h with
  | nil => exact .nil
  | d r _ ih => exact .d r (ih n)
  | o r _ ih => exact .o r (ih n)
  | t r _ ih => cases n
end
/-- the context is c's -/
structure CxA (c : Cn) (X : Cx) : Prop where
  prog : X.prog = c.P
  w : X.w = c.w
  K : X.K = c.K
  mg : X.mg = c.mg
  base : X.base = c.base
/-- and it was entered as m says -/
structure CxM (m : Fm) (X : Cx) : Prop where
  s0 : X.s_0 = m.s0
  H0 : X.H_0 = m.H0
  outer : X.outer = m.outer
  ex : X.ex = []
section
variable {X : Cx} {c : Cn} {m : Fm} {W : WX} {e : Expr} {es : List Expr} {pos p : Pos} {x : Str} {f : Addr} {k : Nat} {d : List Ar → RD} {fd : FuncData} {ps : List Str} {fs : List (S → OE)}
/-- the callee runs -/
theorem run_FnS {pins : List (Addr × Obj)} {s : Shared} {σ : L2.St} {H : Hp} {F : Fz} {Q : VK} {as : List Ar} {vs : List V} {us : List Value} {io : List Addr} (hX : CxA c X) (hf : FnS c k f d) (hr : Room k X.A) (tk : L2N.Takes X W)
    (I : Inv X pins σ H s) (hd : Dom F H) (ht : LamX.Tabs c.T H) (ha : ArgsOk c (ThkOk c s H F X.stack) F H as vs io) (nd : io.Nodup) (hv : Vals vs us) (h : RDo c F H io Q (WE W σ) (d as)) : wpAny (model X.prog X.w) X.A (call (.ref f) us) (EP X pins σ Q) X.xe s := by
  obtain ⟨P, w, K, mg, base, G, T⟩ := c
  obtain ⟨rfl, rfl, rfl, rfl, rfl⟩ := hX
  refine wpAny_call (codeAny_mono (hf X.A X.stack s H F as vs us io Q (WE W σ) hr I.env0 hd ht ha nd hv h) fun r s' hq => ?_)
  cases r with
  | error e => exact L2N.passAt tk σ pins H s e s' I hq
  | ok fl =>
    cases fl with
    | ret u => exact I.after hq
    | next => exact False.elim hq
    | brk => exact False.elim hq
    | cont => exact False.elim hq
theorem i_call (hX : CxA c X) (hf : FnS c k f d) (hm : c.mg x = some (.ref f)) (hr : Room k X.A) (tk : L2N.Takes X W) (ha : PA X (e :: es) (tA c m W (seqE fs))) (hk : PySem.W.keepIn c.K (.ref f) = true := by decide +kernel) (hg : Gl X x := by rfl)
    (hdb : (x == ("__debug__" : Str)) = false := by decide) (he : starEach (e :: es) X.env = (false, eval e X.env) :: starEach es X.env := by rfl) (hpl : (backTo pos (starEach es X.env)).any (·.1) = false := by rfl) :
    PE X (.Call (.Name x p) (e :: es) [] pos) (tI c m W (callE (callV d) fs)) := by
  refine ⟨fun pins s σ H Q I h => ?_⟩
  obtain ⟨st, F, α, sr, h⟩ := h
  have hm' : X.mg x = some (.ref f) := by rw [hX.mg]; exact hm
  refine wpAny_Call_Name_kw (ld_glob I hg hm' ?_ hdb)
  refine PySem.W.callWith_K (h₀ := X.base) I.ok.mod.kin (by rw [hX.K]; exact hk) (thn (ha.run pos pins s σ H (fun vs H1 => ∃ as F1 io, (∀ tp, ArgsOk c tp F1 H1 as vs io) ∧ io.Nodup ∧ Dom F1 H1 ∧ LamX.Tabs c.T H1 ∧ RDo c F1 H1 io Q (WE W σ) (d as)) I ?_) fun us s1 ⟨vs, H1, I1, r, q⟩ => ⟨I1.kIn, ?_⟩) he hpl
  · refine kA pstE sr h fun vs st1 xs F1 α1 H1 _ s1 r1 p1 => ?_
    unfold callV at p1
    split at p1
    · rename_i as ns hq
      split at p1
      · rename_i hn
        obtain ⟨io, h1, h2, h3, h4, h5⟩ := toArs_ok s1 r1 hq
        exact ⟨as, F1, io, fun tp => noT_ok h1 hn, h5, s1.dom, s1.tab, after_ok s1 h2 h3 h4 p1⟩
      · exact p1.elim
    · exact p1.elim
  · obtain ⟨as, F1, io, h1, h2, h3, h4, h5⟩ := q
    exact run_FnS hX hf hr tk I1 h3 h4 (h1 _) h2 r h5
theorem i_call0 (hX : CxA c X) (hf : FnS c k f d) (hm : c.mg x = some (.ref f)) (hr : Room k X.A) (tk : L2N.Takes X W) (hk : PySem.W.keepIn c.K (.ref f) = true := by decide +kernel) (hg : Gl X x := by rfl)
    (hdb : (x == ("__debug__" : Str)) = false := by decide) : PE X (.Call (.Name x p) [] [] pos) (tI c m W (callE (callV d) [])) := by
  refine ⟨fun pins s σ H Q I h => ?_⟩
  obtain ⟨st, F, α, sr, h⟩ := h
  have hm' : X.mg x = some (.ref f) := by rw [hX.mg]; exact hm
  refine wpAny_Call_Name_kw (ld_glob I hg hm' ?_ hdb)
  refine PySem.W.callWith_K0 I.kIn (by rw [hX.K]; exact hk) ?_
  have h : PEo c m W σ F α H Q (afterD [] st (d [])) := h
  exact run_FnS (F := F) (io := []) hX hf hr tk I sr.dom sr.tab .nil .nil .nil (after_ok sr rfl (fun i n h => by simp at h) .nil h)
/-- a thunk of the frame's entry, now -/
theorem thk_now {pins : List (Addr × Obj)} {s : Shared} {σ : L2.St} {H : Hp} {F : Fz} {α : List Addr} {st : S} {g : Addr} {ok : Bool} {nm : Str} {y : D} (hM : CxM m X) (hs : X.stack = X.env :: X.outer) (hfr : X.env.frame = some X.env.locals) (I : Inv X pins σ H s) (sr : SR c m st F α σ H)
    (h : ThkOk c m.s0 m.H0 m.F0 m.outer g ok nm y) : ThkOk c s H F X.stack g ok nm y := by
  obtain ⟨m0, mH, mo, mF, mio, mex⟩ := m
  obtain ⟨rfl, rfl, rfl, hex⟩ := hM
  obtain ⟨k, pins', hk, hp, hfn, hrun⟩ := h
  have nx : ∀ b, b ∉ X.ex := fun b hb => by rw [hex] at hb; cases hb
  refine ⟨k, pins', hk, fun p hpp => ?_, hfn, fun A outer' s' H' F' Q E r e0 hpn ev => hrun A outer' s' H' F' Q E r e0 hpn (sr.ev0.trans ev)⟩
  obtain ⟨h1, h2, h3⟩ := hp p hpp
  refine ⟨I.base.keep _ _ h1 h2 h3 (nx _), I.base.free _ _ h1 h2 (nx _), fun z => ?_⟩
  rw [hs] at z
  obtain ⟨en, he, hq⟩ := List.mem_filterMap.mp z
  rcases List.mem_cons.mp he with rfl | he
  · rw [hfr] at hq
    have hq' := Option.some.inj hq
    have h4 := Nat.lt_of_lt_of_le (Heap.lt_size h1) I.ok.above
    rw [hq'] at h4
    exact absurd h4 (Nat.lt_irrefl _)
  · exact h3 (List.mem_filterMap.mpr ⟨en, he, hq⟩)
/-- a call that may hand thunks on -/
theorem i_callK (hX : CxA c X) (hM : CxM m X) (hs : X.stack = X.env :: X.outer) (hfr : X.env.frame = some X.env.locals) (hf : FnS c k f d) (hm : c.mg x = some (.ref f)) (hr : Room k X.A) (tk : L2N.Takes X W) (ha : PA X (e :: es) (tA c m W (seqE fs))) (hk : PySem.W.keepIn c.K (.ref f) = true := by decide +kernel) (hg : Gl X x := by rfl)
    (hdb : (x == ("__debug__" : Str)) = false := by decide) (he : starEach (e :: es) X.env = (false, eval e X.env) :: starEach es X.env := by rfl) (hpl : (backTo pos (starEach es X.env)).any (·.1) = false := by rfl) :
    PE X (.Call (.Name x p) (e :: es) [] pos) (tI c m W (callE (callVT d) fs)) := by
  refine ⟨fun pins s σ H Q I h => ?_⟩
  obtain ⟨st, F, α, sr, h⟩ := h
  have hm' : X.mg x = some (.ref f) := by rw [hX.mg]; exact hm
  refine wpAny_Call_Name_kw (ld_glob I hg hm' ?_ hdb)
  refine PySem.W.callWith_K (h₀ := X.base) I.ok.mod.kin (by rw [hX.K]; exact hk) (thn (ha.run pos pins s σ H (fun vs H1 => ∃ as F1 io st1 α1, SR c m st1 F1 α1 σ H1 ∧ ArgsOk c (tpOf c m) F1 H1 as vs io ∧ io.Nodup ∧ RDo c F1 H1 io Q (WE W σ) (d as)) I ?_) fun us s1 ⟨vs, H1, I1, r, q⟩ => ⟨I1.kIn, ?_⟩) he hpl
  · refine kA pstE sr h fun vs st1 xs F1 α1 H1 _ s1 r1 p1 => ?_
    unfold callVT at p1
    split at p1
    · rename_i as ns hq
      obtain ⟨io, h1, h2, h3, h4, h5⟩ := toArs_ok s1 r1 hq
      exact ⟨as, F1, io, st1, α1, s1, h1, h5, after_ok s1 h2 h3 h4 p1⟩
    · exact p1.elim
  · obtain ⟨as, F1, io, st1, α1, s1', h1, h2, h3⟩ := q
    exact run_FnS hX hf hr tk I1 s1'.dom s1'.tab (h1.imp fun f ok nm y => thk_now hM hs hfr I1 s1') h2 r h3
/-- x() of a lambda that was handed in -/
def actE (i : Nat) : S → OE := fun st => match st.v[i]? with
  | some (some (.t true _ y)) => .ok (.d y) st
  | some (some (.t false nm y)) => .exc nm y st
  | _ => .bad
theorem i_act {i : Nat} {a : Str} (hX : CxA c X) (hM : CxM m X) (hs : X.stack = X.env :: X.outer) (hfr : X.env.frame = some X.env.locals) (hr : Room 60 X.A) (tk : L2N.Takes X W) (hN : X.N[i]? = some a := by rfl) (hv : Vis X.env.scope a := by first | exact .inl rfl | exact .inr (.inl rfl) | exact .inr (.inr rfl))
    (hd : (a == ("__debug__" : Str)) = false := by decide) (hcd : (a == ("__classdict__" : Str)) = false := by decide) : PE X (.Call (.Name a p) [] [] pos) (tI c m W (actE i)) := by
  refine ⟨fun pins s σ H Q I h => ?_⟩
  obtain ⟨st, F, α, sr, h⟩ := h
  have key : ∀ ok nm y, st.v[i]? = some (some (.t ok nm y)) → PEo c m W σ F α H Q (if ok then .ok (.d y) st else .exc nm y st) → wpAny (model X.prog X.w) X.A (eval (.Call (.Name a p) [] [] pos) X.env) (EP X pins σ Q) X.xe s := by
    intro ok nm y hi h
    obtain ⟨v, h1, g, rfl, h2⟩ := sr.vars i _ hi
    refine wpAny_Call_Name_kw (thn ((pe_var (pos := p) (i := i) hN hv hd hcd).run pins s σ H (fun v H1 => v = .ref g ∧ H1 = H) I ⟨_, h1, rfl, rfl⟩) fun u s1 ⟨v, H1, I1, r1, q1⟩ => ?_)
    obtain ⟨ev, eH⟩ := q1
    subst ev
    rw [eH] at I1
    obtain rfl : u = Value.ref g := r1
    obtain ⟨k, pins', hk, hp, hfn, hrun⟩ := thk_now hM hs hfr I1 sr h2
    refine PySem.W.callWith_F0 (hfn s1.heap fun q hq => (hp q hq).1) ?_
    have e0 := I1.env0
    obtain ⟨P, w, K, mg, base, G, T⟩ := c
    obtain ⟨rfl, rfl, rfl, rfl, rfl⟩ := hX
    refine wpAny_call (codeAny_mono (hrun X.A X.stack s1 H F Q (WE W σ) (hr.mono hk) e0 (fun q hq => ⟨(hp q hq).1, (hp q hq).2.1⟩) .refl sr.dom sr.tab (fun hok v F' H' ev fr dm tb nF r => ?_) (fun hok C dx v F' H' hm ev fr dm tb nF hx h0 r => ?_)) fun r s2 hq => ?_)
    · subst hok
      have hp : Post _ F H [] F' H' [] := ⟨ev, fr, dm, tb, fun a ha => (nF a ha).imp id .inl, ⟨rfl, .nil, fun n a cl z => by simp at z⟩⟩
      obtain ⟨e, s⟩ := sr.called (ns := []) rfl (fun i n z => by simp at z) .nil hp
      exact h v F' α H' e s r
    · subst hok
      have hp : Post _ F H [] F' H' [] := ⟨ev, fr, dm, tb, fun a ha => (nF a ha).imp id .inl, ⟨rfl, .nil, fun n a cl z => by simp at z⟩⟩
      obtain ⟨e, s⟩ := sr.called (ns := []) rfl (fun i n z => by simp at z) .nil hp
      exact h C dx v F' α H' hm e s hx (sr.fresh0 h0) r
    · cases r with
      | error e => exact L2N.passAt tk σ pins H s1 e s2 I1 hq
      | ok fl =>
        cases fl with
        | ret u => exact I1.after hq
        | next => exact False.elim hq
        | brk => exact False.elim hq
        | cont => exact False.elim hq
  unfold actE at h
  split at h
  · rename_i nm y hi
    exact key true nm y hi h
  · rename_i nm y hi
    exact key false nm y hi h
  · exact h.elim
end
end Sh
end
section
set_option Elab.async false
set_option linter.all false
set_option maxRecDepth 100000
set_option maxHeartbeats 2000000
namespace Sh
open PySem PySem.Spec PyProof.Rows
open L2 hiding St

section
variable {c : Cn} {m : Fm} {W : WX} {σ : L2.St} {F F1 : Fz} {α α1 : List Addr} {H H1 : Hp} {st st1 : S}
theorem SR.extN (sr : SR c m st F α σ H) (e : LamX.ExtN H H1) (t : LamX.Tabs c.T H1) : Evo F α H F α H1 ∧ SR c m st F α σ H1 := by
  have k : ∀ b xs, H b = some (.lst xs) → H1 b = some (.lst xs) := fun b xs h => e b _ h fun ps z => nomatch z
  have ev : Ev F H F H1 := by
    refine ⟨fun _ h => h, fun b u f h => ?_, fun b xs h => e b _ h fun ps z => (nomatch z), fun b ob u h => e b _ h fun ps z => (nomatch z), fun b φ h => e b _ h fun ps z => (nomatch z), fun b fs h => e b _ h fun ps z => (nomatch z)⟩
    obtain ⟨xs, hx⟩ := sr.dom b f
    rw [hx] at h; cases h
    exact k b xs hx
  have evo : Evo F α H F α H1 := ⟨ev, List.prefix_rfl, fun _ h => .inl h, ⟨fun b u h _ n => e b u h n⟩, fun _ h => .inl h⟩
  refine ⟨evo, ⟨sr.len, fun i val hi => ?_, ⟨sr.cells.len, sr.cells.nd, fun n a cl ha hc => ?_⟩, sr.pre, sr.loc, fun b hb => ?_, t, ⟨fun b u h1 h2 h3 => e b u (sr.fra.keep b u h1 h2 h3) h3⟩, sr.new, sr.old, sr.ioF, sr.ioL, sr.dom0⟩⟩
  · obtain ⟨v, e1, e2⟩ := sr.vars i val hi
    exact ⟨v, e1, e2.mono evo⟩
  · have ck := sr.cells.here n a cl ha hc
    obtain ⟨vs, h2, _⟩ := ck.read
    exact ck.mono ev (fun z => z) ((k a _ h2).trans h2.symm)
  · obtain ⟨xs, h⟩ := sr.dom b hb
    exact ⟨xs, k b _ h⟩
end
/-- the context of a lambda's body, entered at s from the frames outer -/
def lamN (X : Cx) (A : Around) (outer : List Env) (s : Shared) (H : Hp) (E : XK) (scope : Scope) (f c' : Addr) : Cx :=
  { LamX.lamCx X A outer s H E scope f c' with xe := fun e s' => wpAny (model X.prog X.w) (A.deeper (LamX.lamEnv X scope s.heap.objs.size f c')) (leaving (LamX.lamEnv X scope s.heap.objs.size f c') e) (fun _ s'' => L2N.CX X.prog X.w outer H s E e s'') (fun e' s'' => L2N.CX X.prog X.w outer H s E e' s'') s' }
section
variable {X : Cx} {pins : List (Addr × Obj)} {σ : L2.St} {H HZ : Hp} {s s1 : Shared}
/-- the cells that the lambda holds -/
def CellsAt (X : Cx) (scope : Scope) (s : Shared) (pn : List (Addr × Obj)) : Prop :=
  ∀ y, (y, NameKind.free) ∈ scope.names → ∃ k o v, X.env.cells.lookup y = some k ∧ (k, o) ∈ pn ∧ s.heap.get? k = some o ∧ o.data = .cell v
theorem lam_in {A : Around} {outer : List Env} {E : XK} {scope : Scope} {f c' : Addr} {h₁ : Heap} {tk : Nat} {pn : List (Addr × Obj)} (I : Inv X pins σ H s) (L : LamX.LamS X.env.scope scope) (hc : CellsAt X scope s pn) (hp : ∀ p ∈ pn, s1.heap.get? p.1 = some p.2 ∧ HZ p.1 = none)
    (e0 : Env0 X.prog X.w X.K X.mg X.base A outer s1 HZ) (hd : A.handled = none)
    (hns : h₁.Ns s1.heap.objs.size fun y => ([] : List (Str × Value)).reverse.lookup y) (kp : ∀ b o, s1.heap.get? b = some o → h₁.get? b = some o) :
    Inv (lamN X A outer s1 HZ E scope f c') [] σ HZ { s1 with heap := h₁, toks := tk } := by
  have hfree := L.has I.ok
  -- the lambda's cells are the maker's
  have cm : ∀ {y k}, (cloFrom X.env.cells scope.names []).lookup y = some k → (y, NameKind.free) ∈ scope.names ∧ X.env.cells.lookup y = some k := fun {y k} e => by
    rcases cloFrom_mem (PySem.mem_of_lookup e) with hm | ⟨h1, h2⟩
    · cases hm
    · obtain ⟨k1, q⟩ := hfree _ h1 rfl
      have q : X.env.cells.lookup y = some k1 := q
      rw [h2, q]
      exact ⟨h1, rfl⟩
  have back : ∀ {y}, (y, NameKind.free) ∈ scope.names → ∃ k, (cloFrom X.env.cells scope.names []).lookup y = some k := fun {y} hy => mem_lookup (cloFrom_has (cells := X.env.cells) (acc := []) hy)
  have nex : ∀ b : Addr, b ∉ (lamN X A outer s1 HZ E scope f c').ex := fun b z => nomatch (show b ∈ ([] : List Addr) from z)
  have cell1 : ∀ {y k}, (y, NameKind.free) ∈ scope.names → X.env.cells.lookup y = some k → HZ k = none ∧ ∀ w, s.heap.IsCell k w → h₁.IsCell k w := fun {y k} hy e => by
    obtain ⟨k', o, w, e1, e2, e3, e4⟩ := hc y hy
    rw [e] at e1; cases e1
    obtain ⟨g1, g2⟩ := hp _ e2
    refine ⟨g2, fun w' ⟨o', q1, q2⟩ => ?_⟩
    rw [e3] at q1; cases q1
    exact ⟨o, kp _ _ g1, q2⟩
  have ok : (lamN X A outer s1 HZ E scope f c').Ok :=
    { mod := e0.mod
      kind := L.kind
      glob := rfl
      blt := rfl
      above := Nat.le_refl _
      inj := fun y z k e1 e2 => I.ok.inj y z k (cm e1).2 (cm e2).2
      has := fun y hy => by
        have hy : scope.names.lookup y = some .cell ∨ scope.names.lookup y = some .free := hy
        rcases hy with hy | hy
        · exact absurd rfl (L.own _ (PySem.mem_of_lookup hy)).2
        · exact back (PySem.mem_of_lookup hy)
      cab := fun y k z => by
        have z : false = true := z
        cases z
      hd := fun _ => hd
      frames := Around.frames_deeper e0.frames
      stk := .inr ⟨rfl, rfl⟩
      exf := fun b z => (nex b z).elim
      bs := e0.bs
      bsz := e0.bsz
      noex := fun b _ _ => nex b
      exfs := fun b z => (nex b z).elim
      funs := e0.funs
      frf := e0.frf }
  refine { ok := ok, os := rfl, bare := e0.bare, base := Un.kept kp, loc := ⟨_, hns, fun i y v e1 e2 e3 => ?_⟩, cell := fun y k e => ?_, free := e0.hok.fresh (Nat.le_refl _), freeC := fun y k e => ?_, pin := fun q hq => ?_, hok := e0.hok.kept kp, len := I.len }
  · have e3 : Vis scope y := e3
    rcases e3 with k | k | k
    · exact absurd rfl (L.own _ (PySem.mem_of_lookup k)).1
    · exact absurd rfl (L.own _ (PySem.mem_of_lookup k)).2
    · have hy := PySem.mem_of_lookup k
      have hvis : X.env.scope.names.lookup y = some .cell ∨ X.env.scope.names.lookup y = some .free := L.free _ hy rfl
      obtain ⟨mm, hn, hl⟩ := I.loc
      obtain ⟨u, r, q⟩ := hl i y v e1 e2 (.inr hvis)
      obtain ⟨k2, h2⟩ := back hy
      refine ⟨u, r, .inr ⟨.inr k, k2, h2, ?_⟩⟩
      obtain ⟨_, c1⟩ := cm h2
      rcases q with ⟨k', _⟩ | ⟨_, k3, e', z⟩
      · have k' : X.env.scope.names.lookup y = some .local := k'
        rcases hvis with z | z <;> rw [z] at k' <;> cases k'
      · rw [c1] at e'
        cases e'
        exact (cell1 hy c1).2 _ z
  · obtain ⟨hy, e2⟩ := cm e
    obtain ⟨w', z⟩ := I.cell y k e2
    exact ⟨w', (cell1 hy e2).2 _ z⟩
  · obtain ⟨hy, e2⟩ := cm e
    exact (cell1 hy e2).1
  · exact nomatch (show q ∈ ([] : List (Addr × Obj)) ++ [] from hq)
end

/-! ### x(lambda: body, ..) -/
def frzL : List Nat → S → Option (List D × S)
  | [], st => some ([], st)
  | i :: is, st => match st.v[i]? with
    | some (some v) => match toD v st with
      | some (x, st1) => match frzL is st1 with
        | some (xs, st2) => some (x :: xs, st2)
        | none => none
      | none => none
    | _ => none
def capV (nl : Nat) : List Nat → List D → List (Option Val)
  | i :: is, x :: xs => (capV nl is xs).set i (some (.d x))
  | _, _ => List.replicate nl none
def thkOf (fb : S → OE) (nl : Nat) (caps : List Nat) (xs : List D) : Option (Bool × Str × D) := match fb { v := capV nl caps xs, c := [] } with
  | .ok v st => match toD v st with
    | some (y, _) => some (true, "", y)
    | none => none
  | .exc nm y _ => some (false, nm, y)
  | .bad => none
def lamE (d : List Ar → RD) (caps : List Nat) (fb : S → OE) (fs : List (S → OE)) : S → OE := fun st => match frzL caps st with
  | none => .bad
  | some (xs, st1) => match thkOf fb st.v.length caps xs with
    | none => .bad
    | some (ok, nm, y) => (seqE fs st1).bind fun vs st2 => match toArs vs st2 with
      | some (as, ns) => if noT as then afterD ns st2 (d (.t ok nm y :: as)) else .bad
      | none => .bad
section
variable {c : Cn} {m : Fm} {W : WX} {σ : L2.St} {F F1 : Fz} {α α1 : List Addr} {H H1 : Hp} {st st1 : S}
theorem frzL_ok : ∀ {caps : List Nat} {F : Fz} {st st1 : S} {xs : List D}, SR c m st F α σ H → frzL caps st = some (xs, st1) → ∃ F', Evo F α H F' α H ∧ SR c m st1 F' α σ H ∧ st1.v = st.v ∧ ∃ vs, (∀ (j i : Nat), caps[j]? = some i → ∃ v, vs[j]? = some v ∧ σ[i]? = some (some v)) ∧ Reps c F' H xs vs ∧ xs.length = caps.length
  | [], F, st, st1, xs, sr, e => by
    cases e
    exact ⟨F, .refl, sr, rfl, [], fun j i h => by simp at h, .nil, rfl⟩
  | i :: is, F, st, st1, xs, sr, e => by
    unfold frzL at e
    split at e
    · rename_i v hv
      split at e
      · rename_i x st2 hx
        split at e
        · rename_i ys st3 hy
          cases e
          obtain ⟨u, hu, ru⟩ := sr.vars i v hv
          obtain ⟨F1, e1, s1, r1, v1⟩ := toD_ok sr ru hx
          obtain ⟨F2, e2, s2, v2, vs, h1, h2, h3⟩ := frzL_ok s1 hy
          refine ⟨F2, e1.trans e2, s2, v2.trans v1, u :: vs, fun j k hj => ?_, .cons (Rep.mono e2.ev r1) h2, congrArg (· + 1) h3⟩
          cases j with
          | zero => simp at hj; subst hj; exact ⟨u, rfl, hu⟩
          | succ j => exact h1 j k (by simpa using hj)
        · cases e
      · cases e
    · cases e
theorem capV_len (nl : Nat) : ∀ (caps : List Nat) (xs : List D), (capV nl caps xs).length = nl
  | [], _ => by simp [capV]
  | _ :: _, [] => by simp [capV]
  | i :: is, x :: xs => by simp [capV, capV_len nl is xs]
theorem capV_get (nl : Nat) : ∀ (caps : List Nat) (xs : List D) (i : Nat) (val : Val), (capV nl caps xs)[i]? = some (some val) → ∃ (j : Nat) (x : D), caps[j]? = some i ∧ xs[j]? = some x ∧ val = .d x
  | [], xs, i, val, h => by
    simp only [capV, List.getElem?_replicate] at h
    split at h <;> cases h
  | _ :: _, [], i, val, h => by
    simp only [capV, List.getElem?_replicate] at h
    split at h <;> cases h
  | k :: is, x :: xs, i, val, h => by
    simp only [capV, List.getElem?_set] at h
    split at h
    · rename_i hk
      subst hk
      split at h
      · cases h
        exact ⟨0, x, rfl, rfl, rfl⟩
      · cases h
    · obtain ⟨j, y, h1, h2, h3⟩ := capV_get nl is xs i val h
      exact ⟨j + 1, y, by simpa using h1, by simpa using h2, h3⟩
end
section
variable {X : Cx} {c : Cn} {m : Fm} {W : WX} {e : Expr} {es : List Expr} {pos p lpos : Pos} {x : Str} {f cc P : Addr} {k : Nat} {d : List Ar → RD} {fs : List (S → OE)}
/-- the cells' records, now -/
theorem cells_now {pins : List (Addr × Obj)} {s : Shared} {σ : L2.St} {H : Hp} {scope : Scope} (I : Inv X pins σ H s) (L : LamX.LamS X.env.scope scope) (hfn : ∀ y, X.fn y = true) :
    ∃ pn : List (Addr × Obj), CellsAt X scope s pn ∧ ∀ p ∈ pn, s.heap.get? p.1 = some p.2 ∧ H p.1 = none ∧ p.1 ∉ frs X.stack := by
  refine ⟨scope.names.filterMap fun y => (X.env.cells.lookup y.1).bind fun k => match s.heap.get? k with
    | some o => match o.data with
      | .cell _ => some (k, o)
      | _ => none
    | none => none, fun y hy => ?_, fun q hq => ?_⟩
  · obtain ⟨k, hk⟩ := L.has I.ok _ hy rfl
    have hk : X.env.cells.lookup y = some k := hk
    obtain ⟨v, o, ho, hd⟩ := I.cell y k hk
    refine ⟨k, o, v, hk, List.mem_filterMap.mpr ⟨_, hy, ?_⟩, ho, hd⟩
    simp only [hk, Option.bind, ho, hd]
  · obtain ⟨y, hy, e⟩ := List.mem_filterMap.mp hq
    cases hk : X.env.cells.lookup y.1 with
    | none => rw [hk] at e; cases e
    | some k =>
      rw [hk] at e
      simp only [Option.bind] at e
      split at e
      · rename_i o ho
        split at e
        · rename_i w hd
          cases e
          refine ⟨ho, I.freeC _ _ hk, fun z => ?_⟩
          rcases List.mem_cons.mp (I.stkSub _ z) with z | z
          · have z : k = X.env.locals := z
            obtain ⟨_, ⟨o2, es2, ep2, q1, q2, _⟩, _⟩ := I.loc
            rw [← z, ho] at q1; cases q1
            rw [hd] at q2; cases q2
          · obtain ⟨_, o2, q1, _⟩ := I.ok.funs.mem z
            exact absurd (Nat.lt_of_lt_of_le (Heap.lt_size q1) (I.ok.cab _ _ (hfn _) hk)) (Nat.lt_irrefl _)
        · cases e
      · cases e
theorem i_lam {params : Arguments} {body : Expr} {scope : Scope} {caps : List Nat} {fb : S → OE} (hX : CxA c X) (hfx : ∀ y, X.fn y = true) (hf : FnS c k f d) (hm : c.mg x = some (.ref f)) (hr : Room k X.A) (tk : L2N.Takes X W) (TB : LamX.TabB c.base c.mg cc P) (hcode : X.env.code = .ref cc)
    (hmT : (P, X.env.qual ++ "<lambda>") ∈ c.T) (hu : ∀ q ∈ c.T, q.1 = P → q.2 = X.env.qual ++ "<lambda>") (L : LamX.LamS X.env.scope scope)
    (hbody : ∀ (A : Around) (outer : List Env) (s : Shared) (H : Hp) (F : Fz) (E : XK) (f c' : Addr), Room 59 (A.deeper (LamX.lamEnv X scope s.heap.objs.size f c')) → L2N.Takes (lamN X A outer s H E scope f c') (fun cls d _ H => E cls d H) →
      PE (lamN X A outer s H E scope f c') body (tI c ⟨s, H, outer, F, [], none⟩ (fun cls d _ H => E cls d H) fb))
    (ha : PA X es (tA c m W (seqE fs)))
    (hdef : defaultsOf params X.env = ([], []) := by rfl)
    (hbind : ∀ (q : Str) (cl : List (Str × Addr)) (pm cv ctv : Value), bindArgs (PySem.W.kla_fn "<lambda>" q params body scope cl pm cv ctv) ⟨[], []⟩ = pure [] := by intros; rfl)
    (hk : PySem.W.keepIn c.K (.ref f) = true := by decide +kernel) (hg : Gl X x := by rfl)
    (hdb : (x == ("__debug__" : Str)) = false := by decide) (he : starEach (.Lambda params body scope lpos :: es) X.env = (false, eval (.Lambda params body scope lpos) X.env) :: starEach es X.env := by rfl) (hpl : (backTo pos (starEach es X.env)).any (·.1) = false := by rfl) :
    PE X (.Call (.Name x p) (.Lambda params body scope lpos :: es) [] pos) (tI c m W (lamE d caps fb fs)) := by
  refine ⟨fun pins s σ H Q I h => ?_⟩
  obtain ⟨st, F, α, sr, h⟩ := h
  obtain ⟨P0, w, K, mg, base, G, T⟩ := c
  obtain ⟨rfl, rfl, rfl, rfl, rfl⟩ := hX
  unfold lamE at h
  split at h
  · exact h.elim
  rename_i xs st1 hz
  split at h
  · exact h.elim
  rename_i ok nm y ht
  obtain ⟨F1, e1, s1, hv, vs, hvs, rvs, hlen⟩ := frzL_ok sr hz
  replace h := PEo.evo e1 h
  refine wpAny_Call_Name_kw (ld_glob I hg hm ?_ hdb)
  refine PySem.W.callWith_K (h₀ := X.base) I.ok.mod.kin hk ?_ he hpl
  rw [he]
  show wpAny _ _ (spliced ((false, eval (.Lambda params body scope lpos) X.env) :: backTo pos (starEach es X.env))) _ _ s
  refine Calls.spliced_cons (LamX.lam_make2 I TB hcode hmT hu sr.tab hdef (L.has I.ok) fun g c' pm' ctv H1 s' I1 eN T1 hg' hgn hgr hco => ?_)
  obtain ⟨e2, s2⟩ := s1.extN eN T1
  have I2 : Inv X ((g, PySem.W.kla_obj "<lambda>" (X.env.qual ++ "<lambda>") params body scope (cloFrom X.env.cells scope.names []) pm' c' ctv) :: pins) σ H1 s' := I1.pins_of fun q hq => by
    rcases List.mem_cons.mp hq with rfl | hq
    · refine ⟨hg', hgn, fun z => ?_, fun z => hgr ?_, fun v z => ?_⟩
      · obtain ⟨_, ⟨o2, es2, ep2, q1, q2, _⟩, _⟩ := I1.loc
        have z : g = X.env.locals := z
        rw [← z, hg'] at q1; cases q1
        cases q2
      · have z : g ∈ frs X.outer := z
        rcases I1.ok.stk with e | ⟨e, _⟩
        · rw [e]; exact z
        · rw [e]
          obtain ⟨en, h1, h2⟩ := List.mem_filterMap.mp z
          exact List.mem_filterMap.mpr ⟨en, List.mem_cons_of_mem _ h1, h2⟩
      · cases z
    · exact I1.pin q (List.mem_append_right _ hq)
  refine thn (ha.run pos _ s' σ H1 (fun ws H3 => ∃ as F3 io st3 α3, Evo F1 α H1 F3 α3 H3 ∧ SR (⟨X.prog, X.w, X.K, X.mg, X.base, G, T⟩ : Cn) m st3 F3 α3 σ H3 ∧ (∀ tp, ArgsOk (⟨X.prog, X.w, X.K, X.mg, X.base, G, T⟩ : Cn) tp F3 H3 as ws io) ∧ io.Nodup ∧ RDo (⟨X.prog, X.w, X.K, X.mg, X.base, G, T⟩ : Cn) F3 H3 io Q (WE W σ) (d (.t ok nm y :: as))) I2 ?_) fun us s3 ⟨ws, H3, I3, r3, q3⟩ => ?_
  · refine kA pstE s2 (PEo.evo e2 h) fun vs st3 ws F3 α3 H3 e3 s3 r1 p1 => ?_
    split at p1
    · rename_i as ns hq
      split at p1
      · rename_i hn
        obtain ⟨io, h1, h2, h3, h4, h5⟩ := toArs_ok s3 r1 hq
        exact ⟨as, F3, io, st3, α3, e3, s3, fun tp => noT_ok h1 hn, h5, after_ok s3 h2 h3 h4 p1⟩
      · exact p1.elim
    · exact p1.elim
  · obtain ⟨as, F3, io, st3, α3, e3, s3', h1, h2, h3⟩ := q3
    have I3' : Inv X pins σ H3 s3 := I3.pins_of fun q hq => I3.pin q (List.mem_append_right _ (List.mem_cons_of_mem _ hq))
    refine ⟨I3.kIn, ?_⟩
    obtain ⟨pn, hcells, hpn⟩ := cells_now I3' L hfx
    have pg := I3.pin _ (List.mem_append_right _ List.mem_cons_self)
    have hco3 := e3.ev.exts _ _ hco
    refine run_FnS (c := ⟨X.prog, X.w, X.K, X.mg, X.base, G, T⟩) ⟨rfl, rfl, rfl, rfl, rfl⟩ hf hr tk I3' s3'.dom s3'.tab (.t ⟨60, ((g, PySem.W.kla_obj "<lambda>" (X.env.qual ++ "<lambda>") params body scope (cloFrom X.env.cells scope.names []) pm' c' ctv) : Addr × Obj) :: pn, Nat.le_refl _, fun q hq => ?_, fun hh hq => ⟨_, _, _, _, hq _ List.mem_cons_self⟩, ?_⟩ (h1 _)) h2 (.cons rfl r3) h3
    · rcases List.mem_cons.mp hq with rfl | hq
      · refine ⟨pg.1, pg.2.1, fun z => ?_⟩
        rcases List.mem_cons.mp (I3.stkSub _ z) with z | z
        · exact pg.2.2.1 z
        · exact pg.2.2.2.1 z
      · exact hpn q hq
    · intro A outer' s4 H4 F4 Q' E r e0 hp4 ev dm tb k1 k2
      have hco4 := ev.exts _ _ hco3
      obtain ⟨⟨oc, ov, t, hoc, hdc, hvc⟩, _, _⟩ := e0.hok c' _ hco4
      refine PySem.W.kla_callFunE r.depth (hp4 _ List.mem_cons_self).1 rfl L.co L.gen rfl ⟨c', oc, ov, t, rfl, hoc, hdc, hvc⟩ ?_
      rw [hbind]
      have nl : s4.heap.NoLimit := e0.mod.nolimit.keeps fun b o e => (e0.bs b o e).1
      refine wpAny_pure (wpAny_newFunctionEnv (fun y hy => (L.own y hy).2) (fun y hy => absurd hy (by simp)) (fun h₁ hns hsb => ⟨nl.fresh _ hsb, ?_⟩) L.kind)
      show codeAny _ _ (.expr body (LamX.lamEnv X scope s4.heap.objs.size g c')) _ _
      have kp : ∀ b o, s4.heap.get? b = some o → h₁.get? b = some o := fun b o e => hsb.extBut b o (Nat.ne_of_lt (Heap.lt_size e)) (Heap.get?_push_of_some _ e)
      have J : Inv (lamN X A outer' s4 H4 E scope g c') [] σ H4 { s4 with heap := h₁, toks := s4.toks + ([] : List (Str × Value)).length } :=
        lam_in I3' L hcells (fun q hq => hp4 q (List.mem_cons_of_mem _ hq)) e0 r.hd hns kp
      have rv4 := Reps.mono ev (Reps.mono e3.ev (Reps.mono e2.ev rvs))
      have sr4 : SR ⟨X.prog, X.w, X.K, X.mg, X.base, G, T⟩ ⟨s4, H4, outer', F4, [], none⟩ { v := capV st.v.length caps xs, c := [] } F4 [] σ H4 := by
        refine ⟨by rw [capV_len]; exact sr.len, fun i val hi => ?_, ⟨rfl, .nil, fun n a cl z => by simp at z⟩, List.prefix_rfl, fun a z => (nomatch z), dm, tb, .refl, fun a z => .inl z, fun a z => z, fun a z => (nomatch z), fun a z => (nomatch z), dm⟩
        obtain ⟨j, x, q1, q2, rfl⟩ := capV_get _ _ _ _ _ hi
        obtain ⟨v, q3, q4⟩ := hvs j i q1
        obtain ⟨v', q5, q6⟩ := rv4.get q2
        rw [q3] at q5; cases q5
        exact ⟨v, q4, q6⟩
      refine PySem.W.kla_codeExpr (wpAny_mono ((hbody A outer' s4 H4 F4 E g c' (r.deeper _) (L2N.takes_of rfl rfl rfl rfl)).run [] _ _ H4 Q' J ⟨_, F4, [], sr4, ?_⟩) (fun v s' hq => ?_) fun e s' hq => hq)
      · unfold thkOf at ht
        generalize fb { v := capV st.v.length caps xs, c := [] } = o at ht ⊢
        cases o with
        | bad => cases ht
        | exc nm' y' st' =>
          cases ht
          intro C dx v F' α' H' hm e s hx h0 r
          exact k2 rfl C dx v F' H' hm e.ev e.fr s.dom s.tab (fun a ha => (e.nF a ha).imp id fun z => z.resolve_right fun w => nomatch w) hx h0 r
        | ok v st' =>
          simp only at ht
          split at ht
          · rename_i y' st5 hy
            cases ht
            intro x F' α' H' e s r
            obtain ⟨F5, e5, s5, r5, _⟩ := toD_ok s r hy
            have e6 := e.trans e5
            exact k1 rfl x F5 H' e6.ev e6.fr s5.dom s5.tab (fun a ha => (e6.nF a ha).imp id fun z => z.resolve_right fun w => nomatch w) r5
          · cases ht
      · obtain ⟨w', H', J', rv, q⟩ := hq
        exact ⟨w', H', J'.os, J'.bare, J'.base, J'.hok, rv, q⟩
end
end Sh
end
section
set_option Elab.async false
set_option linter.all false
set_option maxRecDepth 100000
set_option maxHeartbeats 2000000
namespace Sh
open PySem PySem.Spec PyProof.Rows
open L2 hiding St

/-! ### a list comprehension while an exception is handled -/
section
variable {prog : Program} {w : World} {A : Around} {E : Value → Shared → Prop} {s : Shared}
open PyProof.Rows in
theorem next_end_hot {it l x1 : Addr} {i : Nat} {items : Array Value} {Q : Option Value → Shared → Prop} (hot : HotX.HotAt A x1 s.heap) (hit : s.heap.IsListIter it l i) (hl : s.heap.IsList l items) (hx : items[i]? = none) (n1 : x1 ≠ it)
    (hQ : ∀ h', Heap.ExtBut it s.heap h' → Q none { s with heap := h' }) : wpAny (model prog w) A (pyNext (.ref it)) Q E s := by
  obtain ⟨o, ho, hc, hd⟩ := id hit
  obtain ⟨ol, hol, _, nl, hdl⟩ := hl
  obtain ⟨hh, o1, vs1, h1, d1, c1⟩ := hot
  unfold pyNext; refine wpAny_bind (wpAny_attempt (wpAny_callSpecial?_slot (name := Str.ofString "__next__") hit.typeIs slot_listiter_next (wpAny_call_entry slot_listiter_next hit.typeIs entry_listiter_next ?_ (args_listiter_next _))))
  show wpAny _ _ (field (.ref it) 0 >>= _) _ _ s; refine wpAny_bind (wpAny_field ho hd (x := .ref l) rfl ?_)
  show wpAny _ _ (if (Value.ref l == Value.none) = true then _ else _) _ _ s; rw [if_neg (show ¬ ((Value.ref l == Value.none) = true) from Bool.false_ne_true)]
  show wpAny _ _ (field (.ref it) 1 >>= _) _ _ s; refine wpAny_bind (wpAny_field ho hd (x := .int i 0) rfl ?_)
  show wpAny _ _ (seqItems? (.ref l) >>= _) _ _ s; refine wpAny_bind (wpAny_seqItems hol hdl ?_)
  simp only [Int.toNat_natCast, hx]
  refine wpAny_bind (wpAny_rule (wpAny_bind (wpAny_setField ho hd (by simp) ?_)))
  show wpAny _ _ (newExc (.type "StopIteration") [] >>= _) _ _ _; refine wpAny_bind ?_
  simp only [newExc, newTuple]
  refine wpAny_bind (wpAny_newObj_type ?_ (by size_fits)); refine wpAny_bind (m := firstArgMember _ _) (wpAny_of_eq (a := Value.none) (by first | rfl | (simp only [firstArgMember]; rfl)) ?_)
  refine wpAny_newObj_type ?_ (by size_fits)
  have k1 : (s.heap.update it (Obj.mapFields (·.setIfInBounds 0 Value.none))).get? x1 = some o1 := (Heap.get?_update_other _ _ (Ne.symm n1)).trans h1
  refine HotX.raiseNew_hot (x1 := x1) ⟨hh, o1, vs1, Heap.get?_push_of_some _ (Heap.get?_push_of_some _ k1), d1, c1⟩ (Nat.ne_of_lt (Heap.lt_size (Heap.get?_push_of_some _ k1))) (Heap.get?_push_size _ rfl) rfl (by first | (simp; done) | (simp; omega) | (simp only [Array.size_append]; simp; omega)) ?_
  refine wpAny_bind (wpAny_isInstance (T := "StopIteration") (b := true) ⟨_, Heap.get?_update_self _ (Heap.get?_push_size _ rfl) rfl, rfl⟩ isSubtype_stop ?_)
  refine wpAny_pure (hQ _ fun b o hb e => ?_)
  have k2 := (Heap.get?_update_other (b := b) s.heap (Obj.mapFields (·.setIfInBounds 0 Value.none)) (Ne.symm hb)).trans e
  rw [Heap.get?_update_other _ _ (Nat.ne_of_gt (Heap.lt_size (Heap.get?_push_of_some _ k2)))]
  exact Heap.get?_push_of_some _ (Heap.get?_push_of_some _ k2)
end
/-- the handled error's record stands -/
def HotI (X : Cx) : Prop := ∀ (pins : List (Addr × Obj)) (σ : L2.St) (H : Hp) (s : Shared), Inv X pins σ H s → ∃ x1, HotX.HotAt X.A x1 s.heap
theorem hotI_of {X : Cx} (h : L2H.HotC X) : HotI X := fun pins σ H s I => h.at I
section
variable {prog : Program} {w : World} {A : Around} {E : Value → Shared → Prop} {s : Shared}
open PyProof.Rows in
theorem next_tend_hot {it l x1 : Addr} {i : Nat} {items : Array Value} {Q : Option Value → Shared → Prop} (hot : HotX.HotAt A x1 s.heap) (hit : IsTupIter s.heap it l i) (hl : IsTup s.heap l items) (hx : items[i]? = none) (n1 : x1 ≠ it)
    (hQ : ∀ h', Heap.ExtBut it s.heap h' → Q none { s with heap := h' }) : wpAny (model prog w) A (pyNext (.ref it)) Q E s := by
  obtain ⟨o, ho, hc, hd⟩ := id hit
  obtain ⟨ol, hol, _, nl, hdl⟩ := hl
  obtain ⟨hh, o1, vs1, h1, d1, c1⟩ := hot
  have hT : s.TypeIs (.ref it) "tuple_iterator" := ⟨o, ho, hc⟩
  unfold pyNext; refine wpAny_bind (wpAny_attempt (wpAny_callSpecial?_slot (name := Str.ofString "__next__") hT F.slot_tuple_iterator_next (wpAny_call_entry F.slot_tuple_iterator_next hT F.entry_tuple_iterator_next ?_ (F.args_tuple_iterator_next_1 _))))
  show wpAny _ _ (field (.ref it) 0 >>= _) _ _ s; refine wpAny_bind (wpAny_field ho hd (x := .ref l) rfl ?_)
  show wpAny _ _ (if (Value.ref l == Value.none) = true then _ else _) _ _ s; rw [if_neg (show ¬ ((Value.ref l == Value.none) = true) from Bool.false_ne_true)]
  show wpAny _ _ (field (.ref it) 1 >>= _) _ _ s; refine wpAny_bind (wpAny_field ho hd (x := .int i 0) rfl ?_)
  show wpAny _ _ (seqItems? (.ref l) >>= _) _ _ s; refine wpAny_bind (wpAny_seqItems hol hdl ?_)
  simp only [Int.toNat_natCast, hx]
  refine wpAny_bind (wpAny_rule (wpAny_bind (wpAny_setField ho hd (by simp) ?_)))
  show wpAny _ _ (newExc (.type "StopIteration") [] >>= _) _ _ _; refine wpAny_bind ?_
  simp only [newExc, newTuple]
  refine wpAny_bind (wpAny_newObj_type ?_ (by size_fits)); refine wpAny_bind (m := firstArgMember _ _) (wpAny_of_eq (a := Value.none) (by first | rfl | (simp only [firstArgMember]; rfl)) ?_)
  refine wpAny_newObj_type ?_ (by size_fits)
  have k1 : (s.heap.update it (Obj.mapFields (·.setIfInBounds 0 Value.none))).get? x1 = some o1 := (Heap.get?_update_other _ _ (Ne.symm n1)).trans h1
  refine HotX.raiseNew_hot (x1 := x1) ⟨hh, o1, vs1, Heap.get?_push_of_some _ (Heap.get?_push_of_some _ k1), d1, c1⟩ (Nat.ne_of_lt (Heap.lt_size (Heap.get?_push_of_some _ k1))) (Heap.get?_push_size _ rfl) rfl (by first | (simp; done) | (simp; omega) | (simp only [Array.size_append]; simp; omega)) ?_
  refine wpAny_bind (wpAny_isInstance (T := "StopIteration") (b := true) ⟨_, Heap.get?_update_self _ (Heap.get?_push_size _ rfl) rfl, rfl⟩ isSubtype_stop ?_)
  refine wpAny_pure (hQ _ fun b o hb e => ?_)
  have k2 := (Heap.get?_update_other (b := b) s.heap (Obj.mapFields (·.setIfInBounds 0 Value.none)) (Ne.symm hb)).trans e
  rw [Heap.get?_update_other _ _ (Nat.ne_of_gt (Heap.lt_size (Heap.get?_push_of_some _ k2)))]
  exact Heap.get?_push_of_some _ (Heap.get?_push_of_some _ k2)
open PyProof.Rows in
theorem unpackItems_hot {t x1 : Addr} {items : Array Value} {Q : List Value → Shared → Prop} (hot : HotX.HotAt A x1 s.heap) (ht : IsTup s.heap t items)
    (hQ : ∀ h', Heap.ExtBut s.heap.objs.size s.heap h' → Q items.toList { s with heap := h' }) : wpAny (model prog w) A (unpackItems (.ref t) items.size none) Q E s := by
  have hlt : t ≠ s.heap.objs.size := by obtain ⟨o, ho, _⟩ := ht; exact Nat.ne_of_lt (Heap.lt_size ho)
  have hx1 : x1 ≠ s.heap.objs.size := by obtain ⟨_, o, _, ho, _⟩ := hot; exact Nat.ne_of_lt (Heap.lt_size ho)
  unfold unpackItems; refine wpAny_bind ?_
  unfold notIterableAtAll; refine wpAny_bind (wpAny_specialOf ht.typeIs slot_tuple_iter.lookup ?_)
  refine wpAny_pure ?_; simp only [Bool.false_eq_true, if_false]
  refine wpAny_bind (wpAny_holding (iter_tuple ht ?_)); refine wpAny_bind (wpAny_holding (draw_tuple hlt items.size 0 _ _ ⟨_, Heap.get?_push_size _ rfl, rfl, rfl⟩ (ht.push _) (by omega) fun h₁ hit₁ hs₁ => ?_))
  rw [show List.take items.size (List.drop 0 items.toList) = items.toList by rw [List.drop_zero]; exact List.take_of_length_le (by simp), if_neg (by simp)]
  have ht₁ : IsTup h₁ t items := (ht.push _).extBut hs₁.extBut hlt
  have hot₁ : HotX.HotAt A x1 h₁ := by
    obtain ⟨hh, o, vs, e, d, k⟩ := hot
    exact ⟨hh, o, vs, hs₁.extBut x1 o hx1 (Heap.get?_push_of_some _ e), d, k⟩
  refine wpAny_bind (wpAny_holding (next_tend_hot (s := { s with heap := h₁ }) hot₁ hit₁ ht₁ (by simp) hx1 fun h₂ he₂ => ?_)); simp only [Option.isSome_none, Bool.false_eq_true, if_false]
  exact wpAny_pure (hQ h₂ fun b o hb e => he₂ b o hb (hs₁.extBut b o hb (Heap.get?_push_of_some _ e)))
open PyProof.Rows in
theorem assign_hot {env : Env} {elts : List Expr} {x0 : Nat} {pos : Pos} {t x1 : Addr} {items : Array Value} {Q : Unit → Shared → Prop} (hot : HotX.HotAt A x1 s.heap) (ht : IsTup s.heap t items) (hn : (assignEach elts env).length = items.size) (hstar : (assignEach elts env).findIdx? (·.1) = none)
    (h : ∀ h', Heap.ExtBut s.heap.objs.size s.heap h' → wpAny (model prog w) A (assignInOrder ((assignEach elts env).map (·.2)) items.toList) Q E { s with heap := h' }) : wpAny (model prog w) A (assign (.Tuple elts x0 pos) env (.ref t)) Q E s := by
  rw [assign_Tuple]; refine wpAny_bind (wpAny_standAt ?_)
  unfold unpack; rw [hn, hstar]
  exact wpAny_bind (wpAny_holding (unpackItems_hot hot ht h))
end
theorem pg_tupH {X : Cx} {es : List Expr} {k : Nat} {t : TGs} {n : Nat} {pos : Pos} (hot : HotI X) (h : PGs X es t) (hn : (assignEach es X.env).length = n := by rfl) (hst : (assignEach es X.env).findIdx? (·.1) = none := by rfl) : PG X (.Tuple es k pos) (gTup X.K n t) := by
  refine ⟨fun pins s σ H v u Q I r ⟨a, xs, e1, hq, hl, hw⟩ => ?_⟩
  subst e1; cases r
  obtain ⟨its, rv, ht, hz⟩ := I.tuple hq
  obtain ⟨x1, hx1⟩ := hot _ _ _ _ I
  refine assign_hot hx1 ht (by simp [hn, ← hl, rv.length]) hst fun h' hx => ?_
  exact h.run pins _ σ H xs _ Q (I.kept (t' := s.toks) fun b o e => hx b o (Nat.ne_of_lt (Heap.lt_size e)) e) (by simpa using rv) hw
theorem g_tupH {X : Cx} {c : Cn} {m : Fm} {es : List Expr} {pos : Pos} {h : List D → S → Option S} {k n : Nat} {ws : List Nat} (hK : X.K = c.K) (hot : HotI X) (hh : PGs X es (tGs c m ws h)) (hn : (assignEach es X.env).length = n := by rfl) (hst : (assignEach es X.env).findIdx? (·.1) = none := by rfl) : PG X (.Tuple es k pos) (tG c m ws (tupT n h)) :=
  PG_imp (pg_tupH hot hh hn hst) fun v σ H Q ⟨st, F, α, x, sr, r, p⟩ => by
    unfold tupT at p
    cases r with
    | @tup a vs xs q r =>
      simp only at p
      split at p
      · rename_i st1 hq
        split at hq
        · rename_i hl
          rw [hK]
          refine ⟨a, vs, rfl, q, by rw [← r.len]; exact hl, st, F, α, xs, sr, r, ?_⟩
          rw [hq]
          exact p
        · cases hq
      · exact p.elim
    | _ => exact p.elim
section
variable {X : Cx} {σ : L2.St} {H : Hp} {tl te : TE} {g : TG} {tt : TT}
/-- [elt for tg in list if ..], an exception being handled -/
theorem pe_lcH {elt tg l : Expr} {ifs : List Expr} {scope : Scope} {own : List (Str × Nat)} {pos : Pos} (hot : L2H.HotC X) (hN : X.N.Nodup) (hl : PE X l tl) (ok : BlkOk X.N X.env.scope scope own)
    (hg : ∀ s H C cl fp, HotI (X.blk s H scope (compEnvC scope cl C X.env) fp) → PG (X.blk s H scope (compEnvC scope cl C X.env) fp) tg g) (ht : ∀ s H C cl fp, HotI (X.blk s H scope (compEnvC scope cl C X.env) fp) → PTs (X.blk s H scope (compEnvC scope cl C X.env) fp) ifs tt)
    (he : ∀ s H C cl fp, HotI (X.blk s H scope (compEnvC scope cl C X.env) fp) → PE (X.blk s H scope (compEnvC scope cl C X.env) fp) elt te) (hs : ∀ x, foldedSetIterable l X.env x = pure x := by intro _; rfl) :
    PE X (.ListComp elt [⟨tg, l, ifs, 0⟩] scope pos) (tLc (iList X.K tl) g tt te (own.map (·.2))) := by
  refine ⟨fun pins s σ H Q I h => ?_⟩
  rw [eval_ListComp]
  have caps : ∀ y ∈ scope.names, y.2 = .free → ∃ k, X.env.cells.lookup y.1 = some k := fun y hy e => (ok.free y hy e).elim (fun k => I.ok.has _ (.inl k)) fun k => I.ok.has _ (.inr k)
  refine wpAny_comprehension_free (use := none) rfl hs (closure_ok caps) ok.kind (fun y hy e => by rw [ok.uniq y hy, e]) (thn (hl.run pins s σ H _ I h) fun v s1 ⟨x, H1, I1, r1, a, ex, ⟨xs0, hq0⟩, q⟩ => ?_)
  subst ex; cases r1
  obtain ⟨its0, _, pl0, _⟩ := I1.list hq0
  refine wpAny_pyIter_list pl0.isList ?_
  -- the iterator
  generalize hit : s1.heap.objs.size = it
  generalize hs2 : ({ s1 with heap := s1.heap.push { cls := .type "list_iterator", data := .fields #[.ref a, rawInt 0] } } : Shared) = s2
  have e2 : s2.heap = s1.heap.push { cls := .type "list_iterator", data := .fields #[.ref a, rawInt 0] } := by rw [← hs2]
  have I2 : Inv X pins σ H1 s2 := by rw [← hs2]; exact I1.kept (t' := s1.toks) fun b o e => Heap.get?_push_of_some _ e
  have t2 : s2.heap.IsListIter it a 0 := by rw [e2, ← hit]; exact ⟨_, Heap.get?_push_size _ rfl, rfl, rfl⟩
  have fit : FpOk X pins H1 it := by rw [← hit]; exact I1.fpOk (Nat.le_refl _) (I1.hok.fresh (Nat.le_refl _))
  have lit : it < s2.heap.objs.size := by rw [e2, Heap.size_push, hit]; exact Nat.lt_succ_self _
  obtain ⟨x1, hot2⟩ := hot.at I2
  obtain ⟨p1, ⟨hh1, w1, d1, c1⟩, hp1⟩ := hot
  have pin1 := I2.pin p1 (List.mem_append_left _ hp1)
  refine wpAny_newObj_type (newEnv_comp ?_) (by show 0 ≤ sizeLine; decide)
  generalize hD : s2.heap.objs.size = Dl
  have nD : H1 Dl = none := I2.hok.fresh (Nat.le_of_eq hD)
  obtain ⟨Wt, ⟨m0, w0⟩, turn⟩ := q Dl nD
  generalize hs3 : ({ s2 with heap := s2.heap.push { cls := .type "list", data := .seq ([] : List Value).toArray } } : Shared) = s3
  have e3 : s3.heap = s2.heap.push { cls := .type "list", data := .seq ([] : List Value).toArray } := by rw [← hs3]
  generalize hH3 : upd H1 Dl (.lst []) = H3 at w0
  have I3 : Inv X pins σ H3 s3 := by
    rw [← hs3, ← hH3]; exact I2.laid (t' := s2.toks) (fun b o e => Heap.get?_push_of_some _ e) (Nat.le_of_eq hD) ⟨Nat.zero_le _, [], 0, .nil, by rw [← hD]; exact Heap.get?_push_size _ rfl⟩
  have pin3 := I3.pin p1 (List.mem_append_left _ hp1)
  have fit3 : FpOk X pins H3 it := ⟨by rw [← hH3, upd_ne (by rw [← hD]; exact Nat.ne_of_lt lit)]; exact fit.1, fit.2⟩
  have lit3 : it < s3.heap.objs.size := by rw [e3, Heap.size_push]; exact Nat.lt_succ_of_lt lit
  have t3 : s3.heap.IsListIter it a 0 := t2.at fun o e => by rw [e3]; exact Heap.get?_push_of_some _ e
  have I4 := block_start (fp := [it]) I3 ok hN fun b hb => by rw [List.mem_singleton.mp hb]; exact ⟨fit3, lit3⟩
  have nit0 : p1.1 ≠ it := fit3.2.2.2.2.2 p1 (List.mem_append_left _ hp1)
  have hI : HotI (X.blk s3 H3 scope (compEnvC scope (cellsFrom (s3.heap.objs.size + 1) scope.names (cloFrom X.env.cells scope.names [])) s3.heap.objs.size X.env) [it]) := fun pins' σ' H' s' I' => by
    refine ⟨p1.1, hh1, p1.2, w1, I'.base.keep p1.1 p1.2 pin3.1 pin3.2.1 (fun z => ?_) fun z => nit0 (List.mem_singleton.mp z), d1, c1⟩
    rcases List.mem_cons.mp (I3.stkSub _ z) with z | z
    · exact pin3.2.2.1 z
    · exact pin3.2.2.2.1 z
  have pg := hg s3 H3 s3.heap.objs.size (cellsFrom (s3.heap.objs.size + 1) scope.names (cloFrom X.env.cells scope.names [])) [it] hI
  have pt := ht s3 H3 s3.heap.objs.size (cellsFrom (s3.heap.objs.size + 1) scope.names (cloFrom X.env.cells scope.names [])) [it] hI
  have pe := he s3 H3 s3.heap.objs.size (cellsFrom (s3.heap.objs.size + 1) scope.names (cloFrom X.env.cells scope.names [])) [it] hI
  clear hI
  generalize hC : s3.heap.objs.size = C at I4 pg pt pe
  generalize hce : compEnvC scope (cellsFrom (C + 1) scope.names (cloFrom X.env.cells scope.names [])) C X.env = ce at I4 pg pt pe
  have cL : ce.locals = C := by rw [← hce] <;> rfl
  generalize hY : X.blk s3 H3 scope ce [it] = Y at I4 pg pt pe
  have yP : Y.prog = X.prog := by rw [← hY]
  generalize hs4 : ({ s3 with heap := pushCells (s3.heap.push { cls := .type "dict", data := .dict #[] }) scope.names } : Shared) = s4 at I4
  have t4 : s4.heap.IsListIter it a 0 := t3.at fun o e => by rw [← hs4]; exact pushCells_keeps _ _ _ _ (Heap.get?_push_of_some _ e)
  -- the iterator's place, the handled one's
  have stat : ∀ {σ' : L2.St} {H' : Hp} {s' : Shared}, Inv Y [] σ' H' s' → H' it = none → FpOk Y [] H' it := fun {σ' H' s'} I' hn => by
    subst hY
    exact ⟨hn, (I'.ok.exf it List.mem_cons_self).1, I'.ok.exfs it List.mem_cons_self, .inl List.mem_cons_self, fun x c e => (I'.ok.exf it List.mem_cons_self).2 x c e, fun p hp => nomatch (show p ∈ ([] : List (Addr × Obj)) ++ [] from hp)⟩
  have nit : p1.1 ≠ it := fit3.2.2.2.2.2 p1 (List.mem_append_left _ hp1)
  have hotY : ∀ {σ' : L2.St} {H' : Hp} {s' : Shared}, Inv Y [] σ' H' s' → HotX.HotAt X.A p1.1 s'.heap := fun {σ' H' s'} I' => by
    subst hY
    refine ⟨hh1, p1.2, w1, ?_, d1, c1⟩
    refine I'.base.keep p1.1 p1.2 pin3.1 pin3.2.1 (fun z => ?_) fun z => nit (List.mem_singleton.mp z)
    rcases List.mem_cons.mp (I3.stkSub _ z) with z | z
    · exact pin3.2.2.1 z
    · exact pin3.2.2.2.1 z
  have list_at : ∀ {σ' : L2.St} {H' : Hp} {s' : Shared} {ys : List V}, Inv Y [] σ' H' s' → SqL X.K H' a ys → ∃ its : List Value, Vals ys its ∧ PlainL s'.heap a its.toArray := fun {σ' H' s' ys} I' hq => by
    subst hY
    obtain ⟨its, r, p, _⟩ := I'.list hq
    exact ⟨its, r, p⟩
  have inj_at : ∀ {σ' : L2.St} {H' : Hp} {s' : Shared} {ys zs : List V}, Inv Y [] σ' H' s' → SqL X.K H' a ys → SqL X.K H' a zs → ys = zs := fun {σ' H' s' ys zs} I' h1 h2 => by
    subst hY
    exact I'.list_inj h1 h2
  have loop : codeAny (model X.prog X.w) X.A (.compLoop (.ListComp elt [⟨tg, l, ifs, 0⟩] scope pos) 0 (.ref it) (.ref Dl) ce) (compPost (model X.prog X.w) X.A X.xe none (EP X pins σ Q) (.ref Dl) C) s4 := by
    refine compLoop_any (fun n s' => ∃ i H', Inv Y [] (L2.wipe σ (own.map (·.2))) H' s' ∧ s'.heap.IsListIter it a i ∧ H' it = none ∧ Wt i n H') ?_ m0 ⟨0, H3, I4, t4, fit3.1, w0⟩
    rintro n s5 ⟨i, H5, I5, t5, n5, w5⟩
    have fY := stat I5 n5
    rcases turn i n H5 w5 with ⟨⟨ys, hys, hle⟩, qq⟩ | ⟨⟨ys, y, hys, hy⟩, Nx, hNx, step⟩
    · obtain ⟨its, rv, p⟩ := list_at I5 hys
      have hlen := rv.length
      refine next_end_hot (hotY I5) t5 p.isList (by simp; omega) nit fun h' eb => ?_
      have I6 : Inv Y [] (L2.wipe σ (own.map (·.2))) H5 { s5 with heap := h' } := I5.turned (t' := s5.toks) (fun b o hb e => eb b o hb e) fY.1 fY.2.1 fY.2.2.2.1 fY.2.2.2.2.1 fY.2.2.2.2.2
      subst hY
      have I7 : Inv X pins σ H5 { s5 with heap := h' } := I3.call' (ch := [it]) I6.os I6.base I6.hok I6.bare fun b hb => by rw [List.mem_singleton.mp hb]; exact ⟨fit3.2.2.2.1, fit3.2.1, fit3.2.2.2.2.1, fit3.2.2.2.2.2⟩
      have nC : H5 C = none := by rw [← cL]; exact I6.free
      obtain ⟨mm, hn, _⟩ := I6.loc
      have hn : Heap.Ns h' ce.locals mm := hn
      rw [cL] at hn
      refine ⟨mm, hn, fun h'' sb => ?_⟩
      obtain ⟨z0, z1, z2, z3, z4, z5⟩ := I3.fpOk (Nat.le_of_eq hC) nC
      exact ⟨.ref Dl, H5, I7.turned (t' := s5.toks) (fun b o hb e => (sb.2 b hb).trans e) z0 z1 z3 z4 z5, rfl, qq⟩
    · obtain ⟨its, rv, p⟩ := list_at I5 hys
      obtain ⟨u, hu, ru⟩ := rv.get hy
      refine wpAny_pyNext_list_item t5 p.isList (x := u) (by simpa using hu) fun h' t6 sb => ?_
      have I6 : Inv Y [] (L2.wipe σ (own.map (·.2))) H5 { s5 with heap := h' } := I5.turned (t' := s5.toks) (fun b o hb e => (sb.2 b hb).trans e) fY.1 fY.2.1 fY.2.2.2.1 fY.2.2.2.2.1 fY.2.2.2.2.2
      obtain ⟨oi, oe, oc, od⟩ := id t6
      refine go_of (s := { s5 with heap := h' }) oe oc od (by decide) ?_
      have I6' : Inv Y [(it, oi)] (L2.wipe σ (own.map (·.2))) H5 { s5 with heap := h' } := I6.pins_of fun q hq => by
        rw [List.mem_singleton.mp hq]; exact ⟨oe, n5, fY.2.1, fY.2.2.1, fun v z => by rw [od] at z; cases z⟩
      have stp := step y H5 ⟨rfl, fun zs hz => by rw [inj_at I5 hz hys]; exact hy⟩
      subst hY
      refine thnF (pg.run _ _ _ H5 y u _ I6' ru stp) fun _ s8 ⟨σ8, H8, I8, hw8, q8⟩ => ?_
      refine thnF (pt.run _ s8 σ8 H8 _ I8 q8) fun b s9 ⟨H9, I9, q9⟩ => ?_
      have fin : ∀ {s' : Shared} {H' : Hp}, Inv (X.blk s3 H3 scope ce [it]) [(it, oi)] σ8 H' s' → Nx H' → ∃ k, k < n ∧ ∃ i H', Inv (X.blk s3 H3 scope ce [it]) [] (L2.wipe σ (own.map (·.2))) H' s' ∧ s'.heap.IsListIter it a i ∧ H' it = none ∧ Wt i k H' := fun {s' H'} I' nx => by
        obtain ⟨k, hk, w'⟩ := hNx H' nx
        have pz := I'.pin (it, oi) (List.mem_append_right _ List.mem_cons_self)
        have hl8 : (L2.wipe σ (own.map (·.2))).length = σ8.length := by rw [← hw8, wipe_length]
        have I0 : Inv (X.blk s3 H3 scope ce [it]) [] σ8 H' s' := I'.pins_of fun q hq => nomatch hq
        exact ⟨k, hk, i + 1, H', I0.weak hl8 fun j v e => by rw [← hw8] at e; exact (wipe_some e).1, t6.at fun o e => by rw [oe] at e; cases e; exact pz.1, pz.2.1, w'⟩
      cases b with
      | false => exact fin I9 q9
      | true =>
        rw [if_pos rfl] at q9 ⊢
        refine thnF (pe.run _ s9 σ8 H9 _ I9 q9) fun z s10 ⟨yv, H10, I10, r10, acc, hD10, hz10, nx⟩ => ?_
        exact app_ok (X := X.blk s3 H3 scope ce [it]) I10 hD10 hz10 r10 fun s11 I11 => fin I11 nx
  have fin := codeAny_compStart_list loop (wpAny_pyIter_listiter t4 loop)
  subst hs4 hce hC hs3 hD hs2 hit
  exact fin
end
end Sh
end
section
set_option Elab.async false
set_option linter.all false
set_option maxRecDepth 100000
set_option maxHeartbeats 4000000
/-! isinstance of a caught error that has a dict of its own -/
namespace Sh
open PySem PySem.Spec PySem.W PySem.Calls PyProof.Rows
section
variable {prog : Program} {w : World} {A : Around} {E : Value → Shared → Prop} {s : Shared} {K : Frag} {x D : Addr} {ox : Obj} {od : Option Obj}
theorem find_dataD {C : Addr} {name : Str} {a g : Value} (hc : (clsIn K C).isSome = true) (ha : findIn K (.ref C) name = some (some a)) (hg : specialIn K a "__get__" = some (some g)) (ht : takesIn K a = some true) : findObj K C od name = some (.bind g a) := by
  obtain ⟨cd, hc⟩ := Option.isSome_iff_exists.mp hc
  unfold findObj
  rw [hc, Option.bind_some, ha]
  simp only [Option.bind_some, hg, ht]
theorem classD {Q : Option Value → Shared → Prop} (T : L2.ExcC K D) (X : K.In s.heap) (I : InstAt s.heap x ox D od) (h : Q (some (.ref D)) { s with toks := s.toks + 1 }) : wpAny (model prog w) A (getAttr? (.ref x) "__class__") Q E s := by
  have hf : findObj K D od "__class__" = some (.bind (.builtin "getset_descriptor.__get__") (.builtin "object.__class__")) := find_dataD (by obtain ⟨cd, hc, _⟩ := any_some T.hd; rw [hc]; rfl) T.ha T.hn T.ht
  obtain ⟨hp, g, d, t, os⟩ := s
  have Lt := I.type (M := model prog w)
  have Lg := looks_findIn (M := model prog w) X T.hg
  have Lk := looks_findIn (M := model prog w) X T.hk
  have Lf := looks_find (M := model prog w) X I hf
  have Ls : Looks (model prog w) hp (isInstance (.ref x) (.type "BaseException")) true := Lt.andThen (looks_subIn X T.hs)
  have z2 : (Value.builtin "BaseException.__getattribute__" == Value.builtin "object.__getattribute__") = false := by decide +kernel
  have z1 : (onTheHeap (Value.ref D) && Value.builtin "BaseException.__getattribute__" == Value.builtin "object.__getattribute__") = false := by rw [z2]; rfl
  unfold getAttr? getAttrBy? getAttrBy; refine wpAny_bind (wpAny_mkText (wpAny_bind (wpAny_attempt (wpAny_holding (wpAny_bind (Lt.at (wpAny_bind (Lg.at ?_))))))))
  show wpAny _ _ (if (onTheHeap (Value.ref D) && Value.builtin "BaseException.__getattribute__" == Value.builtin "object.__getattribute__") = true then _ else _) _ _ _; rw [z1, if_neg Bool.false_ne_true]
  unfold getAttrByItsOwn hookBefore; refine wpAny_bind ?_
  rw [if_pos (show onTheHeap (Value.ref D) = true from rfl)]; refine Lk.at ?_
  refine wpAny_bind (wpAny_attempt (wpAny_holding ?_)); unfold callGetattribute
  rw [show (false && onTheHeap (Value.builtin "BaseException.__getattribute__")) = false from rfl, if_neg Bool.false_ne_true]
  unfold boundAndCalled; rw [PySem.F.excAttr_ValueError.ga.bind (.ref x)]; refine wpAny_bind (wpAny_pure ?_)
  show wpAny _ _ (call (.builtin "BaseException.__getattribute__") [.ref x, .str "__class__" t]) _ _ _; refine wpAny_call (codeAny_call_builtin PySem.F.excAttr_ValueError.ga.plain PySem.F.entry_bexc_ga ?_)
  refine @check_slot (model prog w) _ _ ⟨hp, g, d, t + 1, os⟩ "BaseException.__getattribute__" "BaseException" "__getattribute__" (.ref x) [.str "__class__" t] [] _ (by decide +kernel) (by decide +kernel) Ls (PySem.F.args_bexc_ga (.ref x) (.str "__class__" t)) ?_
  unfold Builtin.«object.__getattribute__»; refine wpAny_bind (wpAny_of_eq (a := ((Value.ref x : Value), [Value.str "__class__" t])) (by first | rfl | (simp only [slotArgs]; rfl)) ?_)
  refine wpAny_bind (wpAny_pure (wpAny_bind (Lt.at (wpAny_bind (Lf.at ?_)))))
  show wpAny _ _ (holding [Value.builtin "object.__class__"] (call (.builtin "getset_descriptor.__get__") [.builtin "object.__class__", .ref x, .ref D]) >>= ret) _ _ _
  refine wpAny_bind (wpAny_holding (wpAny_call (class_get (s := ⟨hp, g, d, t + 1, os⟩) (ox := ox) (od := od) X I T.hm ?_))); refine wpAny_pure ?_
  show wpAny _ _ (handedOut (.ref D)) _ _ _; rw [handedOut_of (v := .ref D) rfl]
  first
    | exact wpAny_pure (wpAny_pure h)
    | exact wpAny_pure h
    | exact wpAny_pure (wpAny_bind (wpAny_pure (wpAny_pure h)))
theorem kitxD (T : L2.ExcC K D) : KitX K (.ref x) (.ref D) (fun h => InstAt h x ox D od) where
  ty := fun _ _ _ I => I.type
  it := fun _ _ X _ => by
    obtain ⟨cd, hc, _⟩ := any_some T.hd
    unfold clsIn at hc
    split at hc
    · rename_i ho
      intro A' Q' E' s' k q
      unfold isType loadHead; exact wpAny_bind (wpAny_loadPart (k _ _ (X _ _ ho)) (wpAny_pure q))
    · cases hc
  ne := fun h tp dd its n sl X htp => by
    obtain ⟨cd, hc, _⟩ := any_some T.hd
    refine Bool.eq_false_iff.mpr fun q => ?_
    have e : D = tp := Value.ref.inj (beq_iff_eq.mp q); subst e
    unfold clsIn at hc
    split at hc
    · rename_i ho
      cases (X _ _ ho).symm.trans htp
    · cases hc
  ca := fun X I k => classD T X I k
end
end Sh
end
section
set_option Elab.async false
set_option linter.all false
set_option maxRecDepth 100000
set_option maxHeartbeats 4000000
namespace Sh
open PySem PySem.Spec PyProof.Rows
open L2 hiding St

/-! ### an own error with its field what -/
/-- what __init__ promises -/
def spI (K : PySem.W.Frag) : Sp := fun vs H Q E => ∃ (a C : Addr) (v : V), vs = [.ref a, v] ∧ OexC K C ∧ PySem.W.findIn K (.ref C) "what" = some none ∧ H a = some (exo a C none) ∧
  ∀ dx, H dx = none → dx ≠ a → Q .non (upd (upd H dx (exd dx [(("what" : Str), v)])) a (exo a C (some dx)))
structure IniOk (c : Cn) (fI : Addr) : Prop where
  fn : ∃ fd, FnOk c.P c.w c.K c.mg c.base (L2N.CX c.P c.w) 3 fI fd ["self", "what"] (spI c.K) ∧ Binds c.K fd ["self", "what"] []
  ty : PySem.W.typeIn c.K (.ref fI) = some (.type "function")
structure ExOk (c : Cn) (fI C : Addr) : Prop where
  oex : OexC c.K C
  exc : ExcC c.K C
  xf : XfC c.K C
  noW : PySem.W.findIn c.K (.ref C) "what" = some none
  ini : PySem.W.findIn c.K (.ref C) "__init__" = some (some (.ref fI))
section
variable {X : Cx} {c : Cn} {m : Fm} {W : WX} {e : Expr} {es : List Expr} {pos p p2 pos' : Pos} {x : Str} {f : S → OE}
def tIni (K : PySem.W.Frag) : TS := tSeq (tDrop (tVeI K (tCons (tVar 0) (tCons (tVar 1) tNil)))) (tOst K "what" (tVar 0) (tVar 1))
theorem spI_len {K : PySem.W.Frag} : ∀ vs H Q E, spI K vs H Q E → vs.length = (["self", "what"] : List Str).length := fun vs H Q E ⟨a, C, v, e, _⟩ => by rw [e]; rfl
theorem ini_pure {K : PySem.W.Frag} {vs : List V} {H : Hp} {Q : VK} {E : XK} (h : spI K vs H Q E) : tIni K { nx := fun _ H' => Q .non H', rt := Q } (L2.start ["self", "what"] vs) H := by
  obtain ⟨a, C, v, rfl, T, nw, ha, k⟩ := h
  exact ⟨_, rfl, _, rfl, a, C, [v], rfl, Nat.le_of_ble_eq_true rfl, T, ha, _, rfl, _, rfl, a, C, rfl, T, nw, .inl ⟨ha, fun dx n ne => k dx n ne⟩⟩
/-- C(e) is made -/
def tMkN (C : Addr) (ta : TA) : L2.St → Hp → XK → Prop := fun σ H Q => ta σ H fun vs H1 => ∃ v, vs = [v] ∧ ∀ d, H1 d = none → Q (.ref C) (some d) (upd H1 d (.xd [(("what" : Str), v)]))
theorem pmk_N {fI C : Addr} {ta : TA} (hX : CxA c X) (T : ExOk c fI C) (I0 : IniOk c fI) (hr : Room 4 X.A) (hg : Gl X x) (hm : c.mg x = some (.ref C)) (ha : PA X [e] ta)
    (hdb : (x == ("__debug__" : Str)) = false := by decide) (he : starEach [e] X.env = (false, eval e X.env) :: starEach [] X.env := by rfl) (hpl : (backTo pos (starEach [] X.env)).any (·.1) = false := by rfl) :
    L2N.PMk X (.Call (.Name x p) [e] [] pos) (tMkN C ta) := by
  obtain ⟨P, w, K, mg, base, G, TT⟩ := c
  obtain ⟨rfl, rfl, rfl, rfl, rfl⟩ := hX
  intro pins s σ H Q I h
  obtain ⟨nm, q, N, bs, bm, sn, sub, ab, col, dd, k0, k1, k2, k3, k5, hC, hbm⟩ := T.oex.cls
  obtain ⟨⟨fd, F1, hb⟩, tI⟩ := I0
  refine wpAny_Call_Name_kw (ld_glob I hg hm ?_ hdb)
  refine PySem.W.callWith_K (h₀ := X.base) I.ok.mod.kin T.oex.kC (thn (ha.run pos pins s σ H _ I h) fun us s1 ⟨vs, H1, I1, r1, v, ev, q1⟩ => ⟨I1.kIn, ?_⟩) he hpl
  subst ev
  show wpAny _ _ (call (.ref C) us) _ _ _
  obtain ⟨hp, g, dr, tk, os⟩ := s1
  generalize hA : hp.objs.size + 1 = A
  have big : hp.objs.size ≤ A := by rw [← hA]; exact Nat.le_succ _
  have nA : H1 A = none := I1.hok.fresh big
  generalize hh : (hp.push (PySem.W.kdv_tup us)).push (PySem.HandSPX.excO C hp.objs.size) = hp2
  have kk : ∀ b o, hp.get? b = some o → hp2.get? b = some o := fun b o e => by rw [← hh]; exact Heap.get?_push_of_some _ (Heap.get?_push_of_some _ e)
  have hget : hp2.get? A = some (PySem.HandSPX.excO C hp.objs.size) := by rw [← hh, ← hA]; heap_get
  have I2 : Inv X pins σ (upd H1 A (exo A C none)) ⟨hp2, g, dr, tk, os⟩ := I1.laid (t' := tk) (a := A) (o := exo A C none) (h' := hp2) kk big (exo_ok hget)
  have r2 : Vals [V.ref A, v] (Value.ref A :: us) := .cons rfl r1
  have hl : (Value.ref A :: us).length = (["self", "what"] : List Str).length := r2.length.symm
  have hus : us.length ≤ sizeLine := by
    have e1 : us.length + 1 = 2 := hl
    rw [sizeLine_eq]; omega
  have sp : spI X.K [V.ref A, v] (upd H1 A (exo A C none)) (fun z H2 => z = .non ∧ ∃ d, H1 d = none ∧ d ≠ A ∧ H2 = upd (upd (upd H1 A (exo A C none)) d (exd d [(("what" : Str), v)])) A (exo A C (some d))) (fun _ _ _ => False) :=
    ⟨A, C, v, rfl, T.oex, T.noW, upd_same, fun d n ne => ⟨rfl, d, by rw [upd_ne ne] at n; exact n, ne, rfl⟩⟩
  have hbt := hb ⟨hp2, g, dr, tk, os⟩ (Value.ref A :: us) I2.kIn (by rw [List.append_nil]; exact hl)
  rw [List.append_nil] at hbt
  refine wpAny_call (PySem.HandSPX.call_own F.excBase_ValueError (fun Y => PySem.HandSPX.refsVE_contains Y bm hbm) (I1.kIn _ _ hC) (PySem.W.looks_findIn I1.kIn T.ini) (fun self => PySem.W.bind_fn I1.kIn self tI) hus ?_)
  rw [hh, hA]
  refine codeAny_mono (F1.run _ X.stack ⟨hp2, g, dr, tk, os⟩ _ ⟨Value.ref A :: us, []⟩ (Value.ref A :: us) _ _ (fun _ _ _ => False) (hr.make C us []) (I2.env0.make C us []) hbt r2 sp) fun r s' hq' => ?_
  cases r with
  | error er =>
    obtain ⟨_, _, _, _, _, _, _, _, _, _, _, _, z⟩ := hq'
    exact z.elim
  | ok fl =>
    cases fl with
    | ret u =>
      obtain ⟨z, H2, os2, bare2, un2, hok2, rv, ez, d, nd, ne, eH⟩ := hq'
      subst ez
      obtain ⟨h2, g2, d2, t2, os'⟩ := s'
      have ea : H2 A = some (exo A C (some d)) := by rw [eH, upd_same]
      have ed : H2 d = some (exd d [(("what" : Str), v)]) := by rw [eH, upd_ne ne, upd_same]
      obtain ⟨t0, G0, J, kG, ge, hoe, na⟩ := mk_end0 (d2 := d2) (t2 := t2) I1 big kk un2 hok2 os2 bare2 ea ed nd
      refine ⟨rv, A, _, _, ⟨G0, g2, d2, t2, os'⟩, _, .ref C, some d, rfl, J, kG, ge, hoe, ⟨rfl, rfl, fun vs e => by cases e; rfl⟩, rfl, rfl, na, rfl, bare2, raises_own T.oex.exC T.oex.tyC, ?_⟩
      have e2 : upd (del H2 A) d (.xd [(("what" : Str), v)]) = upd H1 d (.xd [(("what" : Str), v)]) := by
        funext b
        by_cases hbd : b = d
        · rw [hbd, upd_same, upd_same]
        · rw [upd_ne hbd, upd_ne hbd]
          by_cases hbA : b = A
          · rw [hbA, del_same, nA]
          · rw [del_ne hbA, eH, upd_ne hbA, upd_ne hbd, upd_ne hbA]
      rw [e2]
      exact q1 d nd
    | next => exact False.elim hq'
    | brk => exact False.elim hq'
    | cont => exact False.elim hq'
def raiseS (nm : Str) (f : S → OE) : S → OS := fun st => (f st).bind fun v st1 => match toD v st1 with
  | some (y, st2) => .exc nm y st2
  | none => .bad
theorem s_raise {fI C : Addr} (hX : CxA c X) (hc : X.calm = true) (T : ExOk c fI C) (I0 : IniOk c fI) (hr : Room 4 X.A) (tk : L2N.Takes X W) (hm : c.mg x = some (.ref C)) (he : PE X e (tI c m W f)) (hg : Gl X x := by rfl)
    (hdb : (x == ("__debug__" : Str)) = false := by decide) (hs : starEach [e] X.env = (false, eval e X.env) :: starEach [] X.env := by rfl) (hpl : (backTo pos (starEach [] X.env)).any (·.1) = false := by rfl) :
    PS X (.Raise (some (.Call (.Name x p) [e] [] pos)) none pos') (tS c m W (raiseS x f)) :=
  PS_imp (L2N.ps_raise hc tk (pmk_N hX T I0 hr hg hm (i_pa_cons he i_pa_nil hs) hdb hs hpl)) fun σ H D ⟨st, F, α, sr, p⟩ => by
    refine kA (f := seqE [f]) (g := fun vs st1 => match vs with
      | [v] => (match toD v st1 with
        | some (y, st2) => .exc x y st2
        | none => .bad : OS)
      | _ => .bad) (pstS (E := D)) sr ?_ fun vs st1 xs F1 α1 H1 e1 s1 r1 p1 => ?_
    · have e : ((seqE [f] st).bind fun vs st1 => match vs with
        | [v] => (match toD v st1 with
          | some (y, st2) => .exc x y st2
          | none => .bad : OS)
        | _ => .bad) = raiseS x f st := by
        unfold raiseS seqE seqE
        cases f st <;> rfl
      rw [e]
      exact p
    · split at p1
      · rename_i v
        cases r1 with
        | cons r1 r2 =>
          cases r2
          split at p1
          · rename_i y st2 hy
            obtain ⟨F2, e2, s2, r2, _⟩ := toD_ok s1 r1 hy
            refine ⟨_, rfl, fun d hd => ?_⟩
            obtain ⟨e3, s3⟩ := s2.newT (o := .xd [(("what" : Str), _)]) hd
            exact p1 σ C d _ F2 α1 _ hm (e2.trans e3) s3 upd_same (s2.fresh0 (.of hd)) (Rep.mono e3.ev r2)
          · exact p1.elim
      · exact p1.elim
end
end Sh
end
section
set_option Elab.async false
set_option linter.all false
set_option maxRecDepth 100000
set_option maxHeartbeats 4000000
namespace Sh
open PySem PySem.Spec PyProof.Rows
open L2 hiding St

/-- the handled error is at hand -/
structure CxE (m : Fm) (X : Cx) : Prop where
  pin : ∀ q, m.ex = some q → q ∈ X.pn ∧ ∃ vs, q.2.data = .fields vs
/-- the own errors: tab tells each class's own bases, itself first -/
structure ClsOk (c : Cn) (fI : Addr) (tab : List (Str × List Str)) : Prop where
  one : ∀ nm C, nm ∈ tab.map (·.1) → c.mg nm = some (.ref C) → ExOk c fI C
  sub : ∀ nm us, (nm, us) ∈ tab → ∀ n2, n2 ∈ tab.map (·.1) → ∀ C C2, c.mg nm = some (.ref C) → c.mg n2 = some (.ref C2) → PySem.W.exmOne c.K (.ref C) (.ref C2) = some (us.contains n2) ∧ PySem.W.kitOne c.K (.ref C) (.ref C2) = some (us.contains n2)
def subN (tab : List (Str × List Str)) (nm n2 : Str) : Option Bool := match tab.find? (fun p => p.1 == nm) with
  | some p => if n2 ∈ tab.map (·.1) then some (p.2.contains n2) else none
  | none => none
theorem subN_in {tab : List (Str × List Str)} {nm n2 : Str} {b : Bool} (h : subN tab nm n2 = some b) : ∃ us, (nm, us) ∈ tab ∧ n2 ∈ tab.map (·.1) ∧ b = us.contains n2 := by
  unfold subN at h
  split at h
  · rename_i p hp
    split at h
    · rename_i hn
      cases h
      have e := List.find?_some hp
      have e1 : p.1 = nm := by simpa using e
      refine ⟨p.2, ?_, hn, rfl⟩
      rw [← e1]
      exact List.mem_of_find?_eq_some hp
    · cases h
  · cases h
section
variable {X : Cx} {c : Cn} {m : Fm} {W : WX} {e : Expr} {es : List Expr} {pos p p2 p3 pos' : Pos} {x n : Str} {f : S → OE} {fI : Addr} {tab : List (Str × List Str)}
/-- a class's name -/
def clsE (x : Str) : S → OE := fun st => .ok (.d (.str x)) st
/-- isinstance(e, C), e the error in slot i -/
def isxE (tab : List (Str × List Str)) (i : Nat) (cn : Str) : S → OE := fun st => match st.v[i]? with
  | some (some (.x nm y)) => match subN tab nm cn with
    | some b => .ok (.d (.bl b)) st
    | none => .bad
  | _ => .bad
def rIsD (X : Cx) (K : PySem.W.Frag) : List V → Hp → VK → Prop := fun xs H Q => ∃ (a C CS d : Addr) (oe : Obj) (fs : List (Str × V)) (b : Bool), xs = [.ref a, .ref CS] ∧ (a, oe) ∈ X.pn ∧ (∃ vs, oe.data = .fields vs) ∧ L2N.Zn (.ref C) (some d) oe ∧ H d = some (.xd fs) ∧
  ExcC K C ∧ PySem.W.kitOne K (.ref C) (.ref CS) = some b ∧ Q (.bl b) H
theorem call_isD : CallR X (.builtin "isinstance") (rIsD X X.K) := by
  intro pins s σ H xs us Q I r h
  obtain ⟨a, C, CS, d, oe, fs, b, rfl, hp, ⟨vs, hv⟩, hz, hd, T, hk, q⟩ := h
  obtain ⟨u1, u2, rfl, r1, r2⟩ := vals2 r
  obtain rfl : u1 = Value.ref a := r1
  obtain rfl : u2 = Value.ref CS := r2
  obtain ⟨hget, _⟩ := I.pin (a, oe) (List.mem_append_left _ hp)
  have hx : ObjOk X.prog X.w H s.heap d (.xd fs) := I.hok d _ hd
  obtain ⟨mA, hns, hr⟩ := hx
  obtain ⟨od, ho, hl⟩ := lookIn_ns hns
  have J : PySem.W.InstAt s.heap a oe C (some od) := ⟨hget, hz.1, by unfold PySem.W.notCls; rw [hv] <;> rfl, by rw [hz.2.1]; exact ho⟩
  exact PySem.W.kia_one (kitxD T) I.kIn J hk (fun z => nomatch z) fun tk => ⟨.bl b, H, I.kept (t' := tk) fun _ _ z => z, rfl, q⟩
theorem i_isx {i : Nat} {ev cn : Str} {CS : Addr} (hX : CxA c X) (hE : CxE m X) (T : ClsOk c fI tab) (hcn : c.mg cn = some (.ref CS)) (hm : c.mg "isinstance" = none) (hN : X.N[i]? = some ev := by rfl) (hv : Vis X.env.scope ev := by first | exact .inl rfl | exact .inr (.inl rfl) | exact .inr (.inr rfl))
    (hg : Gl X "isinstance" := by rfl) (hgc : Gl X cn := by rfl) (hd : (ev == ("__debug__" : Str)) = false := by decide) (hcd : (ev == ("__classdict__" : Str)) = false := by decide) (hdc : (cn == ("__debug__" : Str)) = false := by decide)
    (he : starEach [.Name ev p2, .Name cn p3] X.env = (false, eval (.Name ev p2) X.env) :: starEach [.Name cn p3] X.env := by rfl) (he2 : starEach [.Name cn p3] X.env = (false, eval (.Name cn p3) X.env) :: starEach [] X.env := by rfl) (hpl : (backTo pos (starEach [.Name cn p3] X.env)).any (·.1) = false := by rfl) :
    PE X (.Call (.Name "isinstance" p) [.Name ev p2, .Name cn p3] [] pos) (tI c m W (isxE tab i cn)) := by
  have hmX : X.mg "isinstance" = none := by rw [hX.mg]; exact hm
  have pcn : PE X (.Name cn p3) (tC (.ref CS)) := ⟨fun pins s σ H Q I q => ld_glob I hgc (by rw [hX.mg]; exact hcn) ⟨.ref CS, H, I, rfl, q⟩ hdc⟩
  refine PE_imp (pe_callB (call_isD (X := X)) hg hmX (by rfl) (pa_cons (pe_var hN hv hd hcd) (pa_cons pcn pa_nil he2) he) (by decide) (by decide) he hpl) fun σ H Q ⟨st, F, α, sr, q⟩ => ?_
  unfold isxE at q
  split at q
  · rename_i nm y hi
    split at q
    · rename_i b hb
      obtain ⟨v, h1, a, oe, C, d, u, h2, rfl, h4, h5, h6, h7⟩ := sr.vars i _ hi
      obtain ⟨us, hus, hn2, rfl⟩ := subN_in hb
      obtain ⟨hp, hf⟩ := hE.pin _ h2
      have h3 := T.one nm C (List.mem_map.mpr ⟨_, hus, rfl⟩) h4
      have hk := (T.sub nm us hus cn hn2 C CS h4 hcn).2
      rw [hX.K]
      exact ⟨_, h1, a, C, CS, d, oe, _, _, rfl, hp, hf, h5, h6, h3.exc, hk, q _ F α H .refl sr .bl⟩
    · exact q.elim
  · exact q.elim
/-- e.what, e the error in slot i -/
def whatE (tab : List (Str × List Str)) (i : Nat) : S → OE := fun st => match st.v[i]? with
  | some (some (.x nm y)) => if nm ∈ tab.map (·.1) then .ok (.d y) st else .bad
  | _ => .bad
theorem i_what {i : Nat} {ev : Str} (hX : CxA c X) (hE : CxE m X) (T : ClsOk c fI tab) (hN : X.N[i]? = some ev := by rfl) (hv : Vis X.env.scope ev := by first | exact .inl rfl | exact .inr (.inl rfl) | exact .inr (.inr rfl))
    (hd : (ev == ("__debug__" : Str)) = false := by decide) (hcd : (ev == ("__classdict__" : Str)) = false := by decide) (hb : attributeBase (.Name ev p) "what" X.env (eval (.Name ev p) X.env) = eval (.Name ev p) X.env := by rfl) :
    PE X (.Attribute (.Name ev p) "what" pos) (tI c m W (whatE tab i)) := by
  refine ⟨fun pins s σ H Q I ⟨st, F, α, sr, q⟩ => ?_⟩
  unfold whatE at q
  split at q
  · rename_i nm y hi
    split at q
    · rename_i hin
      obtain ⟨v, h1, a, oe, C, d, u, h2, rfl, h4, h5, h6, h7⟩ := sr.vars i _ hi
      obtain ⟨hp, vs, hf⟩ := hE.pin _ h2
      have h3 := T.one nm C hin h4
      refine attr_of hb (thn ((pe_var (pos := p) hN hv hd hcd).run pins s σ H (fun x H1 => x = .ref a ∧ H1 = H) I ⟨_, h1, rfl, rfl⟩) fun z s1 ⟨x, H1, I1, rx, ex, eH⟩ => ?_)
      subst ex
      rw [eH] at I1
      obtain rfl : z = Value.ref a := rx
      obtain ⟨ha, _⟩ := I1.pin (a, oe) (List.mem_append_left _ hp)
      have hx : ObjOk X.prog X.w H s1.heap d (.xd [(("what" : Str), u)]) := I1.hok d _ h6
      obtain ⟨mA, hns, hr⟩ := hx
      obtain ⟨od, ho, hl⟩ := lookIn_ns hns
      obtain ⟨w', hw, rw'⟩ := RelO.some_of (v := u) (o := mA "what") (hr "what")
      have J : PySem.W.InstAt s1.heap a oe C (some od) := ⟨ha, h5.1, by unfold PySem.W.notCls; rw [hf] <;> rfl, by rw [h5.2.1]; exact ho⟩
      have TK := h3.xf
      have nW := h3.noW
      rw [← hX.K] at TK nW
      exact HandSPX.exc_get I1.kIn J TK.ga TK.gg TK.exC (PySem.W.findObj_own TK.hdC nW rfl (by rw [hl, hw])) (handed_of rw') ⟨u, H, I1.tok _, rw', q u F α H .refl sr h7⟩
    · exact q.elim
  · exact q.elim
/-- 's'.join(texts) -/
def strsOf : List D → Option (List Str)
  | [] => some []
  | .str s :: r => (strsOf r).map (s :: ·)
  | _ :: _ => none
def joinV (v : Val) (vs : List Val) (st : S) : OE := match v, vs with
  | .d (.str a), [w] => match seqOf w st with
    | some xs => match strsOf xs with
      | some ys => if (ys.map (·.length)).sum + ys.length * a.length ≤ 1000000 then .ok (.d (.str (Txt.join a ys))) st else .bad
      | none => .bad
    | none => .bad
  | _, _ => .bad
theorem strs_ok {F : Fz} {H : Hp} : ∀ {xs : List D} {ys : List Str} {vs : List V}, Reps c F H xs vs → strsOf xs = some ys → vs = ys.map V.str
  | [], _, _, .nil, h => by cases h; rfl
  | .str s :: r, ys, _, .cons r1 r2, h => by
    unfold strsOf at h
    cases q : strsOf r with
    | none => rw [q] at h; cases h
    | some zs =>
      rw [q] at h
      cases h
      cases r1
      rw [strs_ok r2 q]
      rfl
  | .non :: _, _, _, _, h => by cases h
  | .bl _ :: _, _, _, _, h => by cases h
  | .int _ :: _, _, _, _, h => by cases h
  | .obj _ :: _, _, _, _, h => by cases h
  | .tup _ :: _, _, _, _, h => by cases h
  | .lst _ :: _, _, _, _, h => by cases h
  | .klst _ :: _, _, _, _, h => by cases h
  | .ty _ :: _, _, _, _, h => by cases h
theorem join_ok : RMt c m W joinV (fun x xs H Q => ∃ a p, ∃ ys : List Str, x = .str a ∧ xs = [.ref p] ∧ (SqL c.K H p (ys.map V.str) ∨ SqT c.K H p (ys.map V.str)) ∧ (ys.map (·.length)).sum + ys.length * a.length ≤ 16777216 ∧ Q (.str (Txt.join a ys)) H) := fun st F α σ H v x va xs Q sr rv ra q => by
  unfold joinV at q
  split at q
  · rename_i a w
    cases rv
    cases ra with
    | cons r1 r2 =>
      cases r2
      split at q
      · rename_i xs hx
        split at q
        · rename_i ys hy
          split at q
          · rename_i hz
            obtain ⟨p, vs, rfl, hs, r⟩ := seqOf_ok sr r1 hx
            rw [strs_ok r hy] at hs
            exact ⟨a, p, ys, rfl, rfl, hs, by omega, q _ F α H .refl sr .str⟩
          · exact q.elim
        · exact q.elim
      · exact q.elim
  · exact q.elim

/-! ### a comprehension in the suite -/
def itLV (v : Val) (st : S) : IO := match v with
  | .d (.tup _) => .bad
  | v => itV v st
def itLE (f : S → OE) : S → IO := fun st => (f st).bind itLV
theorem itL_imp (σ : L2.St) (H : Hp) (R : It → Hp → Prop) (h : tW c m W (itLE f) σ H R) : iList c.K (tI c m W f) σ H R := by
  obtain ⟨st, F, α, sr, q⟩ := h
  refine kE pstW sr q fun v st1 x F1 α1 H1 _ s1 r1 p1 => ?_
  have nt : ∀ xs, v ≠ .d (.tup xs) := fun xs z => by subst z; exact p1
  have p1 : PWo c m W σ F1 α1 H1 R (itV v st1) := by
    unfold itLV at p1
    split at p1
    · exact p1.elim
    · exact p1
  unfold itV at p1
  split at p1
  · rename_i xs hx
    obtain ⟨a, vs, rfl, hs, r⟩ := seqOf_ok s1 r1 hx
    refine ⟨a, rfl, ?_⟩
    rcases seq_later s1 r1 hx with h | h
    · obtain ⟨ws, h1, h2⟩ := h st1 F1 α1 σ H1 .refl s1 (gd0 hx)
      refine ⟨⟨ws, h1⟩, p1 _ F1 α1 H1 .refl s1 fun i st2 F2 α2 σ2 H2 e2 s2 g2 => ?_⟩
      obtain ⟨us, h3, h4⟩ := h st2 F2 α2 σ2 H2 e2 s2 g2
      refine ⟨fun hl => ⟨us, h3, by rw [← h4.len]; exact hl⟩, fun y hy => ?_⟩
      obtain ⟨v, hv, rv⟩ := h4.get hy
      exact ⟨⟨us, v, h3, hv⟩, fun w H' ⟨e, hw⟩ => by
        subst e
        have := hw us h3
        rw [hv] at this; cases this
        exact ⟨.refl, s2, rv⟩⟩
    · exact (nt _ h.1.choose_spec).elim
  · exact p1.elim
end
end Sh
end
section
set_option Elab.async false
set_option linter.all false
set_option maxRecDepth 100000
set_option maxHeartbeats 4000000
namespace Sh
open PySem PySem.Spec PyProof.Rows
open L2 hiding St

section
variable {X : Cx} {c : Cn} {m : Fm} {W : WX} {e : Expr} {es : List Expr} {pos p p2 p3 pos' : Pos} {x n : Str} {f : S → OE} {fI : Addr} {tab : List (Str × List Str)}
theorem i_lcH {elt tg iter : Expr} {ifs : List Expr} {scope : Scope} {own : List (Str × Nat)} {g : D → S → Option S} {t f0 f : S → OE} {ws : List Nat} (hK : X.K = c.K) (hot : L2H.HotC X) (hN : X.N.Nodup) (hi : PE X iter (tI c m W f0)) (ok : BlkOk X.N X.env.scope scope own)
    (hg : ∀ (s : Shared) (H : Hp) (C : Addr) (cl : List (Str × Addr)) (fp : List Addr), HotI (X.blk s H scope (compEnvC scope cl C X.env) fp) → PG (X.blk s H scope (compEnvC scope cl C X.env) fp) tg (tG c m ws g)) (ht : ∀ (s : Shared) (H : Hp) (C : Addr) (cl : List (Str × Addr)) (fp : List Addr), HotI (X.blk s H scope (compEnvC scope cl C X.env) fp) → PTs (X.blk s H scope (compEnvC scope cl C X.env) fp) ifs (tT c m WF t))
    (he : ∀ (s : Shared) (H : Hp) (C : Addr) (cl : List (Str × Addr)) (fp : List Addr), HotI (X.blk s H scope (compEnvC scope cl C X.env) fp) → PE (X.blk s H scope (compEnvC scope cl C X.env) fp) elt (tI c m WF f)) (hw : ∀ i ∈ ws, i ∈ own.map (·.2)) (hs : ∀ x, foldedSetIterable iter X.env x = pure x := by intro _; rfl) :
    PE X (.ListComp elt [⟨tg, iter, ifs, 0⟩] scope pos) (tI c m W (compE (itLE f0) g t f (own.map (·.2)))) := PE_imp (pe_lcH hot hN hi ok hg ht he hs) fun σ H Q h => by
  have h2 := lc_imp (c := c) (m := m) (W := W) hw σ H Q h
  rw [hK]
  exact itL_imp σ H _ h2
/-- no error among the names any more -/
def unx : Option Val → Option Val
  | some (.x _ _) => none
  | v => v
def S.unx (st : S) : S := { st with v := st.v.map Sh.unx }
theorem SR.exUp {q : Addr × Obj} {st : S} {F : Fz} {α : List Addr} {σ : L2.St} {H : Hp} (h0 : m.ex = none) (sr : SR c m st F α σ H) : SR c { m with ex := some q } st F α σ H := by
  refine ⟨sr.len, fun i val hi => ?_, sr.cells, sr.pre, sr.loc, sr.dom, sr.tab, sr.fra, sr.new, sr.old, sr.ioF, sr.ioL, sr.dom0⟩
  obtain ⟨v, h1, h2⟩ := sr.vars i val hi
  refine ⟨v, h1, ?_⟩
  cases val with
  | d x => exact h2
  | c n => exact h2
  | t a b x => exact h2
  | x a y =>
    obtain ⟨a, oe, C, d, u, z, _⟩ := h2
    rw [h0] at z; cases z
theorem SR.exDown {q : Option (Addr × Obj)} {st : S} {F : Fz} {α : List Addr} {σ : L2.St} {H : Hp} (sr : SR c { m with ex := q } st F α σ H) : SR c m st.unx F α σ H := by
  refine ⟨by rw [show st.unx.v = st.v.map Sh.unx from rfl, List.length_map]; exact sr.len, fun i val hi => ?_, sr.cells, sr.pre, sr.loc, sr.dom, sr.tab, sr.fra, sr.new, sr.old, sr.ioF, sr.ioL, sr.dom0⟩
  have hi : (st.v.map Sh.unx)[i]? = some (some val) := hi
  rw [List.getElem?_map] at hi
  cases hq : st.v[i]? with
  | none => rw [hq] at hi; cases hi
  | some w =>
    rw [hq] at hi
    have hi : Sh.unx w = some val := Option.some.inj hi
    unfold Sh.unx at hi
    split at hi
    · cases hi
    · rename_i w nx
      subst hi
      obtain ⟨v, h1, h2⟩ := sr.vars i val hq
      refine ⟨v, h1, ?_⟩
      cases val with
      | d x => exact h2
      | c n => exact h2
      | t a b x => exact h2
      | x a y => exact (nx a y rfl).elim
def tryS (tab : List (Str × List Str)) (cn : Str) (i : Nat) (G Gs : S → OS) : S → OS := fun st => match G st with
  | .exc nm y st1 => match subN tab nm cn with
    | some true => match Gs { st1 with v := st1.v.set i (some (.x nm y)) } with
      | .ok .nx st2 => .ok .nx { st2.unx with v := st2.unx.v.set i none }
      | .ok (.ret (.d z)) st2 => .ok (.ret (.d z)) st2.unx
      | .ok (.ret (.c k)) st2 => .ok (.ret (.c k)) st2.unx
      | _ => .bad
    | some false => .exc nm y st1
    | none => .bad
  | o => o
theorem s_try {i : Nat} {body suite : List Stmt} {b₀ : Stmt} {np : Pos} {CS : Addr} {G Gs : S → OS} (hX : CxA c X) (h0 : m.ex = none) (hs : X.stack = X.env :: X.outer) (hf : X.env.frame = some X.env.locals) (hN : X.N.Nodup) (T : ClsOk c fI tab) (tk : L2N.Takes X W) (hcn : c.mg x = some (.ref CS))
    (hb : ∀ (W : WX) (pn : List (Addr × Obj)) (xe : Value → Shared → Prop), L2N.Takes (X.tr pn xe) W → PassesOwn (model X.prog X.w) X.A X.env xe → PSs (X.tr pn xe) body (tS c m W G))
    (hsu : ∀ (a : Addr) (oe : Obj) (pn : List (Addr × Obj)), L2H.HotC (X.suite a ((a, oe) :: pn)) → CxE { m with ex := some (a, oe) } (X.suite a ((a, oe) :: pn)) → PSs (X.suite a ((a, oe) :: pn)) (b₀ :: suite) (tS c { m with ex := some (a, oe) } WF Gs))
    (hi : X.N[i]? = some n := by rfl) (hln : X.env.kindOf n = some .local := by rfl) (hg : Gl X x := by rfl) (hdb : (x == ("__debug__" : Str)) = false := by decide) :
    PS X (.Try body [.ExceptHandler (some (.Name x np)) (some n) (b₀ :: suite) pos'] [] [] pos) (tS c m W (tryS tab x i G Gs)) :=
  PS_imp (L2N.ps_try_as (i := i) (c := .ref CS) (tb := fun W => tS c m W G) (ts := fun a cls d D σ H => ∀ oe, L2N.Zn cls d oe → (∃ vs, oe.data = .fields vs) → tS c { m with ex := some (a, oe) } WF Gs D σ H) hs hf hN hi hln ⟨hg, hdb, .inl (by rw [hX.mg]; exact hcn)⟩ tk hb
    (fun a oe cls d pn hz hd => PSs_imp (hsu a oe pn (by obtain ⟨vs, hv⟩ := hd; exact ⟨(a, oe), ⟨rfl, vs, hv, hz.2.2 vs hv⟩, List.mem_cons_self⟩) ⟨fun q e => by cases e; exact ⟨List.mem_cons_self, hd⟩⟩) fun σ H D h => h oe hz hd)) fun σ H D ⟨st, F, α, sr, q⟩ => by
    refine ⟨st, F, α, sr, ?_⟩
    unfold tryS at q
    generalize G st = o at q ⊢
    cases o with
    | bad => exact q
    | ok fl st1 => cases fl <;> exact q
    | exc nm y st1 =>
      simp only at q
      intro σ' C dx v F' α' H' hm e s hx hn r
      cases hb : subN tab nm x with
      | none => rw [hb] at q; exact q.elim
      | some b =>
        rw [hb] at q
        obtain ⟨us, h1, h2, h3⟩ := subN_in hb
        have hk := (T.sub nm us h1 x h2 C CS hm hcn).1
        rw [← hX.K, ← h3] at hk
        refine ⟨b, hk, fun eb a na oe hz hd => ?_, fun eb => ?_⟩
        · subst eb
          simp only at q
          refine ⟨_, F', α', (s.exUp (q := (a, oe)) h0).setv (i := i) (val := .x nm y) ⟨a, oe, C, dx, v, rfl, rfl, hm, hz, hx, r⟩, ?_⟩
          generalize Gs { st1 with v := st1.v.set i (some (.x nm y)) } = o at q ⊢
          cases o with
          | bad => exact q
          | exc _ _ _ => exact q.elim
          | ok fl st2 =>
            cases fl with
            | nx => exact fun σ2 F2 α2 H2 e2 s2 => q (σ2.set i none) F2 α2 H2 (e.trans e2) s2.exDown.unv
            | bk => exact q.elim
            | ct => exact q.elim
            | ret w =>
              cases w with
              | d z => exact fun u σ2 F2 α2 H2 e2 s2 ru => q u σ2 F2 α2 H2 (e.trans e2) s2.exDown ru
              | c z => exact fun u σ2 F2 α2 H2 e2 s2 ru => q u σ2 F2 α2 H2 (e.trans e2) s2.exDown ru
              | t _ _ _ => exact q.elim
              | x _ _ => exact q.elim
        · subst eb
          exact q σ' C dx v F' α' H' hm e s hx hn r
end
end Sh
end
section
set_option Elab.async false
set_option linter.all false
set_option maxRecDepth 100000
set_option maxHeartbeats 4000000
namespace Sh
open PySem PySem.Spec PyProof.Rows
open L2 hiding St

/-! ### t[::-1] of a tuple -/
theorem rev_pick (xs : Array Value) : ((List.range xs.size).filterMap fun (k : Nat) => xs[(((xs.size : Int) - 1) + (k : Int) * (-1)).toNat]?).toArray = xs.toList.reverse.toArray := by
  congr 1
  have e : ((List.range xs.size).filterMap fun (k : Nat) => xs[(((xs.size : Int) - 1) + (k : Int) * (-1)).toNat]?) = (List.range xs.size).map fun k => xs.toList.reverse.getD k default := by
    have : ∀ l : List Nat, (∀ k ∈ l, k < xs.size) → (l.filterMap fun (k : Nat) => xs[(((xs.size : Int) - 1) + (k : Int) * (-1)).toNat]?) = l.map fun k => xs.toList.reverse.getD k default := by
      intro l
      induction l with
      | nil => intro _; rfl
      | cons k l ih =>
        intro h
        have hk := h k List.mem_cons_self
        have e1 : (((xs.size : Int) - 1) + (k : Int) * (-1)).toNat = xs.size - 1 - k := by omega
        have h2 : xs.size - 1 - k < xs.size := by omega
        rw [List.filterMap_cons, e1, Array.getElem?_eq_getElem h2, List.map_cons, ih fun j hj => h j (List.mem_cons_of_mem _ hj)]
        have h3 : k < xs.toList.reverse.length := by rw [List.length_reverse, Array.length_toList]; exact hk
        rw [List.getD_eq_getElem?_getD, List.getElem?_eq_getElem h3, List.getElem_reverse]
        simp
    exact this _ fun k hk => List.mem_range.mp hk
  rw [e]
  refine List.ext_getElem? fun i => ?_
  rw [List.getElem?_map]
  by_cases hi : i < xs.size
  · have h3 : i < xs.toList.reverse.length := by rw [List.length_reverse, Array.length_toList]; exact hi
    rw [List.getElem?_range hi, List.getElem?_eq_getElem h3]
    rw [Option.map_some, List.getD_eq_getElem?_getD, List.getElem?_eq_getElem h3]; rfl
  · rw [List.getElem?_eq_none (by simpa using hi), List.getElem?_eq_none (by simpa using hi)]
    rfl
section
variable {prog : Program} {w : World} {A : Around} {E : Value → Shared → Prop} {s : Shared}
theorem rev_adj (n : Nat) : Builtin.Slice.sliceAdjust none none (-1) (n : Int) = ((n : Int) - 1, -1) ∧ Builtin.Slice.slicePlaces ((n : Int) - 1) (-1) (-1) = n := by
  refine ⟨rfl, ?_⟩
  unfold Builtin.Slice.slicePlaces
  rw [if_neg (by decide)]
  by_cases h : n = 0
  · subst h; decide
  · rw [if_pos (by omega)]
    have : ((n : Int) - 1 - -1 - 1) / (- -1) + 1 = n := by
      rw [show (- -1 : Int) = 1 from rfl, Int.ediv_one]; omega
    rw [this]; rfl
theorem get_rev {t sl : Addr} {items : Array Value} {u : Tok} {Q : Value → Shared → Prop} (ht : IsTup s.heap t items) (hs : s.heap.IsSliceOf sl .none .none (.int (-1) u))
    (h : Q (.ref s.heap.objs.size) { s with heap := s.heap.push { cls := .type "tuple", data := .seq items.toList.reverse.toArray } }) (hsz : items.size ≤ sizeLine) : wpAny (model prog w) A (getItem (.ref t) (.ref sl)) Q E s := by
  have hok : sizeOk (.seq items.toList.reverse.toArray) := by
    show items.toList.reverse.toArray.size ≤ sizeLine
    rw [List.size_toArray, List.length_reverse, Array.length_toList]; exact hsz
  obtain ⟨os, hos, hcs, hds⟩ := id hs
  have hT : s.TypeIs (.ref sl) "slice" := ⟨os, hos, hcs⟩
  unfold getItem; try with_reducible refine wpAny_holding ?_
  first | refine wpAny_bind (wpAny_pure ?_) | skip
  refine wpAny_bind (wpAny_sequenceKey ht.typeIs (by decide) ?_); refine wpAny_bind (wpAny_callSpecial?_slot (name := Str.ofString "__getitem__") ht.typeIs PyProof.Rows.slot_tuple_getitem (wpAny_call_entry PyProof.Rows.slot_tuple_getitem ht.typeIs entry_tuple_getitem ?_ (args_tuple_getitem _ _)))
  show wpAny _ _ (Builtin.Tuple.tupleItemsOf (.ref t) >>= _) _ _ s; refine wpAny_bind (tupleItemsOf_ ht ?_)
  refine wpAny_bind (wpAny_typeOf hT ?_); rw [if_pos (by decide)]
  refine wpAny_bind (m := Builtin.Slice.sliceApplied (.ref sl) (pure (items.size : Int))) ?_
  · unfold Builtin.Slice.sliceApplied Builtin.Slice.sliceFields
    refine wpAny_bind (wpAny_bind (wpAny_field hos hds (x := .none) rfl (wpAny_bind (wpAny_field hos hds (x := .none) rfl (wpAny_bind (wpAny_field hos hds (x := .int (-1) u) rfl (wpAny_pure ?_)))))))
    refine wpAny_bind (slicePart_int ?_)
    show wpAny _ _ (if ((-1 : Int) == 0) = true then _ else _) _ _ s; rw [if_neg (by decide)]
    refine wpAny_bind (slicePart_none (wpAny_bind (slicePart_none (wpAny_bind (wpAny_pure ?_)))))
    show wpAny _ _ (pure (((items.size : Int) - 1, (-1 : Int), Builtin.Slice.slicePlaces ((items.size : Int) - 1) (-1) (-1)))) _ _ s
    rw [(rev_adj items.size).2]
    refine wpAny_pure ?_
    have hno : ¬ ((((items.size : Int) - 1) == 0 && (-1 : Int) == 1 && items.size == items.size) = true) := by
      rw [show ((-1 : Int) == 1) = false from by decide, Bool.and_false, Bool.false_and]; exact Bool.false_ne_true
    show wpAny _ _ (if ((((items.size : Int) - 1) == 0 && (-1 : Int) == 1 && items.size == items.size) = true) then _ else _) _ _ s
    rw [if_neg hno, rev_pick]
    first
      | exact wpAny_bind (m := Builtin.Tuple.tupleExact _) (wpAny_newObj_type (wpAny_pure ⟨_, rfl, wpAny_pure h⟩) hok)
      | exact wpAny_bind (m := Builtin.Tuple.tupleExact _) (wpAny_newObj_type (wpAny_bind (wpAny_pure (wpAny_pure ⟨_, rfl, wpAny_pure h⟩))) hok)
      | exact wpAny_bind (wpAny_bind (m := Builtin.Tuple.tupleExact _) (wpAny_newObj_type (wpAny_pure (wpAny_pure ⟨_, rfl, wpAny_pure h⟩)) hok))
      | exact wpAny_bind (wpAny_bind (m := Builtin.Tuple.tupleExact _) (wpAny_newObj_type (wpAny_pure ⟨_, rfl, wpAny_pure h⟩) hok))
end
section
variable {X : Cx} {c : Cn} {m : Fm} {W : WX} {e : Expr} {pos p1 p3 p4 : Pos} {k : Nat}
/-- xs[::-1] of a list or a tuple -/
def tRevA (K : PySem.W.Frag) (te : TE) : TE := fun σ H Q => te σ H fun x H1 => ∃ a xs, x = .ref a ∧ ((SqL K H1 a xs ∧ ∀ p, H1 p = none → Q (.ref p) (upd H1 p (.lst xs.reverse))) ∨ (SqT K H1 a xs ∧ ∀ p, H1 p = none → Q (.ref p) (upd H1 p (.tup xs.reverse))))
theorem pe_revA {te : TE} (he : PE X e te) : PE X (.Subscript e (.Slice none none (some (.UnaryOp .USub (.Constant (.int 1) k p1) p3)) p4) pos) (tRevA X.K te) := by
  refine ⟨fun pins s σ H Q I h => ?_⟩
  refine Subscript_ (thn (he.run pins s σ H _ I h) fun v s1 ⟨x, H1, I1, r1, a, xs, ex, q⟩ => ?_)
  subst ex; cases r1
  have hst : PO X (some (.UnaryOp .USub (.Constant (.int 1) k p1) p3)) (tPart (tUn (rU fun i => .int (-i)) (tC (.int 1)))) := po_some (pe_un un_neg pe_int)
  refine wpAny_Slice (thn (po_none.run pins s1 σ H1 (fun o H2 => o = none ∧ H2 = H1) I1 ⟨rfl, rfl⟩) fun vl s2 ⟨l, H2, I2, pl, el, e2⟩ => ?_)
  subst el e2
  refine thn (po_none.run pins s2 σ H2 (fun o H3 => o = none ∧ H3 = H2) I2 ⟨rfl, rfl⟩) fun vu s3 ⟨u, H3, I3, pu, eu, e3⟩ => ?_
  subst eu e3
  refine thn (hst.run pins s3 σ H3 (fun o H4 => o = some (-1) ∧ H4 = H3) I3 ⟨1, rfl, -1, rfl, rfl, rfl⟩) fun vs s4 ⟨o, H4, I4, ps, eo, e4⟩ => ?_
  subst eo e4
  have I5 : Inv X pins σ H4 { s4 with heap := s4.heap.push { cls := .type "slice", data := .fields #[vl, vu, vs] } } := I4.kept (t' := s4.toks) fun b ob q => Heap.get?_push_of_some _ q
  show wpAny (model X.prog X.w) X.A (subscriptTail e (.Slice none none (some (.UnaryOp .USub (.Constant (.int 1) k p1) p3)) p4) (.ref a) (.ref s4.heap.objs.size)) (EP X pins σ Q) X.xe { s4 with heap := s4.heap.push { cls := .type "slice", data := .fields #[vl, vu, vs] } }
  rcases q with ⟨hx, q⟩ | ⟨hx, q⟩
  · obtain ⟨its, r, ht, hz⟩ := I5.list hx
    have hlen := r.length
    refine tail_any (ops := [.ref a, .ref s4.heap.objs.size]) ht.isList.typeIs PySem.slot_list_getitem.lookup ?_ (by with_unfolding_all rfl)
    refine wpAny_getItem_list_slice ht.isList (Heap.IsSliceOf.new _ vl vu vs) pl pu ps (by decide) ?_ (by rw [List.size_toArray]; omega)
    rw [PySem.W.krv_pick]
    exact ⟨.ref _, _, I5.laid (t' := s4.toks) (o := .lst xs.reverse) (fun b ob q => Heap.get?_push_of_some _ q) (Nat.le_refl _) ⟨by rw [List.length_reverse]; exact hz, _, 0, r.reverse, Heap.get?_push_size _ rfl⟩, rfl, q _ (I5.hok.fresh (Nat.le_refl _))⟩
  · obtain ⟨its, r, ht, hz⟩ := I5.tuple hx
    have hlen := r.length
    refine tail_any (ops := [.ref a, .ref s4.heap.objs.size]) ht.typeIs PyProof.Rows.slot_tuple_getitem.lookup ?_ (by with_unfolding_all rfl)
    cases pl
    cases pu
    cases ps
    refine get_rev (items := its.toArray) ht (Heap.IsSliceOf.new _ _ _ _) ?_ (by rw [List.size_toArray]; omega)
    exact ⟨.ref _, _, I5.laid (t' := s4.toks) (o := .tup xs.reverse) (fun b ob q => Heap.get?_push_of_some _ q) (Nat.le_refl _) ⟨by rw [List.length_reverse]; exact hz, _, r.reverse, ⟨_, Heap.get?_push_size _ rfl, rfl, _, rfl⟩⟩, rfl, q _ (I5.hok.fresh (Nat.le_refl _))⟩
def revAE (f : S → OE) : S → OE := fun st => (f st).bind fun v st1 => match v with
  | .d (.tup xs) => .ok (.d (.tup xs.reverse)) st1
  | _ => match rdOf v st1 with
    | some xs => newLst xs.reverse st1
    | none => .bad
theorem i_revA {f : S → OE} (hK : X.K = c.K) (he : PE X e (tI c m W f)) : PE X (.Subscript e (.Slice none none (some (.UnaryOp .USub (.Constant (.int 1) k p1) p3)) p4) pos) (tI c m W (revAE f)) :=
  PE_imp (pe_revA he) fun σ H Q ⟨st, F, α, sr, p⟩ =>
  kE pstE sr p fun v st1 x F1 α1 H1 _ s1 r1 p1 => by
    rw [hK]
    split at p1
    · cases r1 with
      | @tup a vs xs q1 q2 =>
        refine ⟨a, vs, rfl, .inr ⟨q1, fun q hq => ?_⟩⟩
        obtain ⟨e4, s4⟩ := s1.newT (o := .tup vs.reverse) hq
        exact p1 (.ref q) F1 α1 _ e4 s4 (.tup (.inl (.inl upd_same)) (Reps.mono e4.ev q2.rev))
    · split at p1
      · rename_i xs hx
        obtain ⟨a, vs, rfl, hs, q1⟩ := rdOf_ok s1 r1 hx
        exact ⟨a, vs, rfl, .inl ⟨hs, fun q hq => newLst_ok s1 q1.rev hq p1⟩⟩
      · exact p1.elim
/-! ### names of the module, names of built-in kinds -/
theorem i_glob {x : Str} {u : Value} {v : V} {y : D} (hX : CxA c X) (hm : c.mg x = some u) (hv : RelV v u) (r : ∀ F H, Rep c F H y v) (hg : Gl X x := by rfl) (hdb : (x == ("__debug__" : Str)) = false := by decide) : PE X (.Name x pos) (tI c m W (cE y)) :=
  i_c ⟨fun pins s σ H Q I q => ld_glob I hg (by rw [hX.mg]; exact hm) ⟨v, H, I, hv, q⟩ hdb⟩ r
theorem i_kind {x : Str} {T : String} (hX : CxA c X) (hm : c.mg x = none) (hv : bootBuiltins x = some (.type T)) (hg : Gl X x := by rfl) (hn : x ≠ "__name__" := by decide) (hdb : (x == ("__debug__" : Str)) = false := by decide) : PE X (.Name x pos) (tI c m W (cE (.ty T))) :=
  i_c ⟨fun pins s σ H Q I q => ld_blt I hg (by rw [hX.mg]; exact hm) hv ⟨.ty T, H, I, rfl, q⟩ hn hdb⟩ fun _ _ => .ty
end
end Sh
end
section
set_option Elab.async false
set_option linter.all false
set_option maxRecDepth 100000
set_option maxHeartbeats 4000000
namespace Sh
open PySem PySem.Spec PyProof.Rows
open L2 hiding St

/-! ### what a body's rules want -/
structure Bd (c : Cn) (m : Fm) (W : WX) (X : Cx) (k : Nat) : Prop where
  hX : CxA c X
  calm : X.calm = true
  room : Room k X.A
  tk : L2N.Takes X W
  nd : X.N.Nodup
theorem takes0N {X : Cx} : L2N.Takes X WF := fun _ _ x => by
  obtain ⟨_, _, _, _, _, _, _, _, _, _, _, _, _, _, _, _, z⟩ := x
  exact z.elim
theorem Bd.K {c : Cn} {m : Fm} {W : WX} {X : Cx} {k : Nat} (b : Bd c m W X k) : X.K = c.K := b.hX.K
theorem Bd.blk {c : Cn} {m : Fm} {W : WX} {X : Cx} {k : Nat} (b : Bd c m W X k) {s : Shared} {H : Hp} {scope : Scope} {cenv : Env} {fp : List Addr} : Bd c m WF (X.blk s H scope cenv fp) k :=
  ⟨⟨b.hX.prog, b.hX.w, b.hX.K, b.hX.mg, b.hX.base⟩, b.calm, b.room, takes0N, b.nd⟩
theorem Bd.tr {c : Cn} {m : Fm} {W W' : WX} {X : Cx} {k : Nat} (b : Bd c m W X k) {pn : List (Addr × Obj)} {xe : Value → Shared → Prop} (tk : L2N.Takes (X.tr pn xe) W') : Bd c m W' (X.tr pn xe) k :=
  ⟨⟨b.hX.prog, b.hX.w, b.hX.K, b.hX.mg, b.hX.base⟩, b.calm, b.room, tk, b.nd⟩
theorem CxA.suite {c : Cn} {X : Cx} (h : CxA c X) {a : Addr} {pn : List (Addr × Obj)} : CxA c (X.suite a pn) := ⟨h.prog, h.w, h.K, h.mg, h.base⟩
theorem CxA.blk {c : Cn} {X : Cx} (h : CxA c X) {s : Shared} {H : Hp} {scope : Scope} {cenv : Env} {fp : List Addr} : CxA c (X.blk s H scope cenv fp) := ⟨h.prog, h.w, h.K, h.mg, h.base⟩
theorem CxM.tr {m : Fm} {X : Cx} (h : CxM m X) {pn : List (Addr × Obj)} {xe : Value → Shared → Prop} : CxM m (X.tr pn xe) := ⟨h.s0, h.H0, h.outer, h.ex⟩
theorem Bd.lam {c : Cn} {m m' : Fm} {W W' : WX} {X : Cx} {k k' : Nat} (b : Bd c m W X k) {A : Around} {outer : List Env} {s : Shared} {H : Hp} {E : XK} {scope : Scope} {f c' : Addr} (hr : Room k' (A.deeper (LamX.lamEnv X scope s.heap.objs.size f c'))) (tk : L2N.Takes (lamN X A outer s H E scope f c') W') : Bd c m' W' (lamN X A outer s H E scope f c') k' :=
  ⟨⟨b.hX.prog, b.hX.w, b.hX.K, b.hX.mg, b.hX.base⟩, rfl, hr, tk, b.nd⟩
abbrev cxD (c : Cn) (N : List Str) (qual : Str) (scope : Scope) (f : Addr) (cdv : Value) (A : Around) (outer : List Env) (s : Shared) (H : Hp) (E : XK) : Cx := cxOf (L2N.CX c.P c.w) c.P c.w c.K c.mg c.base N qual scope f cdv A outer s H E
abbrev WD (E : XK) : WX := fun cls d _ H => E cls d H
/-- a def by its body's mirror -/
theorem fun_sh {c : Cn} {k : Nat} {f : Addr} {x qual : Str} {params : Arguments} {body : List Stmt} {scope : Scope} {fd : FuncData} {N ps : List Str} {G : S → OS} (F : FunD c.K x qual params body scope [] [] f fd) (Sc : FnScope N ps scope) (hb : Binds c.K fd ps [])
    (hbody : ∀ (cdv : Value) (A : Around) (outer : List Env) (s : Shared) (H : Hp) (F : Fz) (io : List Addr) (E : XK), (f = He.fAd c.K (x, none) → cdv = .ref (He.codeOf c.K (x, none))) →
      Bd c ⟨s, H, outer, F, io, none⟩ (WD E) (cxD c N qual scope f cdv A outer s H E) k → CxM ⟨s, H, outer, F, io, none⟩ (cxD c N qual scope f cdv A outer s H E) →
      PSs (cxD c N qual scope f cdv A outer s H E) body (tS c ⟨s, H, outer, F, io, none⟩ (WD E) G)) : FnS c (k + 1) f (runD ps.length N.length G) := by
  obtain ⟨oc, od, dV, kV, doc, pm, an, cdv, ct, osl, rfl, lk, hcd, _, _⟩ := F.ex
  refine fnS_of lk hcd Sc hb fun A outer s H F io E hr tk => hbody cdv A outer s H F io E (fun hf => ?_) ⟨⟨rfl, rfl, rfl, rfl, rfl⟩, rfl, hr, tk, Sc.nd⟩ ⟨rfl, rfl, rfl, rfl⟩
  subst hf
  obtain ⟨k0, e⟩ := He.codeIn_ref hcd
  rw [He.codeOf_eq lk e]
  exact e
theorem codeRef {c : Cn} {k : Nat} {f : Addr} {x qual : Str} {params : Arguments} {body : List Stmt} {scope : Scope} {fd : FuncData} (F : FunD c.K x qual params body scope [] [] f fd) : PySem.W.codeIn c.K fd.code qual = true := by
  obtain ⟨oc, od, dV, kV, doc, pm, an, cdv, ct, osl, rfl, lk, hcd, _, _⟩ := F.ex
  exact hcd

/-! ### the law's promise -/
def spL (T : List (Addr × Str)) (K : PySem.W.Frag) (nl : Nat) (G : S → OS) : Sp := fun vs H Q E => ∃ (a : Addr) (ns : List Int), vs = [.ref a] ∧ LamX.Tabs T H ∧ SqL K H a (ns.map V.int) ∧ (∀ H', Q (.bl true) H') ∧
  ∀ y, (y = D.lst (ns.map D.int) ∨ y = D.klst (ns.map D.int)) → ∃ cs, runD 1 nl G [.d y] = .ok (.d (.bl true)) cs
theorem reps_int {c : Cn} {F : Fz} {H : Hp} : ∀ ns : List Int, Reps c F H (ns.map D.int) (ns.map V.int)
  | [] => .nil
  | _ :: r => .cons .int (reps_int r)
theorem script_at {c : Cn} {H : Hp} {a : Addr} {ns : List Int} (h : SqL c.K H a (ns.map V.int)) : ∃ (F : Fz) (y : D), Dom F H ∧ (y = D.lst (ns.map D.int) ∨ y = D.klst (ns.map D.int)) ∧ Rep c F H y (.ref a) := by
  rcases h with (h | ⟨o, h⟩) | h
  · exact ⟨fun b => b = a, _, fun b hb => by cases hb; exact ⟨_, h⟩, .inl rfl, .lst rfl h (reps_int ns)⟩
  · exact ⟨fun _ => False, _, fun b hb => hb.elim, .inr rfl, .klst (.inl ⟨o, h⟩) (reps_int ns)⟩
  · exact ⟨fun _ => False, _, fun b hb => hb.elim, .inr rfl, .klst (.inr h) (reps_int ns)⟩
theorem fnOk_law {c : Cn} {k : Nat} {f : Addr} {x qual p : Str} {params : Arguments} {body : List Stmt} {scope : Scope} {fd : FuncData} {N : List Str} {G : S → OS} (F : FunD c.K x qual params body scope [] [] f fd) (Sc : FnScope N [p] scope)
    (hbody : ∀ (cdv : Value) (A : Around) (outer : List Env) (s : Shared) (H : Hp) (F : Fz) (io : List Addr) (E : XK), (f = He.fAd c.K (x, none) → cdv = .ref (He.codeOf c.K (x, none))) →
      Bd c ⟨s, H, outer, F, io, none⟩ (WD E) (cxD c N qual scope f cdv A outer s H E) k → CxM ⟨s, H, outer, F, io, none⟩ (cxD c N qual scope f cdv A outer s H E) →
      PSs (cxD c N qual scope f cdv A outer s H E) body (tS c ⟨s, H, outer, F, io, none⟩ (WD E) G)) : FnOk c.P c.w c.K c.mg c.base (L2N.CX c.P c.w) (k + 1) f fd [p] (spL c.T c.K N.length G) := by
  obtain ⟨oc, od, dV, kV, doc, pm, an, cdv, ct, osl, rfl, lk, hcd, _, _⟩ := F.ex
  refine ⟨fun vs H Q E ⟨a, ns, e, _⟩ => by rw [e]; rfl, fun A outer s H args us vs Q E hr e0 hbt hv h => ?_⟩
  obtain ⟨a, ns, rfl, ht, hs, hQ, hm⟩ := h
  obtain ⟨Fz, y, hd, hy, rep⟩ := script_at hs
  obtain ⟨cs, hrun⟩ := hm y hy
  have ha : ArgsOk c (ThkOk c s H Fz outer) Fz H [.d y] [.ref a] [] := .d rep .nil
  refine LamX.run_ofS lk hcd Sc hr e0 hbt hv rfl fun hr' => ?_
  refine ⟨_, hbody cdv A outer s H Fz [] E (fun hf => ?_) ⟨⟨rfl, rfl, rfl, rfl, rfl⟩, rfl, hr', L2N.takes_of rfl rfl rfl rfl, Sc.nd⟩ ⟨rfl, rfl, rfl, rfl⟩, startS N.length [.d y], Fz, [], start_sr ha .nil hd ht, ?_⟩
  · subst hf
    obtain ⟨k0, e⟩ := He.codeIn_ref hcd
    rw [He.codeOf_eq lk e]
    exact e
  · unfold runD at hrun
    rw [if_pos (show [Ar.d y].length = 1 from rfl)] at hrun
    generalize G (startS N.length [.d y]) = o at hrun ⊢
    cases o with
    | bad => cases hrun
    | exc nm z st => cases hrun
    | ok fl st =>
      cases fl with
      | bk => cases hrun
      | ct => cases hrun
      | nx => cases hrun
      | ret v =>
        intro w σ' F' α' H' e s' r
        cases v with
        | d z =>
          cases hrun
          cases r
          exact hQ H'
        | c j =>
          exfalso
          simp only [outR] at hrun
          split at hrun
          · cases hrun
          · split at hrun <;> cases hrun
        | t _ _ _ => cases hrun
        | x _ _ => cases hrun
/-! ### own errors, by a Bool -/
def oexB (K : PySem.W.Frag) (C : Addr) : Bool := match K.lookup C with
  | some ⟨.type "type", _, .cls cd, sl⟩ => (match cd.mro, sl.toList with
    | .ref C' :: bm, [_, _, _, _, some (.builtin n), _] => C' == C && (n == "ValueError.__new__" && (!cd.hasDel && (cd.hasDict && PySem.HandSPX.refsVE bm)))
    | _, _ => false)
  | _ => false
def exOneB (K : PySem.W.Frag) (fI C : Addr) : Bool :=
  oexB K C && (He.eqO (PySem.W.findIn K (.ref C) "__setattr__") (some (some (.builtin "object.__setattr__"))) && (decide (PySem.W.subIn K (.ref C) (.type "BaseException") = some true) && (decide (PySem.W.typeIn K (.ref C) = some (.type "type")) && (PySem.W.keepIn K (.ref C) &&
  (He.eqO (PySem.W.findIn K (.ref C) "__getattribute__") (some (some (.builtin "BaseException.__getattribute__"))) && (He.eqO (PySem.W.findIn K (.ref C) "__getattr__") (some none) && (PySem.W.hasDictIn K C && (He.eqO (PySem.W.findIn K (.ref C) "__class__") (some (some (.builtin "object.__class__"))) &&
  (He.eqO (PySem.W.specialIn K (.builtin "object.__class__") "__get__") (some (some (.builtin "getset_descriptor.__get__"))) && (decide (PySem.W.takesIn K (.builtin "object.__class__") = some true) && (decide (PySem.W.mroIn K C (.type "object") = some true) &&
  (He.eqO (PySem.W.findIn K (.ref C) "what") (some none) && He.eqO (PySem.W.findIn K (.ref C) "__init__") (some (some (.ref fI)))))))))))))))
def clsB (K : PySem.W.Frag) (fI : Addr) (tab : List (Str × List Str)) : Bool := tab.all fun p => exOneB K fI (He.ga K p.1) && tab.all fun q =>
  decide (PySem.W.exmOne K (.ref (He.ga K p.1)) (.ref (He.ga K q.1)) = some (p.2.contains q.1)) && decide (PySem.W.kitOne K (.ref (He.ga K p.1)) (.ref (He.ga K q.1)) = some (p.2.contains q.1))
def iniB (K : PySem.W.Frag) (fI : Addr) : Bool := decide (PySem.W.typeIn K (.ref fI) = some (.type "function")) && (match PySem.W.findCls K (.type "ValueError") (.type "type") "__init__" with
  | some (.val v) => decide (v = .builtin "ValueError.__init__")
  | _ => false)
theorem iniB_ok {K : PySem.W.Frag} {fI : Addr} (h : iniB K fI = true) : PySem.W.typeIn K (.ref fI) = some (.type "function") ∧ PySem.W.findCls K (.type "ValueError") (.type "type") "__init__" = some (.val (.builtin "ValueError.__init__")) := by
  obtain ⟨h1, h2⟩ := Bool.and_eq_true_iff.mp h
  refine ⟨of_decide_eq_true h1, ?_⟩
  split at h2
  · rename_i v hv
    rw [hv, of_decide_eq_true h2]
  · cases h2
theorem oexB_ok {K : PySem.W.Frag} {C : Addr} (h : oexB K C = true) : ∃ nm q N bs bm sn sub ab col dd k0 k1 k2 k3 k5, K.lookup C = some (excClassObj nm q C N bs bm true sn sub ab col dd k0 k1 k2 k3 k5 "ValueError.__new__") ∧ PySem.HandSPX.refsVE bm = true := by
  unfold oexB at h
  split at h
  · rename_i dd cd sl ho
    split at h
    · rename_i C' bm k0 k1 k2 k3 n k5 hm hs
      simp only [Bool.and_eq_true, beq_iff_eq, Bool.not_eq_true'] at h
      obtain ⟨rfl, rfl, hdel, hdict, hbm⟩ := h
      obtain ⟨nm, bs, mro, ns, qn, hd, sn, sub, ab, col, del⟩ := cd
      dsimp only at hm hdel hdict
      subst hm hdel hdict
      have hsl : sl = #[k0, k1, k2, k3, some (.builtin "ValueError.__new__"), k5] := by
        obtain ⟨l⟩ := sl
        simp only at hs
        rw [hs]
      subst hsl
      exact ⟨nm, qn, ns, bs, bm, sn, sub, ab, col, dd, k0, k1, k2, k3, k5, ho, hbm⟩
    · cases h
  · cases h
theorem exOne_ok {c : Cn} {fI C : Addr} (h : exOneB c.K fI C = true) : ExOk c fI C := by
  unfold exOneB at h
  simp only [Bool.and_eq_true, decide_eq_true_eq] at h
  obtain ⟨h1, h2, h3, h4, h5, h6, h7, h8, h9, h10, h11, h12, h13, h14⟩ := h
  have e2 := He.eqO_ok h2
  have e6 := He.eqO_ok h6
  have e7 := He.eqO_ok h7
  exact ⟨⟨oexB_ok h1, e2, h3, h4, h5⟩, ⟨e6, e7, h3, h8, He.eqO_ok h9, He.eqO_ok h10, h11, h12⟩, ⟨e6, e7, h3, h8⟩, He.eqO_ok h13, He.eqO_ok h14⟩
theorem cls_of {c : Cn} {fI : Addr} {tab : List (Str × List Str)} (h : clsB c.K fI tab = true) (hg : ∀ nm ∈ tab.map (·.1), c.mg nm = some (.ref (He.ga c.K nm))) : ClsOk c fI tab := by
  have key := List.all_eq_true.mp h
  refine ⟨fun nm C hn hm => ?_, fun nm us hp n2 hn2 C C2 hm hm2 => ?_⟩
  · obtain ⟨p, hp, rfl⟩ := List.mem_map.mp hn
    have e := (hg _ hn).symm.trans hm
    cases e
    exact exOne_ok (Bool.and_eq_true_iff.mp (key p hp)).1
  · obtain ⟨q, hq, rfl⟩ := List.mem_map.mp hn2
    have e := (hg nm (List.mem_map.mpr ⟨_, hp, rfl⟩)).symm.trans hm
    have e2 := (hg _ hn2).symm.trans hm2
    cases e
    cases e2
    have z := List.all_eq_true.mp (Bool.and_eq_true_iff.mp (key _ hp)).2 q hq
    simp only [Bool.and_eq_true, decide_eq_true_eq] at z
    exact z
/-! ### the lambdas' tables, one for each def -/
def uniqB (K : PySem.W.Frag) (tf : List He.Defn) : Bool := tf.all fun x => tf.all fun y => decide (x = y) || !decide ((He.cT K x).2 = (He.cT K y).2)
theorem uniq_ok {K : PySem.W.Frag} {tf : List He.Defn} (h : uniqB K tf = true) : ∀ x, x ∈ tf → ∀ q ∈ tf.map fun x => ((He.cT K x).2, (x.1 ++ ".<locals>.") ++ "<lambda>"), q.1 = (He.cT K x).2 → q.2 = (x.1 ++ ".<locals>.") ++ "<lambda>" := fun x hx q hq e => by
  obtain ⟨y, hy, rfl⟩ := List.mem_map.mp hq
  have z := List.all_eq_true.mp (List.all_eq_true.mp h x hx) y hy
  rw [Bool.or_eq_true, decide_eq_true_eq, Bool.not_eq_true', decide_eq_false_iff_not] at z
  rcases z with z | z
  · rw [z]
  · exact absurd e.symm z
end Sh
end
section
set_option Elab.async false
set_option linter.all false
set_option maxRecDepth 100000
set_option maxHeartbeats 4000000
namespace Sh
open PySem PySem.Spec PyProof.Rows
open L2 hiding St

/-! ### the rules in short -/
section
variable {X : Cx} {c : Cn} {m : Fm} {W : WX} {k j : Nat} {e a b : Expr} {es : List Expr} {pos p : Pos} {f fa fb : S → OE} {fs : List (S → OE)} {x : Str} {g : Addr} {d : List Ar → RD}
theorem c_add (hX : CxA c X) (ha : PE X a (tI c m W fa)) (hb : PE X b (tI c m W fb)) : PE X (.BinOp a .Add b pos) (tI c m W (bin2 addV fa fb)) := i_op op_addA (by rw [hX.K]; exact add_ok) ha hb
theorem c_sub (hX : CxA c X) (ha : PE X a (tI c m W fa)) (hb : PE X b (tI c m W fb)) : PE X (.BinOp a .Sub b pos) (tI c m W (bin2 subV fa fb)) := i_op op_sub int_ok0 ha hb
theorem c_mul (hX : CxA c X) (ha : PE X a (tI c m W fa)) (hb : PE X b (tI c m W fb)) : PE X (.BinOp a .Mult b pos) (tI c m W (bin2 mulV fa fb)) := i_op op_mulA (by rw [hX.K]; exact mul_ok) ha hb
theorem c_div (hX : CxA c X) (ha : PE X a (tI c m W fa)) (hb : PE X b (tI c m W fb)) : PE X (.BinOp a .FloorDiv b pos) (tI c m W (bin2 divV fa fb)) := i_op op_fdivA (int_ok fun i j h => by have q := of_decide_eq_true h; exact q) ha hb
theorem c_mod (hX : CxA c X) (ha : PE X a (tI c m W fa)) (hb : PE X b (tI c m W fb)) : PE X (.BinOp a .Mod b pos) (tI c m W (bin2 modV fa fb)) := i_op op_modN (int_ok fun i j h => by have q := of_decide_eq_true h; exact q) ha hb
theorem c_pow (hX : CxA c X) (ha : PE X a (tI c m W fa)) (hb : PE X b (tI c m W fb)) : PE X (.BinOp a .Pow b pos) (tI c m W (bin2 powV fa fb)) := i_op op_pow (int_ok fun i j h => by have q := of_decide_eq_true h; exact q) ha hb
theorem c_neg (ha : PE X a (tI c m W fa)) : PE X (.UnaryOp .USub a pos) (tI c m W (un1 negV fa)) := i_un un_neg neg_ok ha
def units_of (r : Room k X.A) : X.A.units + 64 < cLine := r.units
theorem c_eq (hu : X.A.units + 64 < cLine) (hX : CxA c X) (ha : PE X a (tI c m W fa)) (hb : PE X b (tI c m W fb)) : PE X (.Compare a [.Eq] [b] pos) (tI c m W (bin2 (eqV false) fa fb)) := i_cmp (op_eqD hu) (by rw [hX.K]; exact eq_ok) ha hb (nomark _)
theorem c_ne (hu : X.A.units + 64 < cLine) (hX : CxA c X) (ha : PE X a (tI c m W fa)) (hb : PE X b (tI c m W fb)) : PE X (.Compare a [.NotEq] [b] pos) (tI c m W (bin2 (eqV true) fa fb)) := i_cmp (op_neD hu) (by rw [hX.K]; exact ne_ok) ha hb (nomark _)
theorem c_lt (ha : PE X a (tI c m W fa)) (hb : PE X b (tI c m W fb)) : PE X (.Compare a [.Lt] [b] pos) (tI c m W (bin2 ltV fa fb)) := i_cmp op_lt cmp_ok ha hb (nomark _)
theorem c_le (ha : PE X a (tI c m W fa)) (hb : PE X b (tI c m W fb)) : PE X (.Compare a [.LtE] [b] pos) (tI c m W (bin2 leV fa fb)) := i_cmp op_le cmp_ok ha hb (nomark _)
theorem c_gt (ha : PE X a (tI c m W fa)) (hb : PE X b (tI c m W fb)) : PE X (.Compare a [.Gt] [b] pos) (tI c m W (bin2 gtV fa fb)) := i_cmp op_gt cmp_ok ha hb (nomark _)
theorem c_ge (ha : PE X a (tI c m W fa)) (hb : PE X b (tI c m W fb)) : PE X (.Compare a [.GtE] [b] pos) (tI c m W (bin2 geV fa fb)) := i_cmp op_ge cmp_ok ha hb (nomark _)
theorem c_is (ha : PE X a (tI c m W fa)) (hb : PE X b (tI c m W fb)) : PE X (.Compare a [.Is] [b] pos) (tI c m W (bin2 (isNV false) fa fb)) := i_cmp op_isN isN_ok ha hb (nomark _)
theorem c_isnot (ha : PE X a (tI c m W fa)) (hb : PE X b (tI c m W fb)) : PE X (.Compare a [.IsNot] [b] pos) (tI c m W (bin2 (isNV true) fa fb)) := i_cmp op_notN notN_ok ha hb (nomark _)
theorem q_eq (hu : X.A.units + 64 < cLine) (hX : CxA c X) (ha : PE X a (tI c m W fa)) (hb : PE X b (tI c m W fb)) : PT X (.Compare a [.Eq] [b] pos) (tT c m W (bin2 (eqV false) fa fb)) := i_testc (op_eqD hu) (by rw [hX.K]; exact eq_ok) ha hb (nomark _)
theorem q_ne (hu : X.A.units + 64 < cLine) (hX : CxA c X) (ha : PE X a (tI c m W fa)) (hb : PE X b (tI c m W fb)) : PT X (.Compare a [.NotEq] [b] pos) (tT c m W (bin2 (eqV true) fa fb)) := i_testc (op_neD hu) (by rw [hX.K]; exact ne_ok) ha hb (nomark _)
theorem q_lt (ha : PE X a (tI c m W fa)) (hb : PE X b (tI c m W fb)) : PT X (.Compare a [.Lt] [b] pos) (tT c m W (bin2 ltV fa fb)) := i_testc op_lt cmp_ok ha hb (nomark _)
theorem q_le (ha : PE X a (tI c m W fa)) (hb : PE X b (tI c m W fb)) : PT X (.Compare a [.LtE] [b] pos) (tT c m W (bin2 leV fa fb)) := i_testc op_le cmp_ok ha hb (nomark _)
theorem q_gt (ha : PE X a (tI c m W fa)) (hb : PE X b (tI c m W fb)) : PT X (.Compare a [.Gt] [b] pos) (tT c m W (bin2 gtV fa fb)) := i_testc op_gt cmp_ok ha hb (nomark _)
theorem q_ge (ha : PE X a (tI c m W fa)) (hb : PE X b (tI c m W fb)) : PT X (.Compare a [.GtE] [b] pos) (tT c m W (bin2 geV fa fb)) := i_testc op_ge cmp_ok ha hb (nomark _)
theorem q_is (ha : PE X a (tI c m W fa)) (hb : PE X b (tI c m W fb)) : PT X (.Compare a [.Is] [b] pos) (tT c m W (bin2 (isNV false) fa fb)) := i_testc op_isN isN_ok ha hb (nomark _)
theorem q_isnot (ha : PE X a (tI c m W fa)) (hb : PE X b (tI c m W fb)) : PT X (.Compare a [.IsNot] [b] pos) (tT c m W (bin2 (isNV true) fa fb)) := i_testc op_notN notN_ok ha hb (nomark _)
theorem c_ix (hX : CxA c X) (ha : PE X a (tI c m W fa)) (hb : PE X b (tI c m W fb)) (hs : PlainIx b := by intro _ _; rfl) : PE X (.Subscript a b pos) (tI c m W (bin2 ixV fa fb)) := i_ix ix_seq (by rw [hX.K]; exact ix_ok) ha hb hs
theorem c_len (hX : CxA c X) (hm : c.mg "len" = none) (ha : PA X [e] (tA c m W (seqE fs))) (hg : Gl X "len" := by rfl) (he : starEach [e] X.env = (false, eval e X.env) :: starEach [] X.env := by rfl) (hpl : (backTo pos (starEach [] X.env)).any (·.1) = false := by rfl) :
    PE X (.Call (.Name "len" p) [e] [] pos) (tI c m W (callE lenV fs)) := i_callB call_len (by rw [hX.K]; exact len_ok) (by rw [hX.mg]; exact hm) boot_len ha hg (by decide) (by decide) he hpl
theorem c_max (hc : X.calm = true) (hX : CxA c X) (hm : c.mg "max" = none) (ha : PA X [e, a] (tA c m W (seqE fs))) (hg : Gl X "max" := by rfl) (he : starEach [e, a] X.env = (false, eval e X.env) :: starEach [a] X.env := by rfl) (hpl : (backTo pos (starEach [a] X.env)).any (·.1) = false := by rfl) :
    PE X (.Call (.Name "max" p) [e, a] [] pos) (tI c m W (callE maxV fs)) := i_callB (call_max2 hc) i2_ok (by rw [hX.mg]; exact hm) (by decide +kernel) ha hg (by decide) (by decide) he hpl
theorem c_min (hc : X.calm = true) (hX : CxA c X) (hm : c.mg "min" = none) (ha : PA X [e, a] (tA c m W (seqE fs))) (hg : Gl X "min" := by rfl) (he : starEach [e, a] X.env = (false, eval e X.env) :: starEach [a] X.env := by rfl) (hpl : (backTo pos (starEach [a] X.env)).any (·.1) = false := by rfl) :
    PE X (.Call (.Name "min" p) [e, a] [] pos) (tI c m W (callE minV fs)) := i_callB (call_min2 hc) i2_ok (by rw [hX.mg]; exact hm) (by decide +kernel) ha hg (by decide) (by decide) he hpl
theorem c_abs (hX : CxA c X) (hm : c.mg "abs" = none) (ha : PA X [e] (tA c m W (seqE fs))) (hg : Gl X "abs" := by rfl) (he : starEach [e] X.env = (false, eval e X.env) :: starEach [] X.env := by rfl) (hpl : (backTo pos (starEach [] X.env)).any (·.1) = false := by rfl) :
    PE X (.Call (.Name "abs" p) [e] [] pos) (tI c m W (callE absV fs)) := i_callB call_abs i1_ok (by rw [hX.mg]; exact hm) (by decide +kernel) ha hg (by decide) (by decide) he hpl
theorem c_int (hX : CxA c X) (hm : c.mg "int" = none) (ha : PA X [e] (tA c m W (seqE fs))) (hg : Gl X "int" := by rfl) (he : starEach [e] X.env = (false, eval e X.env) :: starEach [] X.env := by rfl) (hpl : (backTo pos (starEach [] X.env)).any (·.1) = false := by rfl) :
    PE X (.Call (.Name "int" p) [e] [] pos) (tI c m W (callE toIntV fs)) := i_callT call_int1 toInt_ok (by rw [hX.mg]; exact hm) (by decide +kernel) ha hg (by decide) (by decide) he hpl
theorem c_list (hX : CxA c X) (hm : c.mg "list" = none) (ha : PA X [e] (tA c m W (seqE fs))) (hg : Gl X "list" := by rfl) (he : starEach [e] X.env = (false, eval e X.env) :: starEach [] X.env := by rfl) (hpl : (backTo pos (starEach [] X.env)).any (·.1) = false := by rfl) :
    PE X (.Call (.Name "list" p) [e] [] pos) (tI c m W (callE listV fs)) := i_callT call_list_of (by rw [hX.K]; exact list_ok) (by rw [hX.mg]; exact hm) (by decide +kernel) ha hg (by decide) (by decide) he hpl
theorem c_tuple (hX : CxA c X) (hm : c.mg "tuple" = none) (ha : PA X [e] (tA c m W (seqE fs))) (hg : Gl X "tuple" := by rfl) (he : starEach [e] X.env = (false, eval e X.env) :: starEach [] X.env := by rfl) (hpl : (backTo pos (starEach [] X.env)).any (·.1) = false := by rfl) :
    PE X (.Call (.Name "tuple" p) [e] [] pos) (tI c m W (callE tupleV fs)) := i_callT call_tuple_of (by rw [hX.K]; exact tuple_ok) (by rw [hX.mg]; exact hm) (by decide +kernel) ha hg (by decide) (by decide) he hpl
theorem c_isi (hX : CxA c X) (hm : c.mg "isinstance" = none) (ha : PA X [e, a] (tA c m W (seqE fs))) (hg : Gl X "isinstance" := by rfl) (he : starEach [e, a] X.env = (false, eval e X.env) :: starEach [a] X.env := by rfl) (hpl : (backTo pos (starEach [a] X.env)).any (·.1) = false := by rfl) :
    PE X (.Call (.Name "isinstance" p) [e, a] [] pos) (tI c m W (callE isiV fs)) := i_callB call_isi (by rw [hX.K]; exact isi_ok) (by rw [hX.mg]; exact hm) (by decide +kernel) ha hg (by decide) (by decide) he hpl
theorem c_gcd (hX : CxA c X) (hm : c.mg x = some (.builtin "math.gcd")) (ha : PA X [e, a] (tA c m W (seqE fs))) (hg : Gl X x := by rfl) (hdb : (x == ("__debug__" : Str)) = false := by decide) (he : starEach [e, a] X.env = (false, eval e X.env) :: starEach [a] X.env := by rfl) (hpl : (backTo pos (starEach [a] X.env)).any (·.1) = false := by rfl) :
    PE X (.Call (.Name x p) [e, a] [] pos) (tI c m W (callE gcdV fs)) := i_callF cr_gcd i2_ok (by rw [hX.mg]; exact hm) ha hg hdb he hpl
theorem c_call (bd : Bd c m W X k) (hf : FnS c j g d) (hm : c.mg x = some (.ref g)) (hk : PySem.W.keepIn c.K (.ref g) = true) (ha : PA X (e :: es) (tA c m W (seqE fs))) (hj : j ≤ k := by decide) (hg : Gl X x := by rfl)
    (hdb : (x == ("__debug__" : Str)) = false := by decide) (he : starEach (e :: es) X.env = (false, eval e X.env) :: starEach es X.env := by rfl) (hpl : (backTo pos (starEach es X.env)).any (·.1) = false := by rfl) :
    PE X (.Call (.Name x p) (e :: es) [] pos) (tI c m W (callE (callV d) fs)) := i_call bd.hX hf hm (bd.room.mono hj) bd.tk ha hk hg hdb he hpl
theorem c_callK (bd : Bd c m W X k) (hM : CxM m X) (hf : FnS c j g d) (hm : c.mg x = some (.ref g)) (hk : PySem.W.keepIn c.K (.ref g) = true) (ha : PA X (e :: es) (tA c m W (seqE fs))) (hj : j ≤ k := by decide) (hs : X.stack = X.env :: X.outer := by rfl) (hfr : X.env.frame = some X.env.locals := by rfl) (hg : Gl X x := by rfl)
    (hdb : (x == ("__debug__" : Str)) = false := by decide) (he : starEach (e :: es) X.env = (false, eval e X.env) :: starEach es X.env := by rfl) (hpl : (backTo pos (starEach es X.env)).any (·.1) = false := by rfl) :
    PE X (.Call (.Name x p) (e :: es) [] pos) (tI c m W (callE (callVT d) fs)) := i_callK bd.hX hM hs hfr hf hm (bd.room.mono hj) bd.tk ha hk hg hdb he hpl
theorem c_act {i : Nat} (bd : Bd c m W X k) (hM : CxM m X) (hj : 60 ≤ k := by decide) (hs : X.stack = X.env :: X.outer := by rfl) (hfr : X.env.frame = some X.env.locals := by rfl) (hN : X.N[i]? = some x := by rfl) (hv : Vis X.env.scope x := by first | exact .inl rfl | exact .inr (.inl rfl) | exact .inr (.inr rfl))
    (hd : (x == ("__debug__" : Str)) = false := by decide) (hcd : (x == ("__classdict__" : Str)) = false := by decide) : PE X (.Call (.Name x p) [] [] pos) (tI c m W (actE i)) := i_act bd.hX hM hs hfr (bd.room.mono hj) bd.tk hN hv hd hcd
variable {o : Expr} {fo : S → OE} {apos cpos : Pos}
theorem c_append (hX : CxA c X) (ho : PE X o (tI c m W fo)) (ha : PA X [e] (tA c m W (seqE fs))) (hbase : attributeBase o "append" X.env (eval o X.env) = eval o X.env := by rfl)
    (hfew : ((backTo cpos (starEach [e] X.env)).all (fun x => !x.1) && (backToKw cpos (keywordEach [] X.env)).all (fun x => x.1.isSome) && decide ([e].length + ([] : List Keyword).length + (if ([] : List Keyword).isEmpty then 0 else 1) < 30)) = true := by rfl)
    (hline : (apos.endLine == cpos.line) = true := by rfl) (hs : starEach [e] X.env = (false, eval e X.env) :: starEach [] X.env := by rfl) (hpl : (backTo cpos (starEach [] X.env)).any (·.1) = false := by rfl) : PE X (.Call (.Attribute o "append" apos) [e] [] cpos) (tI c m W (methE "list" appV fo fs)) :=
  i_meth hX.K PySem.F.plainAttrs_list PySem.F.slot_list_append PySem.F.type_list_append mt_append app_ok' ho ha hbase hfew hline hs hpl
theorem c_extend (hX : CxA c X) (ho : PE X o (tI c m W fo)) (ha : PA X [e] (tA c m W (seqE fs))) (hbase : attributeBase o "extend" X.env (eval o X.env) = eval o X.env := by rfl)
    (hfew : ((backTo cpos (starEach [e] X.env)).all (fun x => !x.1) && (backToKw cpos (keywordEach [] X.env)).all (fun x => x.1.isSome) && decide ([e].length + ([] : List Keyword).length + (if ([] : List Keyword).isEmpty then 0 else 1) < 30)) = true := by rfl)
    (hline : (apos.endLine == cpos.line) = true := by rfl) (hs : starEach [e] X.env = (false, eval e X.env) :: starEach [] X.env := by rfl) (hpl : (backTo cpos (starEach [] X.env)).any (·.1) = false := by rfl) : PE X (.Call (.Attribute o "extend" apos) [e] [] cpos) (tI c m W (methE "list" extV fo fs)) :=
  i_meth hX.K PySem.F.plainAttrs_list PySem.F.slot_list_extend PySem.F.type_list_extend mt_extend ext_ok ho ha hbase hfew hline hs hpl
theorem c_popAt (hX : CxA c X) (ho : PE X o (tI c m W fo)) (ha : PA X [e] (tA c m W (seqE fs))) (hbase : attributeBase o "pop" X.env (eval o X.env) = eval o X.env := by rfl)
    (hfew : ((backTo cpos (starEach [e] X.env)).all (fun x => !x.1) && (backToKw cpos (keywordEach [] X.env)).all (fun x => x.1.isSome) && decide ([e].length + ([] : List Keyword).length + (if ([] : List Keyword).isEmpty then 0 else 1) < 30)) = true := by rfl)
    (hline : (apos.endLine == cpos.line) = true := by rfl) (hs : starEach [e] X.env = (false, eval e X.env) :: starEach [] X.env := by rfl) (hpl : (backTo cpos (starEach [] X.env)).any (·.1) = false := by rfl) : PE X (.Call (.Attribute o "pop" apos) [e] [] cpos) (tI c m W (methE "list" popAtV fo fs)) :=
  i_meth hX.K PySem.F.plainAttrs_list PySem.F.slot_list_pop PySem.F.type_list_pop mt_popAt popAt_ok ho ha hbase hfew hline hs hpl
theorem c_pop (hX : CxA c X) (ho : PE X o (tI c m W fo)) (hbase : attributeBase o "pop" X.env (eval o X.env) = eval o X.env := by rfl) (hline : (apos.endLine == cpos.line) = true := by rfl) : PE X (.Call (.Attribute o "pop" apos) [] [] cpos) (tI c m W (methE "list" popV fo [])) :=
  i_meth0 hX.K PySem.F.plainAttrs_list PySem.F.slot_list_pop PySem.F.type_list_pop mt_pop pop_ok ho hbase hline
theorem c_join (hX : CxA c X) (ho : PE X o (tI c m W fo)) (ha : PA X [e] (tA c m W (seqE fs))) (hbase : attributeBase o "join" X.env (eval o X.env) = eval o X.env := by rfl)
    (hfew : ((backTo cpos (starEach [e] X.env)).all (fun x => !x.1) && (backToKw cpos (keywordEach [] X.env)).all (fun x => x.1.isSome) && decide ([e].length + ([] : List Keyword).length + (if ([] : List Keyword).isEmpty then 0 else 1) < 30)) = true := by rfl)
    (hline : (apos.endLine == cpos.line) = true := by rfl) (hs : starEach [e] X.env = (false, eval e X.env) :: starEach [] X.env := by rfl) (hpl : (backTo cpos (starEach [] X.env)).any (·.1) = false := by rfl) : PE X (.Call (.Attribute o "join" apos) [e] [] cpos) (tI c m W (methE "str" joinV fo fs)) :=
  i_meth hX.K PySem.F.plainAttrs_str PySem.F.slot_str_join PySem.F.type_str_join mt_join (by rw [hX.K]; exact join_ok) ho ha hbase hfew hline hs hpl
end
/-! ### how much there is of a thing: the turns that a loop is given -/
mutual
def szD : D → Nat
  | .tup xs => szDs xs + 1
  | .lst xs => szDs xs + 1
  | .klst xs => szDs xs + 1
  | .non => 1
  | .bl _ => 1
  | .int _ => 1
  | .str _ => 1
  | .obj _ => 1
  | .ty _ => 1
def szDs : List D → Nat
  | [] => 0
  | x :: xs => szD x + szDs xs
end
def fuelA : List Ar → Nat
  | [] => 2
  | .d x :: r => szD x + fuelA r
  | .o xs :: r => szDs xs + 1 + fuelA r
  | .t _ _ _ :: r => fuelA r
end Sh
end
section
set_option Elab.async false
set_option linter.all false
set_option maxRecDepth 100000
set_option maxHeartbeats 4000000
namespace Sh
open PySem PySem.Spec PyProof.Rows
open L2 hiding St

/-! ### how a mirror computes -/
def thS : OS → (S → OS) → OS
  | .ok .nx st, h => h st
  | o, _ => o
def setK (i : Nat) (v : Val) (st : S) : OS := .ok .nx { st with v := st.v.set i (some v) }
def retK (v : Val) (st : S) : OS := .ok (.ret v) st
def dropK (v : Val) (st : S) : OS := .ok .nx st
def varK : Option (Option Val) → S → OE
  | some (some v), st => .ok v st
  | _, _ => .bad
def tupK : Option (List D × S) → OE
  | some (xs, st) => .ok (.d (.tup xs)) st
  | none => .bad
def lstK : Option (List D × S) → OE
  | some (xs, st) => newLst xs st
  | none => .bad
def argK (d : List Ar → RD) (st : S) : Option (List Ar × List Nat) → OE
  | some (as, ns) => if noT as then afterD ns st (d as) else .bad
  | none => .bad
def argKT (d : List Ar → RD) (st : S) : Option (List Ar × List Nat) → OE
  | some (as, ns) => afterD ns st (d as)
  | none => .bad
def consA (v : Val) (st : S) : Option (List Ar × List Nat) → Option (List Ar × List Nat)
  | none => none
  | some (as, ns) => match v with
    | .d x => some (.d x :: as, ns)
    | .t ok nm x => some (.t ok nm x :: as, ns)
    | .x _ _ => none
    | .c n => match st.c[n]? with
      | some (.own xs) => if n ∈ ns then none else some (.o xs :: as, n :: ns)
      | some (.frz xs) => some (.d (.lst xs) :: as, ns)
      | none => none
def endD (n : Nat) : OS → RD
  | .ok (.ret v) st => outR n v st
  | .ok .nx st => .ok (.d .non) (st.c.take n)
  | .exc nm x st => .exc nm x (st.c.take n)
  | _ => .bad
def nextL (o : OS) (k : S → OS) : OS := match o with
  | .ok .nx st => k st
  | .ok .ct st => k st
  | .ok .bk st => .ok .nx st
  | o => o
section
variable {g h : S → OS} {f fa fb t : S → OE} {st st1 : S} {v : Val} {i : Nat} {x : D} {vs : List (Option Val)} {cs : List Cell} {fs : List (S → OE)} {nm : Str} {xs ys : List D} {ws : List Val}
theorem bind_exc {α β : Type} (nm : Str) (x : D) (st : S) (g : α → S → Out β) : (Out.exc nm x st : Out α).bind g = .exc nm x st := rfl
theorem bind_bad {α β : Type} (g : α → S → Out β) : (Out.bad : Out α).bind g = .bad := rfl
theorem e_seq : seqS g h st = thS (g st) h := by
  unfold seqS thS
  cases g st with
  | ok fl st1 => cases fl <;> rfl
  | exc _ _ _ => rfl
  | bad => rfl
theorem th_nx : thS (.ok .nx st) h = h st := rfl
theorem th_ret : thS (.ok (.ret v) st) h = .ok (.ret v) st := rfl
theorem th_bk : thS (.ok .bk st) h = .ok .bk st := rfl
theorem th_ct : thS (.ok .ct st) h = .ok .ct st := rfl
theorem th_exc : thS (.exc nm x st) h = .exc nm x st := rfl
theorem e_set : setS i f st = (f st).bind (setK i) := rfl
theorem e_setK : setK i v ⟨vs, cs⟩ = .ok .nx ⟨vs.set i (some v), cs⟩ := rfl
theorem e_ret : retS f st = (f st).bind retK := rfl
theorem e_retK : retK v st = .ok (.ret v) st := rfl
theorem e_drop : dropS f st = (f st).bind dropK := rfl
theorem e_dropK : dropK v st = .ok .nx st := rfl
theorem e_retN : retN st = .ok (.ret (.d .non)) st := rfl
theorem e_next : nextS st = .ok .nx st := rfl
theorem e_brk : brkS st = .ok .bk st := rfl
theorem e_cnt : cntS st = .ok .ct st := rfl
theorem e_if : ifS t g h st = (t st).bind (onB g h) := rfl
theorem e_ifE : ifE t fa fb st = (t st).bind (onB fa fb) := rfl
theorem e_and : andE fa fb st = (fa st).bind (onB fb (cE (.bl false))) := rfl
theorem e_or : orE fa fb st = (fa st).bind (onB (cE (.bl true)) fb) := rfl
theorem e_not : notE fa st = (fa st).bind (onB (cE (.bl false)) (cE (.bl true))) := rfl
theorem onB_t {β : Type} {t e : S → Out β} : onB t e (.d (.bl true)) st = t st := rfl
theorem onB_f {β : Type} {t e : S → Out β} : onB t e (.d (.bl false)) st = e st := rfl
theorem onB_b {β : Type} {t e : S → Out β} {b : Bool} : onB t e (.d (.bl b)) st = if b = true then t st else e st := by cases b <;> rfl
theorem e_var : varE i ⟨vs, cs⟩ = varK vs[i]? ⟨vs, cs⟩ := by
  unfold varE varK
  cases vs[i]? with
  | none => rfl
  | some o => cases o <;> rfl
theorem e_varK : varK (some (some v)) st = .ok v st := rfl
theorem e_c : cE x st = .ok (.d x) st := rfl
theorem e_bin {g : Val → Val → S → OE} : bin2 g fa fb st = (fa st).bind fun x st1 => (fb st1).bind fun y st2 => g x y st2 := rfl
theorem e_un {g : Val → S → OE} : un1 g fa st = (fa st).bind g := rfl
theorem e_call {g : List Val → S → OE} : callE g fs st = (seqE fs st).bind g := rfl
theorem e_nil : seqE [] st = .ok [] st := rfl
theorem e_cons : seqE (f :: fs) st = (f st).bind fun v st1 => (seqE fs st1).bind fun vs st2 => .ok (v :: vs) st2 := rfl
theorem e_tup : tupE fs st = (seqE fs st).bind fun vs st1 => tupK (toDs vs st1) := by
  unfold tupE
  congr 1
theorem e_tupK : tupK (some (xs, st)) = .ok (.d (.tup xs)) st := rfl
theorem e_lst : lstE fs st = (seqE fs st).bind fun vs st1 => lstK (toDs vs st1) := by
  unfold lstE
  congr 1
theorem e_lstK : lstK (some (xs, st)) = newLst xs st := rfl
theorem e_newLst : newLst xs ⟨vs, cs⟩ = .ok (.c cs.length) ⟨vs, cs ++ [.own xs]⟩ := rfl
theorem toDs_nil : toDs [] st = some ([], st) := rfl
theorem toDs_d : toDs (.d x :: ws) st = (toDs ws st).map fun p => (x :: p.1, p.2) := by
  simp only [toDs, toD]
  cases toDs ws st <;> rfl
theorem e_callV {d : List Ar → RD} : callV d ws st = argK d st (toArs ws st) := by
  unfold callV argK
  cases toArs ws st <;> rfl
theorem e_callVT {d : List Ar → RD} : callVT d ws st = argKT d st (toArs ws st) := by
  unfold callVT argKT
  cases toArs ws st <;> rfl
theorem ar_nil : toArs [] st = some ([], []) := rfl
theorem ar_cons : toArs (v :: ws) st = consA v st (toArs ws st) := by
  unfold consA
  simp only [toArs]
  try (cases toArs ws st <;> rfl)
theorem ar_d {as : List Ar} {ns : List Nat} : consA (.d x) st (some (as, ns)) = some (.d x :: as, ns) := rfl
theorem ar_t {b : Bool} {as : List Ar} {ns : List Nat} : consA (.t b nm x) st (some (as, ns)) = some (.t b nm x :: as, ns) := rfl
theorem e_argK {d : List Ar → RD} {as : List Ar} {ns : List Nat} (h : noT as = true) : argK d st (some (as, ns)) = afterD ns st (d as) := by
  show (if noT as = true then _ else _) = _
  rw [if_pos h]
theorem e_argKT {d : List Ar → RD} {as : List Ar} {ns : List Nat} : argKT d st (some (as, ns)) = afterD ns st (d as) := rfl
theorem af_d {ns : List Nat} {c' : List Cell} : afterD ns ⟨vs, cs⟩ (.ok (.d x) c') = .ok (.d x) ⟨vs, updC ns c' cs⟩ := rfl
theorem af_new {ns : List Nat} {c' : List Cell} : afterD ns ⟨vs, cs⟩ (.ok (.new xs) c') = newLst xs ⟨vs, updC ns c' cs⟩ := rfl
theorem af_exc {ns : List Nat} {c' : List Cell} : afterD ns ⟨vs, cs⟩ (.exc nm x c') = .exc nm x ⟨vs, updC ns c' cs⟩ := rfl
theorem up_nil {c' : List Cell} : updC [] c' cs = cs := by cases c' <;> rfl
theorem up_cons {n : Nat} {ns : List Nat} {cl : Cell} {c' : List Cell} : updC (n :: ns) (cl :: c') cs = updC ns c' (cs.set n cl) := rfl
theorem e_run {np nl : Nat} {as : List Ar} (h : as.length = np) : runD np nl g as = endD (inC as).length (g (startS nl as)) := by
  unfold runD
  rw [if_pos h]
  unfold endD
  cases g (startS nl as) with
  | ok fl st => cases fl <;> rfl
  | exc _ _ _ => rfl
  | bad => rfl
theorem end_ret {n : Nat} : endD n (.ok (.ret v) st) = outR n v st := rfl
theorem end_exc {n : Nat} : endD n (.exc nm x st) = .exc nm x (st.c.take n) := rfl
theorem end_nx {n : Nat} : endD n (.ok .nx st) = .ok (.d .non) (st.c.take n) := rfl
theorem out_d {n : Nat} : outR n (.d x) st = .ok (.d x) (st.c.take n) := rfl
variable {a b : Int}
theorem v_add : addV (.d (.int a)) (.d (.int b)) st = .ok (.d (.int (a + b))) st := rfl
theorem v_sub : subV (.d (.int a)) (.d (.int b)) st = .ok (.d (.int (a - b))) st := rfl
theorem v_mul (h : a.natAbs.log2 + b.natAbs.log2 < 1000000) : mulV (.d (.int a)) (.d (.int b)) st = .ok (.d (.int (a * b))) st := by
  show (if _ then _ else _) = _
  rw [if_pos h]; rfl
theorem v_div (h : b ≠ 0) (h2 : b.natAbs.log2 < 9000) : divV (.d (.int a)) (.d (.int b)) st = .ok (.d (.int (a.fdiv b))) st := by
  show (if decide (b ≠ 0 ∧ b.natAbs.log2 < 9000) = true then _ else _) = _
  rw [if_pos (decide_eq_true ⟨h, h2⟩)]; rfl
theorem v_mod (h : b ≠ 0) : modV (.d (.int a)) (.d (.int b)) st = .ok (.d (.int (a.fmod b))) st := by
  show (if decide (b ≠ 0) = true then _ else _) = _
  rw [if_pos (decide_eq_true h)]; rfl
theorem v_neg : negV (.d (.int a)) st = .ok (.d (.int (-a))) st := rfl
theorem v_lt : ltV (.d (.int a)) (.d (.int b)) st = .ok (.d (.bl (decide (a < b)))) st := rfl
theorem v_le : leV (.d (.int a)) (.d (.int b)) st = .ok (.d (.bl (decide (a ≤ b)))) st := rfl
theorem v_gt : gtV (.d (.int a)) (.d (.int b)) st = .ok (.d (.bl (decide (b < a)))) st := rfl
theorem v_ge : geV (.d (.int a)) (.d (.int b)) st = .ok (.d (.bl (decide (b ≤ a)))) st := rfl
theorem v_eqI : eqV false (.d (.int a)) (.d (.int b)) st = .ok (.d (.bl (a == b))) st := rfl
theorem v_neI : eqV true (.d (.int a)) (.d (.int b)) st = .ok (.d (.bl (!(a == b)))) st := rfl
theorem v_gcd : gcdV [.d (.int a), .d (.int b)] st = .ok (.d (.int ((Nat.gcd a.natAbs b.natAbs : Nat) : Int))) st := rfl
theorem v_abs : absV [.d (.int a)] st = .ok (.d (.int (if a < 0 then -a else a))) st := rfl
theorem v_max : maxV [.d (.int a), .d (.int b)] st = .ok (.d (.int (if b > a then b else a))) st := rfl
theorem v_int : toIntV [.d (.int a)] st = .ok (.d (.int a)) st := rfl
theorem v_ixT (h : atI xs a = some x) : ixV (.d (.tup xs)) (.d (.int a)) st = .ok (.d x) st := by
  unfold ixV seqOf
  simp only [h]
theorem v_ixC {n : Nat} {cl : Cell} (hc : st.c[n]? = some cl) (h : atI cl.xs a = some x) : ixV (.c n) (.d (.int a)) st = .ok (.d x) st := by
  unfold ixV seqOf
  simp only [hc, Option.map_some, h]
theorem v_lenT : lenV [.d (.tup xs)] st = .ok (.d (.int xs.length)) st := rfl
theorem v_lenL : lenV [.d (.lst xs)] st = .ok (.d (.int xs.length)) st := rfl
theorem e_run1 {nl : Nat} {x : Ar} : runD 1 nl g [x] = endD (inC [x]).length (g (startS nl [x])) := e_run rfl
theorem e_run2 {nl : Nat} {x y : Ar} : runD 2 nl g [x, y] = endD (inC [x, y]).length (g (startS nl [x, y])) := e_run rfl
theorem e_run3 {nl : Nat} {x y z : Ar} : runD 3 nl g [x, y, z] = endD (inC [x, y, z]).length (g (startS nl [x, y, z])) := e_run rfl
theorem e_run4 {nl : Nat} {x y z u : Ar} : runD 4 nl g [x, y, z, u] = endD (inC [x, y, z, u]).length (g (startS nl [x, y, z, u])) := e_run rfl
theorem s_d1 {nl : Nat} {x : D} : startS nl [.d x] = ⟨some (.d x) :: List.replicate (nl - 1) none, []⟩ := rfl
theorem s_d2 {nl : Nat} {x y : D} : startS nl [.d x, .d y] = ⟨some (.d x) :: some (.d y) :: List.replicate (nl - 2) none, []⟩ := rfl
theorem s_od {nl : Nat} {y : D} : startS nl [.o xs, .d y] = ⟨some (.c 0) :: some (.d y) :: List.replicate (nl - 2) none, [.own xs]⟩ := rfl
theorem s_oo {nl : Nat} : startS nl [.o xs, .o ys] = ⟨some (.c 0) :: some (.c 1) :: List.replicate (nl - 2) none, [.own xs, .own ys]⟩ := rfl
theorem s_o1 {nl : Nat} : startS nl [.o xs] = ⟨some (.c 0) :: List.replicate (nl - 1) none, [.own xs]⟩ := rfl
theorem s_odd {nl : Nat} {x y : D} : startS nl [.o xs, .d x, .d y] = ⟨some (.c 0) :: some (.d x) :: some (.d y) :: List.replicate (nl - 3) none, [.own xs]⟩ := rfl
theorem s_t1 {nl : Nat} {b : Bool} : startS nl [.t b nm x] = ⟨some (.t b nm x) :: List.replicate (nl - 1) none, []⟩ := rfl
theorem s_td {nl : Nat} {b : Bool} {y : D} : startS nl [.t b nm x, .d y] = ⟨some (.t b nm x) :: some (.d y) :: List.replicate (nl - 2) none, []⟩ := rfl
theorem ic_d {as : List Ar} : inC (.d x :: as) = inC as := rfl
theorem ic_o {as : List Ar} : inC (.o xs :: as) = .own xs :: inC as := rfl
theorem ic_t {as : List Ar} {b : Bool} : inC (.t b nm x :: as) = inC as := rfl
theorem ic_nil : inC [] = [] := rfl
theorem nt_d {as : List Ar} : noT (.d x :: as) = noT as := rfl
theorem nt_o {as : List Ar} : noT (.o xs :: as) = noT as := rfl
theorem nt_nil : noT [] = true := rfl
theorem e_argD {d : List Ar → RD} : argK d st (some ([.d x], [])) = afterD [] st (d [.d x]) := rfl
theorem e_argDD {d : List Ar → RD} {y : D} : argK d st (some ([.d x, .d y], [])) = afterD [] st (d [.d x, .d y]) := rfl
theorem e_meth {T : String} {g : Val → List Val → S → OE} {fo : S → OE} : methE T g fo fs st = (fo st).bind fun v st1 => if tyOk T v st1 = true then (seqE fs st1).bind fun vs st2 => g v vs st2 else .bad := rfl
theorem ty_c {n : Nat} : tyOk "list" (.c n) ⟨vs, cs⟩ = (cs[n]?).isSome := by
  unfold tyOk rdOf
  simp
theorem ty_s {z : Str} : tyOk "str" (.d (.str z)) st = true := rfl
theorem v_app {n : Nat} (h : cs[n]? = some (.own xs)) (hl : xs.length < 1000000) : appV (.c n) [.d x] ⟨vs, cs⟩ = .ok (.d .non) ⟨vs, cs.set n (.own (xs ++ [x]))⟩ := by
  unfold appV toD
  simp only [h, hl, if_true]
theorem v_extC {n k : Nat} {cl : Cell} (h : cs[n]? = some (.own xs)) (h2 : cs[k]? = some cl) (hl : xs.length + cl.xs.length ≤ 1000000) : extV (.c n) [.c k] ⟨vs, cs⟩ = .ok (.d .non) ⟨vs, cs.set n (.own (xs ++ cl.xs))⟩ := by
  unfold extV lstOf
  simp only [h, h2, Option.map_some, hl, if_true]
theorem v_pop {n : Nat} (h : cs[n]? = some (.own (xs ++ [x]))) : popV (.c n) [] ⟨vs, cs⟩ = .ok (.d x) ⟨vs, cs.set n (.own xs)⟩ := by
  unfold popV
  simp [h]
theorem e_lam {d : List Ar → RD} {caps : List Nat} {fb : S → OE} : lamE d caps fb fs st = match frzL caps st with
    | none => .bad
    | some (xs, st1) => match thkOf fb st.v.length caps xs with
      | none => .bad
      | some (ok, nm, y) => (seqE fs st1).bind fun vs st2 => match toArs vs st2 with
        | some (as, ns) => if noT as then afterD ns st2 (d (.t ok nm y :: as)) else .bad
        | none => .bad := rfl
theorem f_cons {gt : D → S → Option S} {ck : Option Nat} {all r : List D} (hg : gdOk ck all st = true) (hx : gt x st = some st1) : forL gt g ck all (x :: r) st = nextL (g st1) (forL gt g ck all r) := by
  rw [forL, if_pos hg]
  simp only [hx]
  unfold nextL
  cases g st1 with
  | ok fl _ => cases fl <;> rfl
  | exc _ _ _ => rfl
  | bad => rfl
theorem f_nil {gt : D → S → Option S} {ck : Option Nat} {all : List D} (hg : gdOk ck all st = true) : forL gt g ck all [] st = .ok .nx st := by rw [forL, if_pos hg]
theorem n_nx {k : S → OS} : nextL (.ok .nx st) k = k st := rfl
theorem n_ct {k : S → OS} : nextL (.ok .ct st) k = k st := rfl
theorem n_bk {k : S → OS} : nextL (.ok .bk st) k = .ok .nx st := rfl
theorem n_ret {k : S → OS} : nextL (.ok (.ret v) st) k = .ok (.ret v) st := rfl
theorem e_for {it : S → IO} {gt : D → S → Option S} : forS it gt g st = (it st).bind fun p st1 => forL gt g p.2 p.1 p.1 st1 := rfl
theorem e_itE : itE f st = (f st).bind itV := rfl
theorem e_itA {gv : List Val → S → IO} : itA gv fs st = (seqE fs st).bind gv := rfl
theorem e_nameT : nameT i x ⟨vs, cs⟩ = some ⟨vs.set i (some (.d x)), cs⟩ := rfl
theorem e_tupT {n : Nat} {hh : List D → S → Option S} (hl : xs.length = n) : tupT n hh (.tup xs) st = hh xs st := by
  show (if xs.length = n then _ else _) = _
  rw [if_pos hl]
theorem e_consT {gt : D → S → Option S} {hh : List D → S → Option S} : consT gt hh (x :: xs) st = (gt x st).bind (hh xs) := rfl
theorem e_nilT : nilT [] st = some st := rfl
def parK (i j : Nat) (ws : List Val) (st : S) : OS := match ws with
  | [v, w] => .ok .nx { st with v := (st.v.set i (some v)).set j (some w) }
  | _ => .bad
theorem e_par {j : Nat} : parS i j fa fb st = (seqE [fa, fb] st).bind (parK i j) := by
  unfold parS
  congr 1
theorem e_parK {j : Nat} {v w : Val} : parK i j [v, w] ⟨vs, cs⟩ = .ok .nx ⟨(vs.set i (some v)).set j (some w), cs⟩ := rfl
def asgK (gt : D → S → Option S) : Option (D × S) → OS
  | some (x, st) => match gt x st with
    | some st1 => .ok .nx st1
    | none => .bad
  | none => .bad
theorem e_asg {gt : D → S → Option S} : asgS gt f st = (f st).bind fun v st1 => asgK gt (toD v st1) := by
  unfold asgS
  congr 1
theorem toD_d : toD (.d x) st = some (x, st) := rfl
theorem e_asgK {gt : D → S → Option S} : asgK gt (some (x, st)) = match gt x st with
    | some st1 => .ok .nx st1
    | none => .bad := rfl
theorem e_rng1 {n : Nat} (h : bigI n = true) : rng1V [.d (.int n)] st = .ok (rngL 0 n, none) st := by
  unfold rng1V
  simp only [h, if_true, Int.toNat_natCast]
theorem e_rngI (h : bigI a = true) : rng1V [.d (.int a)] st = .ok (rngL 0 a.toNat, none) st := by
  unfold rng1V
  simp only [h, if_true]
theorem gd_none : gdOk none xs st = true := rfl
theorem c_no {gt : D → S → Option S} {us : List Nat} {v0 : List (Option Val)} {ck : Option Nat} {all r : List D} {st2 : S} (hg : gdOk ck all st = true) (hx : gt x ⟨wipeV v0 us, st.c⟩ = some st1) (ht : t st1 = .ok (.d (.bl false)) st2) :
    compL gt t f us v0 ck all (x :: r) st = compL gt t f us v0 ck all r ⟨v0, st2.c⟩ := by
  rw [compL, if_pos hg]
  simp only [hx, ht]
theorem c_yes {gt : D → S → Option S} {us : List Nat} {v0 : List (Option Val)} {ck : Option Nat} {all r : List D} {st2 st3 st4 : S} {y : D} (hg : gdOk ck all st = true) (hx : gt x ⟨wipeV v0 us, st.c⟩ = some st1) (ht : t st1 = .ok (.d (.bl true)) st2) (hf : f st2 = .ok v st3) (hd : toD v st3 = some (y, st4)) :
    compL gt t f us v0 ck all (x :: r) st = (compL gt t f us v0 ck all r ⟨v0, st4.c⟩).bind fun ys st5 => .ok (y :: ys) st5 := by
  rw [compL, if_pos hg]
  simp only [hx, ht, hf, hd]
theorem c_nil {gt : D → S → Option S} {us : List Nat} {v0 : List (Option Val)} {ck : Option Nat} {all : List D} (hg : gdOk ck all st = true) : compL gt t f us v0 ck all [] st = .ok [] st := by rw [compL, if_pos hg]
theorem e_comp {it : S → IO} {gt : D → S → Option S} {us : List Nat} : compE it gt t f us st = (it st).bind fun p st1 => if p.1.length ≤ 1000000 then (compL gt t f us st1.v p.2 p.1 p.1 st1).bind newLst else .bad := rfl
theorem v_itT : itV (.d (.tup xs)) st = .ok (xs, none) st := rfl
theorem v_itL : itV (.d (.lst xs)) st = .ok (xs, none) st := rfl
theorem v_itC {n : Nat} {cl : Cell} (h : st.c[n]? = some cl) : itV (.c n) st = .ok (cl.xs, some n) st := by
  unfold itV seqOf
  simp only [h, Option.map_some]
  rfl
theorem v_eq {neg : Bool} {va vb : Val} {y : D} (h1 : dOf va st = some x) (h2 : dOf vb st = some y) (o1 : okD x = true) (o2 : okD y = true) : eqV neg va vb st = .ok (.d (.bl (if neg then !eqD x y else eqD x y))) st := by
  unfold eqV
  simp only [h1, h2, o1, o2, Bool.and_self, if_true]
  rfl
theorem dOf_d : dOf (.d x) st = some x := rfl
theorem dOf_c {n : Nat} {cl : Cell} (h : cs[n]? = some cl) : dOf (.c n) ⟨vs, cs⟩ = some (.lst cl.xs) := by
  unfold dOf
  simp only [h, Option.map_some]
end
end Sh
end
section
set_option Elab.async false
set_option linter.all false
set_option maxRecDepth 100000
set_option maxHeartbeats 2000000
namespace Sh
open PySem PySem.Spec PyProof.Rows
open L2 hiding St

/-! ### all, any, sum of a list -/
def intsOf : List D → Option (List Int)
  | [] => some []
  | .int b :: r => (intsOf r).map (b :: ·)
  | _ => none
def ofLst {α : Type} (g : List D → Option α) (k : α → S → OE) (vs : List Val) (st : S) : OE := match vs with
  | [va] => match lstOf va st with
    | some xs => match g xs with
      | some bs => k bs st
      | none => .bad
    | none => .bad
  | _ => .bad
def sumV := ofLst intsOf fun bs => intR bs.sum
section
variable {c : Cn} {m : Fm} {W : WX} {σ : L2.St} {F F1 : Fz} {α α1 : List Addr} {H H1 : Hp} {st st1 : S}
theorem ints_ok : ∀ {xs : List D} {bs : List Int} {us : List V}, intsOf xs = some bs → Reps c F H xs us → us = bs.map V.int
  | [], bs, us, e, r => by cases e; cases r; rfl
  | .int b :: xs, bs, us, e, r => by
    cases r with
    | cons r1 r2 =>
      cases r1
      unfold intsOf at e
      cases q : intsOf xs with
      | none => rw [q] at e; cases e
      | some l =>
        rw [q] at e
        cases e
        rw [ints_ok q r2]; rfl
  | .non :: _, _, _, e, _ => by cases e
  | .bl _ :: _, _, _, e, _ => by cases e
  | .str _ :: _, _, _, e, _ => by cases e
  | .obj _ :: _, _, _, e, _ => by cases e
  | .ty _ :: _, _, _, e, _ => by cases e
  | .tup _ :: _, _, _, e, _ => by cases e
  | .lst _ :: _, _, _, e, _ => by cases e
  | .klst _ :: _, _, _, e, _ => by cases e
theorem ofLst_get {α' : Type} {g : List D → Option α'} {k : α' → S → OE} {vs : List Val} {xs : List V} {Q : VK} (sr : SR c m st F α σ H) (ra : VRs c m F α H vs xs) (p : PEo c m W σ F α H Q (ofLst g k vs st)) :
    ∃ a ys us bs, xs = [.ref a] ∧ H a = some (.lst us) ∧ Reps c F H ys us ∧ g ys = some bs ∧ PEo c m W σ F α H Q (k bs st) := by
  unfold ofLst at p
  split at p
  · cases ra with
    | cons r1 r2 =>
      cases r2
      split at p
      · rename_i ys hy
        split at p
        · rename_i bs hb
          obtain ⟨a, us, rfl, h1, h2⟩ := lstOf_ok sr r1 hy
          exact ⟨a, ys, us, bs, rfl, h1, h2, hb, p⟩
        · exact p.elim
      · exact p.elim
  · exact p.elim
theorem all_ok : RCall c m W allV (rAll c.K) := fun st F α σ H va x Q sr ra p => foldB_ok st F α σ H va x Q sr ra p
theorem any_ok : RCall c m W anyV (rAny c.K) := fun st F α σ H va x Q sr ra p => foldB_ok st F α σ H va x Q sr ra p
theorem sum_ok : RCall c m W sumV (rSum c.K) := fun st F α σ H va x Q sr ra p => by
  obtain ⟨a, ys, us, bs, rfl, h1, h2, h3, p⟩ := ofLst_get sr ra p
  refine ⟨a, bs, rfl, ?_, p.now sr .int⟩
  rw [← ints_ok h3 h2]
  exact .inl (.inl h1)

theorem room65 {k : Nat} {A : Around} (r : Room k A) : A.units + 65 < cLine := by have := r.un; omega
/-! ### x in a list or a tuple -/
def itemsD : D → Option (List D)
  | .tup xs => some xs
  | .lst xs => some xs
  | .klst xs => some xs
  | _ => none
def memV (neg : Bool) (va vb : Val) (st : S) : OE := match dOf va st, dOf vb st with
  | some x, some y => match itemsD y with
    | some ys => if okD x && okD y then boolR (if neg then !(ys.any fun z => eqD z x) else ys.any fun z => eqD z x) st else .bad
    | none => .bad
  | _, _ => .bad
def rMem (K : PySem.W.Frag) (neg : Bool) : R2 := fun x y H Q => ∃ d ds, Dp K H x d ∧ (Dp K H y (.list ds) ∧ SeqAt.shaped (.list ds) = true ∨ Dp K H y (.tuple ds) ∧ SeqAt.shaped (.tuple ds) = true) ∧ SeqAt.shaped d = true ∧ Q (.bl (if neg then !(ds.any fun z => PyData.eqv z d) else ds.any fun z => PyData.eqv z d)) H
theorem op_mem {X : Cx} (hu : X.A.units + 65 < cLine) : OpR X (compareOp .In) (rMem X.K false) := by
  intro pins s σ H x y v u Q I rx ry h
  obtain ⟨d, ds, hd, he | he, sd, q⟩ := h
  · obtain ⟨he, se⟩ := he
    obtain ⟨as, r1⟩ := Dp.reads I d x v hd rx
    obtain ⟨bs, r2⟩ := Dp.reads I (.list ds) y u he ry
    exact SeqAt.in_list_reads r2 r1 (SeqAt.canLay_of_shaped se) (SeqAt.canLay_of_shaped sd) (room_in_shaped sd hu) ⟨.bl _, H, I, rfl, q⟩
  · obtain ⟨he, se⟩ := he
    obtain ⟨as, r1⟩ := Dp.reads I d x v hd rx
    obtain ⟨bs, r2⟩ := Dp.reads I (.tuple ds) y u he ry
    exact SeqAt.in_tuple_reads r2 r1 (SeqAt.canLay_of_shaped se) (SeqAt.canLay_of_shaped sd) (room_in_shaped sd hu) ⟨.bl _, H, I, rfl, q⟩
theorem op_notMem {X : Cx} (hu : X.A.units + 65 < cLine) : OpR X (compareOp .NotIn) (rMem X.K true) := by
  intro pins s σ H x y v u Q I rx ry h
  obtain ⟨d, ds, hd, he | he, sd, q⟩ := h
  · obtain ⟨he, se⟩ := he
    obtain ⟨as, r1⟩ := Dp.reads I d x v hd rx
    obtain ⟨bs, r2⟩ := Dp.reads I (.list ds) y u he ry
    exact SeqAt.notIn_list_reads r2 r1 (SeqAt.canLay_of_shaped se) (SeqAt.canLay_of_shaped sd) (room_in_shaped sd hu) ⟨.bl _, H, I, rfl, q⟩
  · obtain ⟨he, se⟩ := he
    obtain ⟨as, r1⟩ := Dp.reads I d x v hd rx
    obtain ⟨bs, r2⟩ := Dp.reads I (.tuple ds) y u he ry
    exact SeqAt.notIn_tuple_reads r2 r1 (SeqAt.canLay_of_shaped se) (SeqAt.canLay_of_shaped sd) (room_in_shaped sd hu) ⟨.bl _, H, I, rfl, q⟩
theorem pys_any {x : D} (hx : wf x = true) : ∀ {ys : List D}, wfs ys = true → ((pys ys).any fun z => PyData.eqv z (py x)) = ys.any fun z => eqD z x
  | [], _ => by simp only [pys, List.any_nil]
  | y :: ys, h => by
    simp only [wfs, Bool.and_eq_true] at h
    simp only [pys, List.any_cons, py_eqv y x h.1 hx, pys_any hx h.2]
theorem mem_ok {neg : Bool} : ROp c m W (memV neg) (rMem c.K neg) := fun st F α σ H va vb x y Q sr ra rb p => by
  unfold memV at p
  split at p
  · rename_i a b h1 h2
    split at p
    · rename_i ys hy
      split at p
      · rename_i h
        rw [Bool.and_eq_true] at h
        have wa : wf a = true := by have := h.1; unfold okD at this; rw [Bool.and_eq_true] at this; exact this.1
        have wb : wf b = true := by have := h.2; unfold okD at this; rw [Bool.and_eq_true] at this; exact this.1
        have hb := dOf_dp sr rb h2 wb
        have sb := py_shaped h.2
        refine ⟨py a, pys ys, dOf_dp sr ra h1 wa, ?_, py_shaped h.1, ?_⟩
        · cases b with
          | tup l => cases hy; exact .inr ⟨by simpa only [py] using hb, by simpa only [py] using sb⟩
          | lst l => cases hy; exact .inl ⟨by simpa only [py] using hb, by simpa only [py] using sb⟩
          | klst l => cases hy; exact .inl ⟨by simpa only [py] using hb, by simpa only [py] using sb⟩
          | _ => cases hy
        · have wy : wfs ys = true := by
            cases b with
            | tup l => cases hy; simpa only [wf] using wb
            | lst l => cases hy; simpa only [wf] using wb
            | klst l => cases hy; simpa only [wf] using wb
            | _ => cases hy
          rw [pys_any wa wy]
          exact p.now sr .bl
      · exact p.elim
    · exact p.elim
  · exact p.elim
end

/-! ### enumerate -/
/-- enumerate(v): its two new cells -/
theorem meets_enum1 {v : Value} {o : Obj} {H : Heap → Prop} (B : Begins v o H) :
    Meets (Builtin.«enumerate.__new__» ⟨[.type "enumerate", v], []⟩) (fun _ R s => H s.heap ∧
      R (.ok (.ret (.ref (s.heap.push o).objs.size))) { s with heap := (s.heap.push o).push { cls := .type "enumerate", data := .fields #[.none, .bool false, .ref s.heap.objs.size, rawInt 0, .none, .none] } }) :=
  .of_wp fun prog w A R s h => by
    obtain ⟨hp, g, d, tk, os⟩ := s; obtain ⟨h1, h⟩ := h
    have hsub := sub_enumerate
    have q1 : ∀ {A' : Around} {E : Value → Shared → Prop} {Q : Value → Shared → Prop}, Q (.ref hp.objs.size) ⟨hp.push o, g, d, tk, os⟩ → wpAny (model prog w) A' (pyIter v) Q E ⟨hp, g, d, tk, os⟩ :=
      fun q => B.iter prog w _ _ ⟨hp, g, d, tk, os⟩ _ h1 q
    wp_walk using q1
    refine wpAny_stack_any fun st => wpAny_pure ?_
    split
    · rename_i c _ _ _ _ _
      cases (c == Value.type "enumerate")
      · wp_walk using q1
        exact ⟨_, rfl, h⟩
      · wp_walk using q1
        exact ⟨_, rfl, h⟩
    · wp_walk using q1
      exact ⟨_, rfl, h⟩
theorem call_enum1 {prog : Program} {w : World} {A : Around} {E : Value → Shared → Prop} {s : Shared} {v : Value} {o : Obj} {H : Heap → Prop} {Q : Value → Shared → Prop} (B : Begins v o H) (h1 : H s.heap)
    (h : ∀ h', IsEnum h' (s.heap.objs.size + 1) s.heap.objs.size 0 .none → h'.get? s.heap.objs.size = some o → h'.objs.size = s.heap.objs.size + 2 →
      (∀ b o, s.heap.get? b = some o → h'.get? b = some o) → Q (.ref (s.heap.objs.size + 1)) { s with heap := h' }) :
    wpAny (model prog w) A (call (.type "enumerate") [v]) Q E s := by
  refine callType_new F.called_enumerate (by decide) (F.typeCall_enumerate_1 _) (F.newCall_enumerate_1 _) (fun obj => F.args_object_init_2 obj _) F.entry_enumerate_new
    (meets_enum1 B) ⟨h1, ?_⟩
  have hz : (s.heap.push o).objs.size = s.heap.objs.size + 1 := Heap.size_push ..
  show _ ∧ _
  rw [hz]
  have he : IsEnum ((s.heap.push o).push { cls := .type "enumerate", data := .fields #[.none, .bool false, .ref s.heap.objs.size, rawInt 0, .none, .none] }) (s.heap.objs.size + 1) s.heap.objs.size 0 .none := by
    have := Heap.get?_push_size (s.heap.push o) (o := { cls := .type "enumerate", data := .fields #[.none, .bool false, .ref s.heap.objs.size, rawInt 0, .none, .none] }) rfl
    rw [hz] at this; exact this
  refine ⟨⟨_, he, rfl⟩, h _ he (Heap.get?_push_of_some _ (Heap.get?_push_size _ B.free)) (by rw [Heap.size_push, hz]) fun b o x => Heap.get?_push_of_some _ (Heap.get?_push_of_some _ x)⟩
theorem wpAny_pyNext_enum_endT {prog : Program} {w : World} {A : Around} {E : Value → Shared → Prop} {s : Shared} {e it a : Addr} {items : Array Value} {j : Nat} {i : Int} {old : Value} {Q : Option Value → Shared → Prop}
    (hh : A.handled = none) (he : IsEnum s.heap e it i old) (hit : s.heap.IsTupleIter it a j) (ht : s.heap.IsTuple a items) (hx : items[j]? = none)
    (hQ : ∀ h', Heap.ExtBut it s.heap h' → Q none { s with heap := h' }) : wpAny (model prog w) A (pyNext (.ref e)) Q E s := by
  have hT : s.TypeIs (.ref e) "enumerate" := ⟨_, he, rfl⟩
  unfold pyNext
  refine wpAny_bind (wpAny_attempt (wpAny_callSpecial?_slot (name := Str.ofString "__next__") hT F.slot_enumerate_next
    (wpAny_call_entry F.slot_enumerate_next hT F.entry_enumerate_next ?_ (F.args_enumerate_next_1 _))))
  show wpAny _ _ (field (.ref e) 2 >>= _) _ _ _
  refine wpAny_bind (wpAny_field he rfl (x := .ref it) rfl ?_)
  refine wpAny_bind (wpAny_nextOf_tuple_end (by exact hh) hit ht hx fun h' x he' hx' => ?_)
  obtain ⟨o, ho, hc⟩ := hx'
  refine wpAny_bind (wpAny_isInstance (T := "StopIteration") (b := true) ⟨o, ho, hc⟩ isSubtype_stop ?_)
  exact wpAny_pure (hQ _ he')
/-- the tuple at a, each item in a new pair -/
def Itf (K : PySem.W.Frag) (a : Addr) : It :=
  ⟨fun i H => ∃ (xs : List V) (x : V), SqT K H a xs ∧ xs[i]? = some x, fun i H v H' => ∃ T x, v = .ref T ∧ H T = none ∧ H' = upd H T (.tup [.int (i : Nat), x]) ∧ ∀ xs, SqT K H a xs → xs[i]? = some x, fun i H => ∃ xs : List V, SqT K H a xs ∧ xs.length ≤ i⟩
theorem turn_enumT {P : Program} {w : World} {K : PySem.W.Frag} {elts : List Expr} {kk : Nat} {tpos : Pos} (a e it : Addr) (hai : a ≠ it) (hae : a ≠ e) :
    Turn P w K (.Tuple elts kk tpos) (Itf K a) [e, it] e (fun i h => (∃ old, IsEnum h e it ((i : Nat) : Int) old) ∧ h.IsTupleIter it a i ∧ e ≠ it) where
  mem := by simp
  obj := fun i h st b hb => by
    obtain ⟨⟨old, he⟩, ⟨o, ho, hc, hd⟩, _⟩ := st
    have e' : b = e ∨ b = it := by simpa using hb
    rcases e' with z | z
    · rw [z]; exact ⟨_, he, fun v q => nomatch q⟩
    · rw [z]; exact ⟨o, ho, fun v q => by rw [hd] at q; cases q⟩
  keep := fun i h h' st k => let ⟨⟨old, he⟩, hi, hne⟩ := st; ⟨⟨old, k e (by simp) _ he⟩, hi.at fun o q => k it (by simp) o q, hne⟩
  item := by
    intro X hP hw hK hc i pins s σ H E I hf st hg
    subst hP hw hK
    obtain ⟨⟨old, he⟩, hit, hne⟩ := st
    obtain ⟨xs, x, hq, hx⟩ := hg
    obtain ⟨its, rv, p, hz⟩ := I.tuple hq
    obtain ⟨u, hu, ru⟩ := rv.get hx
    have hel : e < s.heap.objs.size := Heap.lt_size he
    have hil : it < s.heap.objs.size := by obtain ⟨_, q, _⟩ := hit; exact Heap.lt_size q
    have hlt : i < its.toArray.size := by
      have := (List.getElem?_eq_some_iff.mp hu).1
      simpa using this
    have D := Draws.tuple (prog := X.prog) (w := X.w) (A := X.A.in1) (I.ok.hd hc) it a hai its.toArray
    refine wpAny_pyNext_enum_itemD D he ⟨hit, p⟩ hlt hne (by simp; exact ⟨hne, Ne.symm hae⟩) fun u' h' tk hP ho hst hT hsz hk => ?_
    have hu' : u' = u := by
      have hP : its.toArray[i]? = some u' := hP
      rw [show its.toArray[i]? = its[i]? by simp, hu] at hP
      cases hP; rfl
    subst hu'
    obtain ⟨hit', _⟩ := hst
    refine ⟨_, rfl, wpAny_letOwnedTupleGo_enum (s := { s with heap := h', toks := tk + 1 }) ho fun h'' he' sb => ?_⟩
    have hT2 : h''.get? s.heap.objs.size = some { cls := .type "tuple", data := .seq #[.int i tk, u'] } := (sb.2 _ (Nat.ne_of_gt hel)).trans hT
    have new : ObjOk X.prog X.w (upd H s.heap.objs.size (.tup [.int (i : Nat), x])) h'' s.heap.objs.size (.tup [.int (i : Nat), x]) :=
      ⟨by show 2 ≤ sizeLine; decide, [.int i tk, u'], .cons ⟨_, rfl⟩ (.cons ru .nil), ⟨_, hT2, rfl, _, rfl⟩⟩
    have I1 : Inv X pins σ (upd H s.heap.objs.size (.tup [.int (i : Nat), x])) { s with heap := h'', toks := tk + 1 } :=
      I.turnedNew (ch := [e, it]) (fun b ob hb q => (sb.2 b (fun z => hb (by simp [z]))).trans (hk b ob (fun z => hb (by simp [z])) (fun z => hb (by simp [z])) q)) hf (Nat.le_refl _) new
    refine ⟨.ref s.heap.objs.size, _, I1, rfl, ⟨_, x, rfl, I.hok.fresh (Nat.le_refl _), rfl, fun ys hy => by rw [I.tuple_inj hy hq]; exact hx⟩, ⟨⟨u', ?_⟩, hit'.at fun o q => (sb.2 it (Ne.symm hne)).trans q, hne⟩, fun b hb => ?_⟩
    · have e1 : ((i + 1 : Nat) : Int) = (i : Int) + 1 := by omega
      rw [e1]; exact he'
    · have hb' : b < s.heap.objs.size := by
        have e' : b = e ∨ b = it := by simpa using hb
        rcases e' with z | z
        · rw [z]; exact hel
        · rw [z]; exact hil
      rw [upd_ne (Nat.ne_of_lt hb')]
      exact (hf b hb).1
  done := by
    intro X hP hw hK hc i pins s σ H E I hf st hg
    subst hP hw hK
    obtain ⟨⟨old, he⟩, hit, hne⟩ := st
    obtain ⟨xs, hq, hx⟩ := hg
    obtain ⟨its, rv, p, hz⟩ := I.tuple hq
    obtain ⟨f0, f1, f2, f3, f4, f5⟩ := hf it (by simp)
    have hl := rv.length
    exact wpAny_pyNext_enum_endT (I.ok.hd hc) he hit p (by simp; omega) fun h' eb => ⟨rfl, I.turned (t' := s.toks) (fun b o hb q => eb b o hb q) f0 f1 f3 f4 f5⟩
  self := fun A i s Q E st h => let ⟨⟨_, he⟩, _⟩ := st; wpAny_pyIter_enum he h
/-- a list or a tuple, numbered -/
def iEnumA (K : PySem.W.Frag) (ta : TA) : TI := fun σ H R => ta σ H fun vs H1 => ∃ a, vs = [.ref a] ∧ (((∃ xs, SqL K H1 a xs) ∧ R (Ite K a) H1) ∨ ((∃ xs, SqT K H1 a xs) ∧ R (Itf K a) H1))
theorem pi_enumA {X : Cx} {e : Expr} {ta : TA} {p pos tpos : Pos} {elts : List Expr} {kk : Nat} (hg : Gl X "enumerate") (hm : X.mg "enumerate" = none) (ha : PA X [e] ta) (hs : starEach [e] X.env = [(false, eval e X.env)] := by rfl) :
    PI X (.Tuple elts kk tpos) (.Call (.Name "enumerate" p) [e] [] pos) (iEnumA X.K ta) := by
  refine ⟨fun pins s σ H R I h => ?_⟩
  refine Call_ (ld_blt I hg hm boot_enumerate (PyProof.Rows.callWith_type1 (thn (ha.run pos pins s σ H _ I h) fun us s1 ⟨vs, H1, I1, r1, q1⟩ => ?_) hs rfl))
  obtain ⟨a, ex, q1⟩ := q1
  subst ex
  cases r1 with
  | cons r rr =>
    cases rr
    cases r
    have hfp : ∀ b ∈ [s1.heap.objs.size + 1, s1.heap.objs.size], FpOk X pins H1 b := fun b hb => by
      have e' : b = s1.heap.objs.size + 1 ∨ b = s1.heap.objs.size := by simpa using hb
      have hle : s1.heap.objs.size ≤ b := by
        rcases e' with z | z
        · rw [z]; exact Nat.le_add_right _ _
        · rw [z]; exact Nat.le_refl _
      exact I1.fpOk hle (I1.hok.fresh hle)
    rcases q1 with ⟨⟨xs, hq⟩, q⟩ | ⟨⟨xs, hq⟩, q⟩
    · obtain ⟨its, rv, p', hz⟩ := I1.list hq
      refine call_enumerate_list p'.isList fun h' he hit hsz hk => wpAny_pyIter_enum he ?_
      have I2 : Inv X pins σ H1 { s1 with heap := h' } := I1.kept (t' := s1.toks) hk
      exact ⟨s1.heap.objs.size + 1, [s1.heap.objs.size + 1, s1.heap.objs.size], _, _, H1, rfl, I2, turn_enum a (s1.heap.objs.size + 1) s1.heap.objs.size, ⟨⟨.none, he⟩, hit, Nat.succ_ne_self _⟩, hfp, q⟩
    · obtain ⟨its, rv, p', hz⟩ := I1.tuple hq
      have hal : a < s1.heap.objs.size := by obtain ⟨_, z, _⟩ := p'; exact Heap.lt_size z
      refine call_enum1 (begins_tuple a its.toArray) p' fun h' he hit hsz hk => wpAny_pyIter_enum he ?_
      have I2 : Inv X pins σ H1 { s1 with heap := h' } := I1.kept (t' := s1.toks) hk
      exact ⟨s1.heap.objs.size + 1, [s1.heap.objs.size + 1, s1.heap.objs.size], _, _, H1, rfl, I2, turn_enumT a (s1.heap.objs.size + 1) s1.heap.objs.size (Nat.ne_of_lt hal) (Nat.ne_of_lt (Nat.lt_succ_of_lt hal)), ⟨⟨.none, he⟩, ⟨_, hit, rfl, rfl⟩, Nat.succ_ne_self _⟩, hfp, q⟩
def enuL : Nat → List D → List D
  | _, [] => []
  | n, x :: r => .tup [.int n, x] :: enuL (n + 1) r
theorem enuL_get : ∀ (n : Nat) (xs : List D) (i : Nat), (enuL n xs)[i]? = (xs[i]?).map fun x => D.tup [.int ((n + i : Nat) : Int), x]
  | _, [], i => by simp [enuL]
  | n, x :: r, 0 => by simp [enuL]
  | n, x :: r, i + 1 => by
    simp only [enuL, List.getElem?_cons_succ]
    rw [enuL_get (n + 1) r i, show n + 1 + i = n + (i + 1) by omega]
theorem enuL_len : ∀ (n : Nat) (xs : List D), (enuL n xs).length = xs.length
  | _, [] => rfl
  | n, x :: r => by simp only [enuL, List.length_cons, enuL_len (n + 1) r]
def enuV (vs : List Val) (st : S) : IO := match vs with
  | [v] => match toD v st with
    | some (.tup xs, st1) => .ok (enuL 0 xs, none) st1
    | some (.lst xs, st1) => .ok (enuL 0 xs, none) st1
    | _ => .bad
  | _ => .bad
section
variable {X : Cx} {c : Cn} {m : Fm} {W : WX} {e : Expr} {p pos tpos : Pos} {elts : List Expr} {kk : Nat} {fs : List (S → OE)} {F : Fz} {α : List Addr} {H : Hp}
theorem yl_one {i : Nat} {y : D} {x : V} {σ2 : L2.St} {st2 : S} {F2 : Fz} {α2 : List Addr} {H2 H' : Hp} {T : Addr} (s2 : SR c m st2 F2 α2 σ2 H2) (r : Rep c F2 H2 y x) (hT : H2 T = none) :
    Evo F2 α2 H2 F2 α2 (upd H2 T (.tup [.int (i : Nat), x])) ∧ SR c m st2 F2 α2 σ2 (upd H2 T (.tup [.int (i : Nat), x])) ∧ Rep c F2 (upd H2 T (.tup [.int (i : Nat), x])) (.tup [.int (i : Nat), y]) (.ref T) := by
  obtain ⟨e3, s3⟩ := s2.newT (o := .tup [.int (i : Nat), x]) hT
  exact ⟨e3, s3, .tup (.inl (.inl upd_same)) (.cons .int (.cons (Rep.mono e3.ev r) .nil))⟩
theorem w_enum (hK : X.K = c.K) (hg : Gl X "enumerate" := by rfl) (hm : X.mg "enumerate" = none) (ha : PA X [e] (tA c m W (seqE fs))) (hs : starEach [e] X.env = [(false, eval e X.env)] := by rfl) :
    PI X (.Tuple elts kk tpos) (.Call (.Name "enumerate" p) [e] [] pos) (tW c m W (itA enuV fs)) :=
  PI_imp (pi_enumA hg hm ha hs) fun σ H R ⟨st, F, α, sr, p⟩ => by
    rw [hK]
    refine kA pstW sr p fun vs st1 xs F1 α1 H1 _ s1 r1 p1 => ?_
    unfold enuV at p1
    split at p1
    · cases r1 with
      | cons r1 r2 =>
        cases r2
        split at p1
        · rename_i ys st2 hy
          obtain ⟨F2, e2, s2, r, _⟩ := toD_ok s1 r1 hy
          cases r with
          | @tup a us xs hq rs =>
            refine ⟨a, rfl, .inr ⟨⟨us, hq⟩, p1 _ F2 α1 H1 e2 s2 fun i st3 F3 α3 σ3 H3 e3 s3 _ => ?_⟩⟩
            have hq3 := e3.ev.sqT hq
            refine ⟨fun hl => ⟨us, hq3, by rw [← rs.len, ← enuL_len 0]; exact hl⟩, fun y hy => ?_⟩
            rw [enuL_get] at hy
            cases hx : ys[i]? with
            | none => rw [hx] at hy; cases hy
            | some z =>
              rw [hx] at hy
              cases hy
              obtain ⟨v, hv, rv⟩ := rs.get hx
              refine ⟨⟨us, v, hq3, hv⟩, fun w H' ⟨T, x, hw, hT, hH, hall⟩ => ?_⟩
              subst hw hH
              have := hall us hq3
              rw [hv] at this; cases this
              rw [Nat.zero_add]
              exact yl_one (H' := H3) s3 (Rep.mono e3.ev rv) hT
        · rename_i ys st2 hy
          obtain ⟨F2, e2, s2, r, _⟩ := toD_ok s1 r1 hy
          cases r with
          | @lst a us xs hF hq rs =>
            refine ⟨a, rfl, .inl ⟨⟨us, .inl (.inl hq)⟩, p1 _ F2 α1 H1 e2 s2 fun i st3 F3 α3 σ3 H3 e3 s3 _ => ?_⟩⟩
            have hq3 : SqL c.K H3 a us := .inl (.inl (e3.ev.keep _ _ hF hq))
            refine ⟨fun hl => ⟨us, hq3, by rw [← rs.len, ← enuL_len 0]; exact hl⟩, fun y hy => ?_⟩
            rw [enuL_get] at hy
            cases hx : ys[i]? with
            | none => rw [hx] at hy; cases hy
            | some z =>
              rw [hx] at hy
              cases hy
              obtain ⟨v, hv, rv⟩ := rs.get hx
              refine ⟨⟨us, v, hq3, hv⟩, fun w H' ⟨T, x, hw, hT, hH, hall⟩ => ?_⟩
              subst hw hH
              have := hall us hq3
              rw [hv] at this; cases this
              rw [Nat.zero_add]
              exact yl_one (H' := H3) s3 (Rep.mono e3.ev rv) hT
        · exact p1.elim
    · exact p1.elim

/-! ### ints, texts of the module -/
theorem i_globI {x : Str} {i : Int} {pos : Pos} (hX : CxA c X) (hm : ∃ t, c.mg x = some (.int i t)) (hg : Gl X x := by rfl) (hdb : (x == ("__debug__" : Str)) = false := by decide) : PE X (.Name x pos) (tI c m W (cE (.int i))) := by
  obtain ⟨t, hm⟩ := hm
  exact i_glob hX hm (v := .int i) ⟨_, rfl⟩ (fun _ _ => .int) hg hdb
theorem i_globS {x z : Str} {pos : Pos} (hX : CxA c X) (hm : ∃ t, c.mg x = some (.str z t)) (hg : Gl X x := by rfl) (hdb : (x == ("__debug__" : Str)) = false := by decide) : PE X (.Name x pos) (tI c m W (cE (.str z))) := by
  obtain ⟨t, hm⟩ := hm
  exact i_glob hX hm (v := .str z) ⟨_, rfl⟩ (fun _ _ => .str) hg hdb

theorem i_globO {x : Str} {k : Nat} {f : Addr} {pos : Pos} (hX : CxA c X) (hm : c.mg x = some (.ref f)) (hG : c.G k = some f) (hg : Gl X x := by rfl) (hdb : (x == ("__debug__" : Str)) = false := by decide) : PE X (.Name x pos) (tI c m W (cE (.obj k))) :=
  i_glob hX hm (v := .ref f) rfl (fun _ _ => .obj hG) hg hdb
/-! ### a def in a local -/
theorem mem_lookN {α : Type} : ∀ {l : List (Nat × α)} {k : Nat} {x : α}, l.lookup k = some x → (k, x) ∈ l
  | [], _, _, h => by cases h
  | (j, y) :: l, k, x, h => by
    rw [List.lookup_cons] at h
    split at h
    · rename_i hk
      rw [beq_iff_eq] at hk
      cases h
      subst hk
      exact List.mem_cons_self ..
    · exact List.mem_cons_of_mem _ (mem_lookN h)
def callOE (tb : List (Nat × (List Ar → RD))) (i : Nat) (fs : List (S → OE)) : S → OE := fun st => match st.v[i]? with
  | some (some (.d (.obj k))) => match tb.lookup k with
    | some d => (seqE fs st).bind (callV d)
    | none => .bad
  | _ => .bad
theorem c_callO {i k : Nat} {a : Str} {es : List Expr} {tb : List (Nat × (List Ar → RD))} (bd : Bd c m W X k) (hT : ∀ q ∈ tb, ∃ f j, c.G q.1 = some f ∧ FnS c j f q.2 ∧ j ≤ k ∧ PySem.W.keepIn c.K (.ref f) = true) (ha : PA X (e :: es) (tA c m W (seqE fs)))
    (hN : X.N[i]? = some a := by rfl) (hv : Vis X.env.scope a := by first | exact .inl rfl | exact .inr (.inl rfl) | exact .inr (.inr rfl)) (hd : (a == ("__debug__" : Str)) = false := by decide) (hcd : (a == ("__classdict__" : Str)) = false := by decide)
    (he : starEach (e :: es) X.env = (false, eval e X.env) :: starEach es X.env := by rfl) (hpl : (backTo pos (starEach es X.env)).any (·.1) = false := by rfl) :
    PE X (.Call (.Name a p) (e :: es) [] pos) (tI c m W (callOE tb i fs)) := by
  have hX := bd.hX
  refine ⟨fun pins s σ H Q I h => ?_⟩
  obtain ⟨st, F, α, sr, h⟩ := h
  unfold callOE at h
  split at h
  · rename_i n hi
    split at h
    · rename_i d hdd
      obtain ⟨f, j, hG, hf, hj, hk⟩ := hT _ (mem_lookN hdd)
      have hr := bd.room.mono hj
      obtain ⟨v, h1, r⟩ := sr.vars i _ hi
      have hvf : v = .ref f := by
        cases r with
        | obj hG' =>
          rw [hG] at hG'
          cases hG'
          rfl
      subst hvf
      refine wpAny_Call_Name_kw (thn ((pe_var (pos := p) (i := i) hN hv hd hcd).run pins s σ H (fun v H1 => v = .ref f ∧ H1 = H) I ⟨_, h1, rfl, rfl⟩) fun u s0 ⟨v, H0, I0, r0, q0⟩ => ?_)
      obtain ⟨ev, eH⟩ := q0
      subst ev
      rw [eH] at I0
      obtain rfl : u = Value.ref f := r0
      refine PySem.W.callWith_K (h₀ := X.base) I0.ok.mod.kin (by rw [hX.K]; exact hk) (thn (ha.run pos pins s0 σ H (fun vs H1 => ∃ as F1 io, (∀ tp, ArgsOk c tp F1 H1 as vs io) ∧ io.Nodup ∧ Dom F1 H1 ∧ LamX.Tabs c.T H1 ∧ RDo c F1 H1 io Q (WE W σ) (d as)) I0 ?_) fun us s1 ⟨vs, H1, I1, r, q⟩ => ⟨I1.kIn, ?_⟩) he hpl
      · refine kA pstE sr h fun vs st1 xs F1 α1 H1 _ s1 r1 p1 => ?_
        unfold callV at p1
        split at p1
        · rename_i as ns hq
          split at p1
          · rename_i hn
            obtain ⟨io, h1, h2, h3, h4, h5⟩ := toArs_ok s1 r1 hq
            exact ⟨as, F1, io, fun tp => noT_ok h1 hn, h5, s1.dom, s1.tab, after_ok s1 h2 h3 h4 p1⟩
          · exact p1.elim
        · exact p1.elim
      · obtain ⟨as, F1, io, h1, h2, h3, h4, h5⟩ := q
        exact run_FnS hX hf hr bd.tk I1 h3 h4 (h1 _) h2 r h5
    · exact h.elim
  · exact h.elim

/-! ### in short -/
variable {a b : Expr} {fa fb : S → OE} {x : Str}
theorem c_all (hc : X.calm = true) (hX : CxA c X) (hm : c.mg "all" = none) (ha : PA X [e] (tA c m W (seqE fs))) (hg : Gl X "all" := by rfl) (he : starEach [e] X.env = (false, eval e X.env) :: starEach [] X.env := by rfl) (hpl : (backTo pos (starEach [] X.env)).any (·.1) = false := by rfl) :
    PE X (.Call (.Name "all" p) [e] [] pos) (tI c m W (callE allV fs)) := i_callB (cr_all hc) (by rw [hX.K]; exact all_ok) (by rw [hX.mg]; exact hm) (by decide +kernel) ha hg (by decide) (by decide) he hpl
theorem c_any (hc : X.calm = true) (hX : CxA c X) (hm : c.mg "any" = none) (ha : PA X [e] (tA c m W (seqE fs))) (hg : Gl X "any" := by rfl) (he : starEach [e] X.env = (false, eval e X.env) :: starEach [] X.env := by rfl) (hpl : (backTo pos (starEach [] X.env)).any (·.1) = false := by rfl) :
    PE X (.Call (.Name "any" p) [e] [] pos) (tI c m W (callE anyV fs)) := i_callB (cr_any hc) (by rw [hX.K]; exact any_ok) (by rw [hX.mg]; exact hm) (by decide +kernel) ha hg (by decide) (by decide) he hpl
theorem c_sum (hc : X.calm = true) (hX : CxA c X) (hm : c.mg "sum" = none) (ha : PA X [e] (tA c m W (seqE fs))) (hg : Gl X "sum" := by rfl) (he : starEach [e] X.env = (false, eval e X.env) :: starEach [] X.env := by rfl) (hpl : (backTo pos (starEach [] X.env)).any (·.1) = false := by rfl) :
    PE X (.Call (.Name "sum" p) [e] [] pos) (tI c m W (callE sumV fs)) := i_callB (cr_sum hc) (by rw [hX.K]; exact sum_ok) (by rw [hX.mg]; exact hm) (by decide +kernel) ha hg (by decide) (by decide) he hpl
theorem c_in (hu : X.A.units + 65 < cLine) (hX : CxA c X) (ha : PE X a (tI c m W fa)) (hb : PE X b (tI c m W fb)) (hm : behindInMarks .In b = false := by rfl) : PE X (.Compare a [.In] [b] pos) (tI c m W (bin2 (memV false) fa fb)) := i_cmp (op_mem hu) (by rw [hX.K]; exact mem_ok) ha hb hm
theorem c_notin (hu : X.A.units + 65 < cLine) (hX : CxA c X) (ha : PE X a (tI c m W fa)) (hb : PE X b (tI c m W fb)) (hm : behindInMarks .NotIn b = false := by rfl) : PE X (.Compare a [.NotIn] [b] pos) (tI c m W (bin2 (memV true) fa fb)) := i_cmp (op_notMem hu) (by rw [hX.K]; exact mem_ok) ha hb hm
theorem q_in (hu : X.A.units + 65 < cLine) (hX : CxA c X) (ha : PE X a (tI c m W fa)) (hb : PE X b (tI c m W fb)) (hm : behindInMarks .In b = false := by rfl) : PT X (.Compare a [.In] [b] pos) (tT c m W (bin2 (memV false) fa fb)) := i_testc (op_mem hu) (by rw [hX.K]; exact mem_ok) ha hb hm
theorem q_notin (hu : X.A.units + 65 < cLine) (hX : CxA c X) (ha : PE X a (tI c m W fa)) (hb : PE X b (tI c m W fb)) (hm : behindInMarks .NotIn b = false := by rfl) : PT X (.Compare a [.NotIn] [b] pos) (tT c m W (bin2 (memV true) fa fb)) := i_testc (op_notMem hu) (by rw [hX.K]; exact mem_ok) ha hb hm
end
end Sh
end
section
set_option Elab.async false
set_option linter.all false
set_option maxRecDepth 100000
set_option maxHeartbeats 4000000
namespace Sh
open PySem PySem.Spec PyProof.Rows
open L2 hiding St

/-! ### tuple * 1, () * n: the very tuple -/
theorem tuple_mulS (l : Addr) (items : Array Value) (n : Nat) (dd : Option Addr) (sl : Array (Option Value)) (x : Int) (u : Tok) (c0 : (decide (x < -(2 ^ 63)) || decide (x ≥ 2 ^ 63)) = false) (c1 : (items.isEmpty || x == 1) = true) :
    Meets (Builtin.«tuple.__mul__» ⟨[.ref l, .int x u], []⟩) (fun _ R s => s.heap.get? l = some { cls := .type "tuple", dict := dd, data := .seq items n, slots := sl } ∧
      R (.ok (.ret (Value.ref l))) s) :=
  .of_wp fun prog w A R s h => by
    obtain ⟨hp, g, d, tk, os⟩ := s
    obtain ⟨hl, h⟩ := h
    have f1 := AutoSeq1.idx_int
    wp_walk using wpAny_loadPart' hl
    repeat (first
      | (refine wpAny_ite_false (decide_eq_false (by rw [c0]; exact Bool.false_ne_true)) ?_; wp_walk using wpAny_loadPart' hl)
      | (refine wpAny_ite_true (decide_eq_true c1) ?_; wp_walk using wpAny_loadPart' hl))
    exact ⟨_, rfl, h⟩
def rRepS (K : PySem.W.Frag) : R2 := fun x y H Q => ∃ l k xs, x = .ref l ∧ y = .int k ∧ SqT K H l xs ∧ (xs = [] ∨ k = 1) ∧ -1000000 ≤ k ∧ k ≤ 1000000 ∧ Q (.ref l) H
theorem op_repS {X : Cx} : OpR X (binaryOp .Mult) (rRepS X.K) := by
  intro pins s σ H x y v u Q I rx ry h
  obtain ⟨l, k, xs, rfl, rfl, hT, hk, k1, k2, q⟩ := h
  cases rx
  obtain ⟨t, rfl⟩ := ry
  obtain ⟨its, r, ⟨⟨cls, dd, data, sl⟩, ho, hc, n, hd⟩, hs⟩ := I.tuple hT
  simp only at hc hd
  subst hc hd
  have hle : its.length = xs.length := r.length.symm
  have c0 : (decide (k < -(2 ^ 63)) || decide (k ≥ 2 ^ 63)) = false := by
    rw [decide_eq_false (by omega), decide_eq_false (by omega)] <;> rfl
  have c1 : (its.toArray.isEmpty || k == 1) = true := by
    rcases hk with rfl | rfl
    · cases its with
      | nil => rfl
      | cons a b => simp at hle
    · simp
  exact wpAny_binaryOp_repeat_ref (T := "tuple") (U := "int") (by decide) ⟨_, ho, rfl⟩ (fun s' => typeIs_int s' k t) noFill_tuple_mul F.fills_int_mul F.slot_int_rmul repeat_tuple F.slot_int_index.lookup
    (call_meets F.slot_int_rmul (typeIs_int s k t) F.entry_int_rmul (F.args_int_rmul_2 _ _) (int_rmul_tuple k t l its.toArray n dd sl)
      ⟨ho, rfl, ⟨_, ho, rfl⟩, call_meets F.slot_tuple_mul ⟨_, ho, rfl⟩ F.entry_tuple_mul (F.args_tuple_mul_2 _ _) (tuple_mulS l its.toArray n dd sl k t c0 c1) ⟨ho, ⟨.ref l, H, I, rfl, q⟩⟩⟩)
def mulW (va vb : Val) (st : S) : OE := match va, vb with
  | .d (.tup xs), .d (.int k) => if (xs.isEmpty || k == 1) && (decide (-1000000 ≤ k) && decide (k ≤ 1000000)) then .ok (.d (.tup xs)) st else mulV va vb st
  | _, _ => mulV va vb st
def rMulB (K : PySem.W.Frag) : R2 := fun x y H Q => rRepS K x y H Q ∨ rMulA K x y H Q
theorem op_mulB {X : Cx} : OpR X (binaryOp .Mult) (rMulB X.K) := op_repS.or op_mulA
section
variable {X : Cx} {c : Cn} {m : Fm} {W : WX} {a b : Expr} {fa fb : S → OE} {pos : Pos}
theorem mulB_ok : ROp c m W mulW (rMulB c.K) := fun st F α σ H va vb x y Q sr ra rb p => by
  unfold mulW at p
  split at p
  · rename_i xs k
    split at p
    · rename_i h
      rw [Bool.and_eq_true, Bool.and_eq_true, decide_eq_true_eq, decide_eq_true_eq, Bool.or_eq_true, beq_iff_eq] at h
      obtain ⟨h1, h2, h3⟩ := h
      refine .inl ?_
      cases rb
      cases ra with
      | @tup a us ys hq rs =>
        refine ⟨a, k, us, rfl, rfl, hq, ?_, h2, h3, p.now sr (.tup hq rs)⟩
        rcases h1 with h1 | h1
        · left
          cases xs with
          | nil => cases rs; rfl
          | cons a b => cases h1
        · exact .inr h1
    · exact .inr (mul_ok st F α σ H _ _ x y Q sr ra rb p)
  · exact .inr (mul_ok st F α σ H _ _ x y Q sr ra rb p)
theorem c_mulW (hX : CxA c X) (ha : PE X a (tI c m W fa)) (hb : PE X b (tI c m W fb)) : PE X (.BinOp a .Mult b pos) (tI c m W (bin2 mulW fa fb)) := i_op op_mulB (by rw [hX.K]; exact mulB_ok) ha hb
end
end Sh
end
section
set_option Elab.async false
set_option linter.all false
set_option maxRecDepth 100000
set_option maxHeartbeats 4000000
namespace Sh
open PySem PySem.Spec PyProof.Rows
open L2 hiding St

/-! ### how more mirrors compute -/
section
variable {st st1 : S} {vs : List (Option Val)} {cs : List Cell}
theorem i_non_int : isiV [.d .non, .d (.ty "int")] st = .ok (.d (.bl false)) st := rfl
theorem i_non_bool : isiV [.d .non, .d (.ty "bool")] st = .ok (.d (.bl false)) st := rfl
theorem i_non_str : isiV [.d .non, .d (.ty "str")] st = .ok (.d (.bl false)) st := rfl
theorem i_non_tuple : isiV [.d .non, .d (.ty "tuple")] st = .ok (.d (.bl false)) st := rfl
theorem i_non_list : isiV [.d .non, .d (.ty "list")] st = .ok (.d (.bl false)) st := rfl
theorem i_bl_int {b : Bool} : isiV [.d (.bl b), .d (.ty "int")] st = .ok (.d (.bl true)) st := rfl
theorem i_bl_bool {b : Bool} : isiV [.d (.bl b), .d (.ty "bool")] st = .ok (.d (.bl true)) st := rfl
theorem i_bl_str {b : Bool} : isiV [.d (.bl b), .d (.ty "str")] st = .ok (.d (.bl false)) st := rfl
theorem i_bl_tuple {b : Bool} : isiV [.d (.bl b), .d (.ty "tuple")] st = .ok (.d (.bl false)) st := rfl
theorem i_bl_list {b : Bool} : isiV [.d (.bl b), .d (.ty "list")] st = .ok (.d (.bl false)) st := rfl
theorem n_is_bl {b : Bool} : isNV false (.d (.bl b)) (.d .non) st = .ok (.d (.bl false)) st := rfl
theorem n_no_bl {b : Bool} : isNV true (.d (.bl b)) (.d .non) st = .ok (.d (.bl true)) st := rfl
theorem i_int_int {i : Int} : isiV [.d (.int i), .d (.ty "int")] st = .ok (.d (.bl true)) st := rfl
theorem i_int_bool {i : Int} : isiV [.d (.int i), .d (.ty "bool")] st = .ok (.d (.bl false)) st := rfl
theorem i_int_str {i : Int} : isiV [.d (.int i), .d (.ty "str")] st = .ok (.d (.bl false)) st := rfl
theorem i_int_tuple {i : Int} : isiV [.d (.int i), .d (.ty "tuple")] st = .ok (.d (.bl false)) st := rfl
theorem i_int_list {i : Int} : isiV [.d (.int i), .d (.ty "list")] st = .ok (.d (.bl false)) st := rfl
theorem n_is_int {i : Int} : isNV false (.d (.int i)) (.d .non) st = .ok (.d (.bl false)) st := rfl
theorem n_no_int {i : Int} : isNV true (.d (.int i)) (.d .non) st = .ok (.d (.bl true)) st := rfl
theorem i_str_int {z : Str} : isiV [.d (.str z), .d (.ty "int")] st = .ok (.d (.bl false)) st := rfl
theorem i_str_bool {z : Str} : isiV [.d (.str z), .d (.ty "bool")] st = .ok (.d (.bl false)) st := rfl
theorem i_str_str {z : Str} : isiV [.d (.str z), .d (.ty "str")] st = .ok (.d (.bl true)) st := rfl
theorem i_str_tuple {z : Str} : isiV [.d (.str z), .d (.ty "tuple")] st = .ok (.d (.bl false)) st := rfl
theorem i_str_list {z : Str} : isiV [.d (.str z), .d (.ty "list")] st = .ok (.d (.bl false)) st := rfl
theorem n_is_str {z : Str} : isNV false (.d (.str z)) (.d .non) st = .ok (.d (.bl false)) st := rfl
theorem n_no_str {z : Str} : isNV true (.d (.str z)) (.d .non) st = .ok (.d (.bl true)) st := rfl
theorem i_tup_int {xs : List D} : isiV [.d (.tup xs), .d (.ty "int")] st = .ok (.d (.bl false)) st := rfl
theorem i_tup_bool {xs : List D} : isiV [.d (.tup xs), .d (.ty "bool")] st = .ok (.d (.bl false)) st := rfl
theorem i_tup_str {xs : List D} : isiV [.d (.tup xs), .d (.ty "str")] st = .ok (.d (.bl false)) st := rfl
theorem i_tup_tuple {xs : List D} : isiV [.d (.tup xs), .d (.ty "tuple")] st = .ok (.d (.bl true)) st := rfl
theorem i_tup_list {xs : List D} : isiV [.d (.tup xs), .d (.ty "list")] st = .ok (.d (.bl false)) st := rfl
theorem n_is_tup {xs : List D} : isNV false (.d (.tup xs)) (.d .non) st = .ok (.d (.bl false)) st := rfl
theorem n_no_tup {xs : List D} : isNV true (.d (.tup xs)) (.d .non) st = .ok (.d (.bl true)) st := rfl
theorem i_lst_int {xs : List D} : isiV [.d (.lst xs), .d (.ty "int")] st = .ok (.d (.bl false)) st := rfl
theorem i_lst_bool {xs : List D} : isiV [.d (.lst xs), .d (.ty "bool")] st = .ok (.d (.bl false)) st := rfl
theorem i_lst_str {xs : List D} : isiV [.d (.lst xs), .d (.ty "str")] st = .ok (.d (.bl false)) st := rfl
theorem i_lst_tuple {xs : List D} : isiV [.d (.lst xs), .d (.ty "tuple")] st = .ok (.d (.bl false)) st := rfl
theorem i_lst_list {xs : List D} : isiV [.d (.lst xs), .d (.ty "list")] st = .ok (.d (.bl true)) st := rfl
theorem n_is_lst {xs : List D} : isNV false (.d (.lst xs)) (.d .non) st = .ok (.d (.bl false)) st := rfl
theorem n_no_lst {xs : List D} : isNV true (.d (.lst xs)) (.d .non) st = .ok (.d (.bl true)) st := rfl
theorem n_is_non : isNV false (.d .non) (.d .non) st = .ok (.d (.bl true)) st := rfl
theorem n_no_non : isNV true (.d .non) (.d .non) st = .ok (.d (.bl false)) st := rfl
theorem s_d3 {nl : Nat} {x y z : D} : startS nl [.d x, .d y, .d z] = ⟨some (.d x) :: some (.d y) :: some (.d z) :: List.replicate (nl - 3) none, []⟩ := rfl
theorem s_d4 {nl : Nat} {x y z u : D} : startS nl [.d x, .d y, .d z, .d u] = ⟨some (.d x) :: some (.d y) :: some (.d z) :: some (.d u) :: List.replicate (nl - 4) none, []⟩ := rfl
theorem e_argD3 {d : List Ar → RD} {x y z : D} : argK d st (some ([.d x, .d y, .d z], [])) = afterD [] st (d [.d x, .d y, .d z]) := rfl
theorem e_chain {g1 g2 : Val → Val → S → OE} {fa fb fd : S → OE} : chainE g1 g2 fa fb fd st = (fa st).bind fun x st1 => (fb st1).bind fun y st2 => (g1 x y st2).bind (onB (fun st3 => (fd st3).bind fun z st4 => g2 y z st4) (cE (.bl false))) := rfl
theorem v_toB {b : Bool} : toIntV [.d (.bl b)] st = .ok (.d (.int (if b then 1 else 0))) st := rfl
def raiseK (nm : Str) (v : Val) (st1 : S) : OS := match toD v st1 with
  | some (y, st2) => .exc nm y st2
  | none => .bad
theorem e_raise {nm : Str} {f : S → OE} : raiseS nm f st = (f st).bind (raiseK nm) := rfl
theorem e_raiseK {nm : Str} {y : D} : raiseK nm (.d y) st = .exc nm y st := rfl
end
theorem rng_get {n j : Nat} (h : j < n) : (rngL 0 n)[j]? = some (D.int j) := by
  unfold rngL
  rw [List.getElem?_map, List.getElem?_range h]
  simp
theorem rng_len {n : Nat} : (rngL 0 n).length = n := by unfold rngL; rw [List.length_map, List.length_range]
theorem rng_drop {n j : Nat} (h : j < n) : (rngL 0 n).drop j = .int j :: (rngL 0 n).drop (j + 1) := by
  have hl : j < (rngL 0 n).length := by rw [rng_len]; exact h
  rw [List.drop_eq_getElem_cons hl]
  congr 1
  have := rng_get h
  rw [List.getElem?_eq_getElem hl] at this
  exact Option.some.inj this
theorem rng_end {n : Nat} : (rngL 0 n).drop n = [] := by
  apply List.drop_eq_nil_of_le
  unfold rngL; rw [List.length_map, List.length_range]; exact Nat.le_refl _
theorem atI_nat {ys : List D} {j : Nat} (h : j < ys.length) : L2.atI ys (j : Int) = some ys[j] := by
  unfold L2.atI L2.ixN
  have h1 : (0 : Int) ≤ (j : Int) := by omega
  have h2 : (j : Int) < (ys.length : Int) := by omega
  simp [h1, h2, h]
theorem take_set {cs : List Cell} {k : Nat} {cl : Cell} : (cs.set k cl).take k = cs.take k := by
  apply List.ext_getElem?
  intro i
  simp only [List.getElem?_take, List.getElem?_set]
  split
  · rw [if_neg (by omega)]
  · rfl
theorem take_app {cs ds : List Cell} {k : Nat} (h : k ≤ cs.length) : (cs ++ ds).take k = cs.take k := by
  rw [List.take_append_of_le_length h]
theorem bgl {n : Nat} (h : n ≤ 1000000) : bigI ((n : Nat) : Int) = true := by
  unfold bigI
  rw [Bool.and_eq_true, decide_eq_true_eq, decide_eq_true_eq]
  have : (2 : Int) ^ 62 = 4611686018427387904 := by decide
  constructor
  · omega
  · omega
theorem e_compK {it : S → IO} {gt : D → S → Option S} {t f : S → OE} {us : List Nat} {L : List D} {ck : Option Nat} {st st1 : S} (h : it st = .ok (L, ck) st1) (hl : L.length ≤ 1000000) : compE it gt t f us st = (compL gt t f us st1.v ck L L st1).bind newLst := by
  unfold compE
  rw [h]
  exact if_pos hl
theorem e_rngL {f : S → OE} {n : Nat} {st st1 : S} (h : f st = .ok (.d (.int n)) st1) (hb : bigI n = true) : itA rng1V [f] st = .ok (rngL 0 n, none) st1 := by
  rw [e_itA, e_cons, h, bind_ok, e_nil, bind_ok, bind_ok]; exact Sh.e_rng1 hb
theorem if_f {t : S → OE} {f g : S → OS} {st st1 : S} (h : t st = .ok (.d (.bl false)) st1) : ifS t f g st = g st1 := by
  rw [e_if, h, bind_ok]; rfl
theorem if_t {t : S → OE} {f g : S → OS} {st st1 : S} (h : t st = .ok (.d (.bl true)) st1) : ifS t f g st = f st1 := by
  rw [e_if, h, bind_ok]; rfl
theorem ifE_t {t f g : S → OE} {st st1 : S} (h : t st = .ok (.d (.bl true)) st1) : ifE t f g st = f st1 := by
  rw [e_ifE, h, bind_ok]; rfl
theorem seq_nx {f g : S → OS} {st st1 : S} (h : f st = .ok .nx st1) : seqS f g st = g st1 := by
  rw [e_seq, h]; rfl
theorem drop_m {g : Val → List Val → S → OE} {f fo : S → OE} {k : Nat} {v w : Val} {st st1 st2 st3 : S} (h : fo st = .ok (.c k) st1) (ht : (st1.c[k]?).isSome = true) (h2 : f st1 = .ok v st2) (h3 : g (.c k) [v] st2 = .ok w st3) : dropS (methE "list" g fo [f]) st = .ok .nx st3 := by
  rw [e_drop, e_meth, h, bind_ok, if_pos (by obtain ⟨vs, cs⟩ := st1; rw [ty_c]; exact ht), e_cons, h2, bind_ok, e_nil, bind_ok, bind_ok, h3, bind_ok]
  rfl
theorem w_step {t : S → OE} {g : S → OS} {n : Nat} {st st1 st2 : S} (h : t st = .ok (.d (.bl true)) st1) (h2 : g st1 = .ok .nx st2) : whileS t g (n + 1) st = whileS t g n st2 := by
  rw [whileS, h, bind_ok, onB_t, h2]
theorem w_stop {t : S → OE} {g : S → OS} {n : Nat} {st st1 : S} (h : t st = .ok (.d (.bl false)) st1) : whileS t g (n + 1) st = .ok .nx st1 := by
  rw [whileS, h, bind_ok, onB_f]; rfl
theorem call2 {d : List Ar → RD} {i j : Nat} {a b : D} {vs : List (Option Val)} {cs : List Cell} (ha : vs[i]? = some (some (.d a))) (hb : vs[j]? = some (some (.d b))) : callE (callV d) [varE i, varE j] ⟨vs, cs⟩ = afterD [] ⟨vs, cs⟩ (d [.d a, .d b]) := by
  rw [e_call, e_cons, e_var, ha, e_varK, bind_ok, e_cons, e_var, hb, e_varK, bind_ok, e_nil, bind_ok, bind_ok, bind_ok, e_callV, ar_cons, ar_cons, ar_nil, ar_d, ar_d, e_argK rfl]
theorem call1 {d : List Ar → RD} {i : Nat} {a : D} {vs : List (Option Val)} {cs : List Cell} (ha : vs[i]? = some (some (.d a))) : callE (callV d) [varE i] ⟨vs, cs⟩ = afterD [] ⟨vs, cs⟩ (d [.d a]) := by
  rw [e_call, e_cons, e_var, ha, e_varK, bind_ok, e_nil, bind_ok, bind_ok, e_callV, ar_cons, ar_nil, ar_d, e_argK rfl]
theorem frz2 {i j : Nat} {a b : D} {vs : List (Option Val)} {cs : List Cell} (ha : vs[i]? = some (some (.d a))) (hb : vs[j]? = some (some (.d b))) : frzL [i, j] ⟨vs, cs⟩ = some ([a, b], ⟨vs, cs⟩) := by
  simp only [frzL, ha, hb, toD]
theorem cap2 {n i j : Nat} {a b : D} (hi : i < n) (hj : j < n) (ij : i ≠ j) : (capV n [i, j] [a, b])[i]? = some (some (.d a)) ∧ (capV n [i, j] [a, b])[j]? = some (some (.d b)) := by
  simp only [capV]
  constructor
  · rw [List.getElem?_set_self (by rw [List.length_set, List.length_replicate]; exact hi)]
  · rw [List.getElem?_set_ne ij, List.getElem?_set_self (by rw [List.length_replicate]; exact hj)]
theorem lt_of_some {α : Type} {l : List α} {i : Nat} {x : α} (h : l[i]? = some x) : i < l.length := (List.getElem?_eq_some_iff.mp h).1
theorem app_m {f : S → OE} {i k : Nat} {y : D} {xs : List D} {vs : List (Option Val)} {cs : List Cell} (hv : vs[i]? = some (some (.c k))) (hc : cs[k]? = some (.own xs)) (hf : f ⟨vs, cs⟩ = .ok (.d y) ⟨vs, cs⟩) (hl : xs.length < 1000000) :
    dropS (methE "list" appV (varE i) [f]) ⟨vs, cs⟩ = .ok .nx ⟨vs, cs.set k (.own (xs ++ [y]))⟩ :=
  drop_m (st1 := ⟨vs, cs⟩) (by rw [e_var, hv, e_varK]) (by show (cs[k]?).isSome = true; rw [hc]; rfl) hf (v_app hc hl)
theorem call_j {d : List Ar → RD} {i j : Nat} {y : D} {J J' : List D} {vs : List (Option Val)} {cs : List Cell} (hv : vs[i]? = some (some (.c j))) (hc : cs[j]? = some (.own J)) (h : d [.o J] = .ok (.d y) [.own J']) : callE (callV d) [varE i] ⟨vs, cs⟩ = .ok (.d y) ⟨vs, cs.set j (.own J')⟩ := by
  have c2 : consA (.c j) ⟨vs, cs⟩ (some ([], [])) = some ([.o J], [j]) := by
    unfold consA; simp only [hc]; rfl
  rw [e_call, e_cons, e_var, hv, e_varK, bind_ok, e_nil, bind_ok, bind_ok, e_callV, ar_cons, ar_nil, c2, e_argK rfl, h, af_d, up_cons, up_nil]
theorem call_jd {d : List Ar → RD} {i j : Nat} {x y : D} {J J' : List D} {f : S → OE} {vs : List (Option Val)} {cs cs2 : List Cell} (hv : vs[i]? = some (some (.c j))) (hf : f ⟨vs, cs⟩ = .ok (.d x) ⟨vs, cs2⟩) (hc : cs2[j]? = some (.own J)) (h : d [.o J, .d x] = .ok (.d y) [.own J']) : callE (callV d) [varE i, f] ⟨vs, cs⟩ = .ok (.d y) ⟨vs, cs2.set j (.own J')⟩ := by
  have c2 : consA (.c j) ⟨vs, cs2⟩ (some ([.d x], [])) = some ([.o J, .d x], [j]) := by
    unfold consA; simp only [hc]; rfl
  rw [e_call, e_cons, e_var, hv, e_varK, bind_ok, e_cons, hf, bind_ok, e_nil, bind_ok, bind_ok, bind_ok, e_callV, ar_cons, ar_cons, ar_nil, ar_d, c2, e_argK rfl, h, af_d, up_cons, up_nil]
theorem ext_m {f : S → OE} {i k : Nat} {xs ys : List D} {vs : List (Option Val)} {cs : List Cell} (hv : vs[i]? = some (some (.c k))) (hc : cs[k]? = some (.own xs)) (hf : f ⟨vs, cs⟩ = .ok (.c cs.length) ⟨vs, cs ++ [.own ys]⟩) (hl : xs.length + ys.length ≤ 1000000) :
    dropS (methE "list" extV (varE i) [f]) ⟨vs, cs⟩ = .ok .nx ⟨vs, (cs ++ [Cell.own ys]).set k (.own (xs ++ ys))⟩ := by
  have hk := lt_of_some hc
  have c1 : (cs ++ [Cell.own ys])[k]? = some (.own xs) := by rw [List.getElem?_append_left hk]; exact hc
  have c2 : (cs ++ [Cell.own ys])[cs.length]? = some (.own ys) := by rw [List.getElem?_append_right (Nat.le_refl _), Nat.sub_self]; rfl
  exact drop_m (st1 := ⟨vs, cs⟩) (by rw [e_var, hv, e_varK]) (by show (cs[k]?).isSome = true; rw [hc]; rfl) hf (v_extC c1 c2 hl)
theorem v_addL {k j : Nat} {X Y : List D} {vs : List (Option Val)} {cs : List Cell} (h : cs[k]? = some (.own X)) (h2 : cs[j]? = some (.own Y)) (hl : X.length + Y.length ≤ 1000000) : addV (.c k) (.c j) ⟨vs, cs⟩ = .ok (.c cs.length) ⟨vs, cs ++ [.own (X ++ Y)]⟩ := by
  unfold addV lstOf
  simp only [h, h2, Option.map_some, Cell.xs, hl, if_true]
  rfl

section
variable {st st1 : S} {vs : List (Option Val)} {cs : List Cell}
theorem v_ix0 {x : D} {xs : List D} : ixV (.d (.tup (x :: xs))) (.d (.int 0)) st = .ok (.d x) st := v_ixT (atI_nat (j := 0) (by simp))
theorem v_ix1 {x y : D} {xs : List D} : ixV (.d (.tup (x :: y :: xs))) (.d (.int 1)) st = .ok (.d y) st := v_ixT (atI_nat (j := 1) (by simp))
theorem v_ix2 {x y z : D} {xs : List D} : ixV (.d (.tup (x :: y :: z :: xs))) (.d (.int 2)) st = .ok (.d z) st := v_ixT (atI_nat (j := 2) (by simp))
theorem v_ixC0 {n : Nat} {x : D} {r : List D} (h : cs[n]? = some (.own (x :: r))) : ixV (.c n) (.d (.int 0)) ⟨vs, cs⟩ = .ok (.d x) ⟨vs, cs⟩ := v_ixC (cl := .own (x :: r)) h (atI_nat (j := 0) (by simp [Cell.xs]))
/-- a comprehension whose parts leave the lists alone -/
theorem compL_pure {g : D → S → Option S} {t f : S → OE} {us : List Nat} {v0 : List (Option Val)} {cs : List Cell} {ck : Option Nat} {all : List D} {p : D → Bool} {e : D → D} {sx : D → List (Option Val)} (hg : gdOk ck all ⟨v0, cs⟩ = true) :
    ∀ xs : List D, (∀ x ∈ xs, g x ⟨wipeV v0 us, cs⟩ = some ⟨sx x, cs⟩ ∧ t ⟨sx x, cs⟩ = .ok (.d (.bl (p x))) ⟨sx x, cs⟩ ∧ (p x = true → f ⟨sx x, cs⟩ = .ok (.d (e x)) ⟨sx x, cs⟩)) →
      compL g t f us v0 ck all xs ⟨v0, cs⟩ = .ok ((xs.filter p).map e) ⟨v0, cs⟩
  | [], _ => c_nil hg
  | x :: r, h => by
    obtain ⟨h1, h2, h3⟩ := h x List.mem_cons_self
    have ih := compL_pure hg r fun y hy => h y (List.mem_cons_of_mem _ hy)
    cases hp : p x with
    | false =>
      rw [hp] at h2
      rw [c_no hg h1 h2, ih]
      simp only [List.filter_cons, hp, Bool.false_eq_true, if_false]
    | true =>
      rw [hp] at h2
      rw [c_yes hg h1 h2 (h3 hp) toD_d, ih, bind_ok]
      simp only [List.filter_cons, hp, if_true, List.map_cons]
theorem comp_pure {it : S → IO} {g : D → S → Option S} {t f : S → OE} {us : List Nat} {v0 : List (Option Val)} {cs : List Cell} {ck : Option Nat} {L : List D} {st : S} (p : D → Bool) (e : D → D) (sx : D → List (Option Val)) (hi : it st = .ok (L, ck) ⟨v0, cs⟩) (hg : gdOk ck L ⟨v0, cs⟩ = true) (hl : L.length ≤ 1000000)
    (h : ∀ x ∈ L, g x ⟨wipeV v0 us, cs⟩ = some ⟨sx x, cs⟩ ∧ t ⟨sx x, cs⟩ = .ok (.d (.bl (p x))) ⟨sx x, cs⟩ ∧ (p x = true → f ⟨sx x, cs⟩ = .ok (.d (e x)) ⟨sx x, cs⟩)) :
    compE it g t f us st = .ok (.c cs.length) ⟨v0, cs ++ [.own ((L.filter p).map e)]⟩ := by
  rw [e_compK hi hl, compL_pure hg L h, bind_ok, e_newLst]
theorem comp_map {it : S → IO} {g : D → S → Option S} {f : S → OE} {us : List Nat} {v0 : List (Option Val)} {cs : List Cell} {ck : Option Nat} {L : List D} {st : S} (e : D → D) (sx : D → List (Option Val)) (hi : it st = .ok (L, ck) ⟨v0, cs⟩) (hg : gdOk ck L ⟨v0, cs⟩ = true) (hl : L.length ≤ 1000000)
    (h : ∀ x ∈ L, g x ⟨wipeV v0 us, cs⟩ = some ⟨sx x, cs⟩ ∧ f ⟨sx x, cs⟩ = .ok (.d (e x)) ⟨sx x, cs⟩) :
    compE it g (cE (.bl true)) f us st = .ok (.c cs.length) ⟨v0, cs ++ [.own (L.map e)]⟩ := by
  have := comp_pure (t := cE (.bl true)) (f := f) (fun _ => true) e sx hi hg hl fun x hx => ⟨(h x hx).1, rfl, fun _ => (h x hx).2⟩
  rwa [List.filter_eq_self.mpr fun _ _ => rfl] at this
theorem bls_map {p : D → Bool} : ∀ L : List D, blsOf (L.map fun y => D.bl (p y)) = some (L.map p)
  | [] => rfl
  | x :: r => by
    show (blsOf (r.map fun y => D.bl (p y))).map (p x :: ·) = _
    rw [bls_map r]; rfl
theorem v_all {k : Nat} {L : List D} {p : D → Bool} (h : cs[k]? = some (.own (L.map fun y => .bl (p y)))) : allV [.c k] ⟨vs, cs⟩ = .ok (.d (.bl (L.all p))) ⟨vs, cs⟩ := by
  unfold allV foldB lstOf
  simp only [h, Option.map_some, Cell.xs, bls_map]
  unfold boolR
  rw [List.all_map]; rfl
theorem v_any {k : Nat} {L : List D} {p : D → Bool} (h : cs[k]? = some (.own (L.map fun y => .bl (p y)))) : anyV [.c k] ⟨vs, cs⟩ = .ok (.d (.bl (L.any p))) ⟨vs, cs⟩ := by
  unfold anyV foldB lstOf
  simp only [h, Option.map_some, Cell.xs, bls_map]
  unfold boolR
  rw [List.any_map]; rfl
/-- a list asked whether it is [] -/
theorem v_eqNil {neg : Bool} {k j : Nat} {xs : List D} (hk : cs[k]? = some (.own xs)) (hj : cs[j]? = some (.own [])) (o : okD (.lst xs) = true) : eqV neg (.c k) (.c j) ⟨vs, cs⟩ = .ok (.d (.bl (if neg then !xs.isEmpty else xs.isEmpty))) ⟨vs, cs⟩ := by
  rw [v_eq (dOf_c hk) (dOf_c hj) o rfl]
  cases xs <;> rfl
theorem wfs_ints {xs : List D} (h : ∀ x ∈ xs, ∃ i, x = D.int i) : wfs xs = true ∧ deps xs = 0 := by
  induction xs with
  | nil => exact ⟨rfl, rfl⟩
  | cons x r ih =>
    obtain ⟨i, rfl⟩ := h x List.mem_cons_self
    obtain ⟨h1, h2⟩ := ih fun y hy => h y (List.mem_cons_of_mem _ hy)
    exact ⟨by simp [wfs, wf, h1], by simp [deps, dep, h2]⟩
theorem ok_ints {xs : List D} (h : ∀ x ∈ xs, ∃ i, x = D.int i) : okD (.lst xs) = true ∧ okD (.tup xs) = true := by
  obtain ⟨h1, h2⟩ := wfs_ints h
  constructor <;> (unfold okD; simp [wf, dep, h1, h2])
theorem rng_int {lo : Int} {n : Nat} : ∀ x ∈ rngL lo n, ∃ i, x = D.int i := fun x hx => by
  unfold rngL at hx
  obtain ⟨i, _, rfl⟩ := List.mem_map.mp hx
  exact ⟨_, rfl⟩
theorem rng_lt {n : Nat} : ∀ x ∈ rngL 0 n, ∃ i : Nat, i < n ∧ x = D.int i := fun x hx => by
  unfold rngL at hx
  obtain ⟨i, hi, rfl⟩ := List.mem_map.mp hx
  exact ⟨i, List.mem_range.mp hi, by simp⟩
/-- the first that is odd, by its place -/
def fo (p : D → Bool) : Nat → List D → Option Nat
  | _, [] => none
  | n, x :: r => if p x then fo p (n + 1) r else some n
def oD : Option Nat → D
  | none => .non
  | some n => .int n
/-- for at, one in enumerate(xs): if not p(one): return at -/
theorem for_fo {g : D → S → Option S} {b : S → OS} {p : D → Bool} (I : S → Prop) {all : List D} : ∀ (xs : List D) (n : Nat) (st : S), I st →
    (∀ x ∈ xs, ∀ (k : Nat) st, I st → ∃ st1, g (.tup [.int k, x]) st = some st1 ∧ ∃ st2, I st2 ∧ b st1 = (if p x then .ok .nx st2 else .ok (.ret (.d (.int k))) st2)) →
    ∃ st2, I st2 ∧ forL g b none all (enuL n xs) st = (match fo p n xs with | none => .ok .nx st2 | some k => .ok (.ret (.d (.int (k : Nat)))) st2)
  | [], n, st, hI, _ => ⟨st, hI, f_nil gd_none⟩
  | x :: r, n, st, hI, h => by
    obtain ⟨st1, h1, st2, h2, h3⟩ := h x List.mem_cons_self n st hI
    simp only [enuL, fo]
    rw [f_cons gd_none h1, h3]
    cases hp : p x with
    | true =>
      obtain ⟨st3, h4, h5⟩ := for_fo I r (n + 1) st2 h2 fun y hy => h y (List.mem_cons_of_mem _ hy)
      refine ⟨st3, h4, ?_⟩
      simp only [if_true]
      rw [n_nx, h5]
    | false =>
      refine ⟨st2, h2, ?_⟩
      simp only [Bool.false_eq_true, if_false]
      rw [n_ret]
/-- [at for at in range(len(xs)) if not p(xs[at])] -/
theorem fo_rng {p : D → Bool} {q : D → Bool} {xs : List D} : ∀ (m j : Nat), j + m = xs.length → (∀ (i : Nat) (hi : i < xs.length), q (.int (i : Nat)) = !p xs[i]) →
    (fo p j (xs.drop j) = none ∧ ((rngL 0 xs.length).drop j).filter q = []) ∨ ∃ (k : Nat) (r : List D), k < xs.length ∧ fo p j (xs.drop j) = some k ∧ ((rngL 0 xs.length).drop j).filter q = .int (k : Nat) :: r
  | 0, j, h, _ => by
    have e : j = xs.length := by omega
    subst e
    left
    rw [rng_end, List.drop_eq_nil_of_le (Nat.le_refl _)]
    exact ⟨rfl, rfl⟩
  | m + 1, j, h, hq => by
    have hj : j < xs.length := by omega
    have ih := fo_rng (p := p) m (j + 1) (by omega) hq
    have hk := hq j hj
    rw [rng_drop hj, List.drop_eq_getElem_cons hj]
    simp only [fo, List.filter_cons]
    cases hp : p xs[j] with
    | true =>
      rw [hp] at hk
      simp only [hk, Bool.not_true, Bool.false_eq_true, if_false, if_true]
      exact ih
    | false =>
      rw [hp] at hk
      simp only [hk, Bool.not_false, Bool.false_eq_true, if_false, if_true]
      exact .inr ⟨j, _, hj, rfl, rfl⟩
theorem comp_wrong {it : S → IO} {t : S → OE} {j : Nat} {v0 : List (Option Val)} {cs : List Cell} {xs : List D} (p : D → Bool) (hi : it ⟨v0, cs⟩ = .ok (rngL 0 xs.length, none) ⟨v0, cs⟩) (hl : xs.length ≤ 1000000) (hj : j < v0.length)
    (ht : ∀ (i : Nat) (hi : i < xs.length), t ⟨(v0.set j none).set j (some (.d (.int i))), cs⟩ = .ok (.d (.bl (!p xs[i]))) ⟨(v0.set j none).set j (some (.d (.int i))), cs⟩) :
    ∃ L, compE it (nameT j) t (varE j) [j] ⟨v0, cs⟩ = .ok (.c cs.length) ⟨v0, cs ++ [.own L]⟩ ∧ (∀ y ∈ L, ∃ i, y = D.int i) ∧ ((fo p 0 xs = none ∧ L = []) ∨ ∃ (k : Nat) (r : List D), fo p 0 xs = some k ∧ L = .int (k : Nat) :: r) := by
  let q : D → Bool := fun y => match y with | .int i => !((xs[i.toNat]?).all p) | _ => false
  have hq : ∀ (i : Nat) (hi : i < xs.length), q (.int (i : Nat)) = !p xs[i] := fun i hi => by
    simp only [q, Int.toNat_natCast, List.getElem?_eq_getElem hi, Option.all_some]
  have hc := comp_pure (it := it) (g := nameT j) (t := t) (f := varE j) (us := [j]) (v0 := v0) (cs := cs) (ck := none) (L := rngL 0 xs.length) (st := ⟨v0, cs⟩) q (fun y => y) (fun y => (v0.set j none).set j (some (.d y))) hi gd_none (by rw [rng_len]; exact hl) fun y hy => by
    obtain ⟨i, hi, rfl⟩ := rng_lt y hy
    refine ⟨rfl, by rw [hq i hi]; exact ht i hi, fun _ => ?_⟩
    rw [e_var, List.getElem?_set_self (by rw [List.length_set]; exact hj), e_varK]
  rw [List.map_id'] at hc
  refine ⟨_, hc, fun y hy => rng_int y (List.mem_filter.mp hy).1, ?_⟩
  have hf := fo_rng (p := p) (q := q) (xs := xs) xs.length 0 (by omega) hq
  rw [List.drop_zero, List.drop_zero] at hf
  rcases hf with h | ⟨k, r, _, h1, h2⟩
  · exact .inl h
  · exact .inr ⟨k, r, h1, h2⟩
theorem ret_wrong {i k : Nat} {L xs : List D} {p : D → Bool} (hv : vs[i]? = some (some (.c k))) (hc : cs[k]? = some (.own L)) (hL : ∀ y ∈ L, ∃ i, y = D.int i) (h : (fo p 0 xs = none ∧ L = []) ∨ ∃ (k : Nat) (r : List D), fo p 0 xs = some k ∧ L = .int (k : Nat) :: r) :
    ifE (bin2 (eqV true) (varE i) (lstE [])) (bin2 ixV (varE i) (cE (.int 0))) (cE .non) ⟨vs, cs⟩ = .ok (.d (oD (fo p 0 xs))) ⟨vs, cs ++ [.own []]⟩ := by
  have hk := lt_of_some hc
  have c1 : (cs ++ [Cell.own []])[k]? = some (.own L) := by rw [List.getElem?_append_left hk]; exact hc
  have c2 : (cs ++ [Cell.own []])[cs.length]? = some (.own []) := by rw [List.getElem?_append_right (Nat.le_refl _), Nat.sub_self]; rfl
  have e : bin2 (eqV true) (varE i) (lstE []) ⟨vs, cs⟩ = .ok (.d (.bl (!L.isEmpty))) ⟨vs, cs ++ [.own []]⟩ := by
    rw [e_bin, e_var, hv, e_varK, bind_ok, e_lst, e_nil, bind_ok, toDs_nil, e_lstK, e_newLst, bind_ok, v_eqNil c1 c2 (ok_ints hL).1]
    rfl
  rw [e_ifE, e, bind_ok]
  rcases h with ⟨f1, rfl⟩ | ⟨k', r, f1, rfl⟩
  · rw [f1]; rfl
  · rw [f1]
    show bin2 ixV (varE i) (cE (.int 0)) ⟨vs, cs ++ [.own []]⟩ = _
    rw [e_bin, e_var, hv, e_varK, bind_ok, e_c, bind_ok, v_ixC0 c1]
    rfl
theorem if_wrong {i k : Nat} {L xs : List D} {p : D → Bool} {f g : S → OS} (hv : vs[i]? = some (some (.c k))) (hc : cs[k]? = some (.own L)) (hL : ∀ y ∈ L, ∃ i, y = D.int i) (h : (fo p 0 xs = none ∧ L = []) ∨ ∃ (k : Nat) (r : List D), fo p 0 xs = some k ∧ L = .int (k : Nat) :: r) :
    ifS (bin2 (eqV true) (varE i) (lstE [])) f g ⟨vs, cs⟩ = (if (fo p 0 xs).isSome then f else g) ⟨vs, cs ++ [.own []]⟩ := by
  have hk := lt_of_some hc
  have c1 : (cs ++ [Cell.own []])[k]? = some (.own L) := by rw [List.getElem?_append_left hk]; exact hc
  have c2 : (cs ++ [Cell.own []])[cs.length]? = some (.own []) := by rw [List.getElem?_append_right (Nat.le_refl _), Nat.sub_self]; rfl
  have e : bin2 (eqV true) (varE i) (lstE []) ⟨vs, cs⟩ = .ok (.d (.bl (!L.isEmpty))) ⟨vs, cs ++ [.own []]⟩ := by
    rw [e_bin, e_var, hv, e_varK, bind_ok, e_lst, e_nil, bind_ok, toDs_nil, e_lstK, e_newLst, bind_ok, v_eqNil c1 c2 (ok_ints hL).1]
    rfl
  rw [e_if, e, bind_ok]
  rcases h with ⟨f1, rfl⟩ | ⟨k', r, f1, rfl⟩
  · rw [f1]; rfl
  · rw [f1]; rfl
theorem e_callO {tb : List (Nat × (List Ar → RD))} {i k : Nat} {fs : List (S → OE)} {d : List Ar → RD} (h : vs[i]? = some (some (.d (.obj k)))) (hl : tb.lookup k = some d) : callOE tb i fs ⟨vs, cs⟩ = (seqE fs ⟨vs, cs⟩).bind (callV d) := by
  unfold callOE
  simp only [h, hl]
end
end Sh
end
section
set_option Elab.async false
set_option linter.all false
set_option maxRecDepth 100000
set_option maxHeartbeats 4000000
namespace Sh
open PySem PySem.Spec PyProof.Rows
open L2 hiding St

/-! ### slices, sums of tuples -/
section
variable {st st1 st2 : S} {vs : List (Option Val)} {cs : List Cell} {xs ys : List D} {fa fb fe f : S → OE} {x y : D}
theorem cut_take {i : Nat} (h : i ≤ xs.length) : cutD xs none (some (i : Int)) = xs.take i := by
  unfold cutD
  rw [HT.sIx_none, HT.sIx_nat, List.drop_zero, Nat.sub_zero, Nat.min_eq_left h]
theorem cut_drop {i : Nat} (h : i ≤ xs.length) : cutD xs (some (i : Int)) none = xs.drop i := by
  unfold cutD
  rw [HT.sIx_none, HT.sIx_nat, Nat.min_eq_left h]
  exact List.take_of_length_le (by rw [List.length_drop]; exact Nat.le_refl _)
theorem cut_takeA {i : Nat} : cutD xs none (some (i : Int)) = xs.take i := by
  unfold cutD
  rw [HT.sIx_none, HT.sIx_nat, List.drop_zero, Nat.sub_zero]
  rcases Nat.le_total i xs.length with h | h
  · rw [Nat.min_eq_left h]
  · rw [Nat.min_eq_right h, List.take_of_length_le (Nat.le_refl _), List.take_of_length_le h]
theorem cut_dropA {i : Nat} : cutD xs (some (i : Int)) none = xs.drop i := by
  unfold cutD
  rw [HT.sIx_none, HT.sIx_nat]
  rcases Nat.le_total i xs.length with h | h
  · rw [Nat.min_eq_left h]
    exact List.take_of_length_le (by rw [List.length_drop]; exact Nat.le_refl _)
  · rw [Nat.min_eq_right h, Nat.sub_self, List.take_zero, List.drop_eq_nil_of_le h]
theorem cut_init : cutD xs none (some (-1)) = xs.take (xs.length - 1) := by
  unfold cutD
  rw [HT.sIx_none, List.drop_zero, Nat.sub_zero]
  have e : HT.sIx xs.length xs.length (some (-1)) = xs.length - 1 := by
    show (if (-1 : Int) < 0 then ((-1 : Int) + (xs.length : Int)).toNat else min (-1 : Int).toNat xs.length) = _
    rw [if_pos (by decide)]
    omega
  rw [e]
theorem e_noP : noP st = .ok none st := rfl
theorem e_atP (h : fe st = .ok (.d (.int i)) st1) : atP fe st = .ok (some i) st1 := by
  unfold atP; rw [h]; rfl
theorem sl_take {i : Nat} (ha : fa st = .ok (.d (.tup xs)) st1) (he : fe st1 = .ok (.d (.int i)) st2) (h : i ≤ xs.length) : sliceE fa noP (atP fe) st = .ok (.d (.tup (xs.take i))) st2 := by
  unfold sliceE
  rw [ha, bind_ok, e_noP, bind_ok, e_atP he, bind_ok, ← cut_take h]; rfl
theorem sl_drop {i : Nat} (ha : fa st = .ok (.d (.tup xs)) st1) (he : fe st1 = .ok (.d (.int i)) st2) (h : i ≤ xs.length) : sliceE fa (atP fe) noP st = .ok (.d (.tup (xs.drop i))) st2 := by
  unfold sliceE
  rw [ha, bind_ok, e_atP he, bind_ok, e_noP, bind_ok, ← cut_drop h]; rfl
theorem sl_takeA {i : Nat} (ha : fa st = .ok (.d (.tup xs)) st1) (he : fe st1 = .ok (.d (.int i)) st2) : sliceE fa noP (atP fe) st = .ok (.d (.tup (xs.take i))) st2 := by
  unfold sliceE
  rw [ha, bind_ok, e_noP, bind_ok, e_atP he, bind_ok, ← cut_takeA]; rfl
theorem sl_dropA {i : Nat} (ha : fa st = .ok (.d (.tup xs)) st1) (he : fe st1 = .ok (.d (.int i)) st2) : sliceE fa (atP fe) noP st = .ok (.d (.tup (xs.drop i))) st2 := by
  unfold sliceE
  rw [ha, bind_ok, e_atP he, bind_ok, e_noP, bind_ok, ← cut_dropA]; rfl
theorem sl_init (ha : fa st = .ok (.d (.tup xs)) st1) (he : fe st1 = .ok (.d (.int (-1))) st2) : sliceE fa noP (atP fe) st = .ok (.d (.tup (xs.take (xs.length - 1)))) st2 := by
  unfold sliceE
  rw [ha, bind_ok, e_noP, bind_ok, e_atP he, bind_ok, ← cut_init]; rfl
theorem e_addT (ha : fa st = .ok (.d (.tup xs)) st1) (hb : fb st1 = .ok (.d (.tup ys)) st2) (hl : xs.length + ys.length ≤ 1000000) : bin2 addV fa fb st = .ok (.d (.tup (xs ++ ys))) st2 := by
  rw [e_bin, ha, bind_ok, hb, bind_ok]
  exact if_pos hl
theorem e_tup1 (h : f st = .ok (.d x) st1) : tupE [f] st = .ok (.d (.tup [x])) st1 := by
  rw [e_tup, e_cons, h, bind_ok, e_nil, bind_ok, bind_ok]; rfl
theorem e_tup2 {g : S → OE} (h : f st = .ok (.d x) st1) (h2 : g st1 = .ok (.d y) st2) : tupE [f, g] st = .ok (.d (.tup [x, y])) st2 := by
  rw [e_tup, e_cons, h, bind_ok, e_cons, h2, bind_ok, e_nil, bind_ok, bind_ok, bind_ok]; rfl
theorem e_tup3 {g k : S → OE} {z : D} {st3 : S} (h : f st = .ok (.d x) st1) (h2 : g st1 = .ok (.d y) st2) (h3 : k st2 = .ok (.d z) st3) : tupE [f, g, k] st = .ok (.d (.tup [x, y, z])) st3 := by
  rw [e_tup, e_cons, h, bind_ok, e_cons, h2, bind_ok, e_cons, h3, bind_ok, e_nil, bind_ok, bind_ok, bind_ok, bind_ok]; rfl
theorem e_revT (h : f st = .ok (.d (.tup xs)) st1) : revAE f st = .ok (.d (.tup xs.reverse)) st1 := by
  unfold revAE; rw [h]; rfl
theorem e_var1 {i : Nat} {v : Val} (h : vs[i]? = some (some v)) : varE i ⟨vs, cs⟩ = .ok v ⟨vs, cs⟩ := by rw [e_var, h, e_varK]
theorem e_addI {a b : Int} (ha : fa st = .ok (.d (.int a)) st1) (hb : fb st1 = .ok (.d (.int b)) st2) : bin2 addV fa fb st = .ok (.d (.int (a + b))) st2 := by
  rw [e_bin, ha, bind_ok, hb, bind_ok]; rfl
theorem e_subI {a b : Int} (ha : fa st = .ok (.d (.int a)) st1) (hb : fb st1 = .ok (.d (.int b)) st2) : bin2 subV fa fb st = .ok (.d (.int (a - b))) st2 := by
  rw [e_bin, ha, bind_ok, hb, bind_ok]; rfl
theorem e_ixC {n t : Nat} {L : List D} {va vb : S → OE} (ha : va st = .ok (.c n) st1) (hb : vb st1 = .ok (.d (.int t)) ⟨vs, cs⟩) (hc : cs[n]? = some (.own L)) (ht : t < L.length) : bin2 ixV va vb st = .ok (.d L[t]) ⟨vs, cs⟩ := by
  rw [e_bin, ha, bind_ok, hb, bind_ok]
  exact v_ixC (cl := .own L) hc (atI_nat ht)
theorem e_ixT {t : Nat} {va vb : S → OE} (ha : va st = .ok (.d (.tup xs)) st1) (hb : vb st1 = .ok (.d (.int t)) st2) (ht : t < xs.length) : bin2 ixV va vb st = .ok (.d xs[t]) st2 := by
  rw [e_bin, ha, bind_ok, hb, bind_ok]
  exact v_ixT (atI_nat ht)
theorem e_tupC {k : Nat} {cl : Cell} (h : fa st = .ok (.c k) ⟨vs, cs⟩) (hc : cs[k]? = some cl) : callE tupleV [fa] st = .ok (.d (.tup cl.xs)) ⟨vs, cs⟩ := by
  rw [e_call, e_cons, h, bind_ok, e_nil, bind_ok, bind_ok]
  unfold tupleV seqOf
  simp only [hc, Option.map_some]
end
end Sh
end
section
set_option Elab.async false
set_option linter.all false
set_option maxRecDepth 100000
set_option maxHeartbeats 4000000
namespace Sh
open PySem PySem.Spec PyProof.Rows
open L2 hiding St

/-! ### loops by invariants -/
section
variable {st st1 st2 : S} {vs : List (Option Val)} {cs : List Cell} {f : S → OE} {fs : List (S → OE)} {v : Val} {ws : List Val}
theorem seq_k (h : f st = .ok v st1) (h2 : seqE fs st1 = .ok ws st2) : seqE (f :: fs) st = .ok (v :: ws) st2 := by
  rw [e_cons, h, bind_ok, h2, bind_ok]
theorem seq_0 : seqE [] st = .ok [] st := rfl
theorem lst_k {xs : List D} (h : seqE fs st = .ok ws st1) (hd : toDs ws st1 = some (xs, ⟨vs, cs⟩)) : lstE fs st = .ok (.c cs.length) ⟨vs, cs ++ [.own xs]⟩ := by
  rw [e_lst, h, bind_ok, hd]; rfl
theorem tup_k {xs : List D} (h : seqE fs st = .ok ws st1) (hd : toDs ws st1 = some (xs, st2)) : tupE fs st = .ok (.d (.tup xs)) st2 := by
  rw [e_tup, h, bind_ok, hd]; rfl
theorem set_k {i : Nat} (h : f st = .ok v ⟨vs, cs⟩) : setS i f st = .ok .nx ⟨vs.set i (some v), cs⟩ := by
  rw [e_set, h, bind_ok]; rfl
theorem call_k {d : List Ar → RD} {as : List Ar} {ns : List Nat} (h : seqE fs st = .ok ws st1) (ha : toArs ws st1 = some (as, ns)) (hn : noT as = true) : callE (callV d) fs st = afterD ns st1 (d as) := by
  rw [e_call, h, bind_ok, e_callV, ha, e_argK hn]
theorem setIx_k {fo fi fe : S → OE} {st3 : S} {w k : Val} (he : fe st = .ok v st1) (ho : fo st1 = .ok w st2) (hi : fi st2 = .ok k st3) : setIxS fo fi fe st = setIx v w k st3 := by
  unfold setIxS
  rw [he, bind_ok, ho, bind_ok, hi, bind_ok]
theorem setIx_own {n j : Nat} {x : D} {L : List D} (hc : cs[n]? = some (.own L)) (hj : j < L.length) : setIx (.d x) (.c n) (.d (.int j)) ⟨vs, cs⟩ = .ok .nx ⟨vs, cs.set n (.own (L.set j x))⟩ := by
  have ij : L2.ixN L.length (j : Int) = some j := by
    unfold L2.ixN
    have h1 : (0 : Int) ≤ (j : Int) := by omega
    have h2 : (j : Int) < (L.length : Int) := by omega
    simp [h1, h2]
  unfold setIx
  simp only [toD, hc, ij]
theorem take1 {cl : Cell} (h : cs[0]? = some cl) : cs.take 1 = [cl] := by
  cases cs with
  | nil => simp at h
  | cons a b => simp at h; subst h; rfl
theorem gd_own {n : Nat} {cl : Cell} {all : List D} (h : st.c[n]? = some cl) (e : cl.xs = all) : gdOk (some n) all st = true := by
  unfold gdOk
  simp only [h, e]
  exact beqDs_rfl _
theorem get_app {cl : Cell} {n : Nat} {ds : List Cell} (h : cs[n]? = some cl) : (cs ++ ds)[n]? = some cl := by
  rw [List.getElem?_append_left (lt_of_some h)]; exact h
theorem get_new {cl : Cell} {ds : List Cell} : (cs ++ cl :: ds)[cs.length]? = some cl := by
  rw [List.getElem?_append_right (Nat.le_refl _), Nat.sub_self]; rfl
theorem get_set {cl cl' : Cell} {n k : Nat} (h : cs[n]? = some cl) (hk : k ≠ n) : (cs.set k cl')[n]? = some cl := by
  rw [List.getElem?_set_ne hk]; exact h
theorem get_self {cl cl' : Cell} {n : Nat} (h : cs[n]? = some cl) : (cs.set n cl')[n]? = some cl' := List.getElem?_set_self (lt_of_some h)
theorem e_tup1L {k : Nat} {xs : List D} (h : f st = .ok (.c k) ⟨vs, cs⟩) (hc : cs[k]? = some (.own xs)) : tupE [f] st = .ok (.d (.tup [.lst xs])) ⟨vs, cs.set k (.frz xs)⟩ := by
  rw [e_tup, e_cons, h, bind_ok, e_nil, bind_ok, bind_ok]
  simp only [toDs, toD, hc]
  rfl
theorem set_new {cl cl' : Cell} : (cs ++ [cl]).set cs.length cl' = cs ++ [cl'] := by
  rw [List.set_append_right _ _ (Nat.le_refl _), Nat.sub_self]; rfl
theorem seq2_nx {f g h : S → OS} (e : seqS f g st = .ok .nx st1) : seqS f (seqS g h) st = h st1 := by
  rw [e_seq] at e ⊢
  cases hf : f st with
  | ok fl st2 =>
    rw [hf] at e
    cases fl with
    | nx =>
      rw [th_nx] at e ⊢
      rw [e_seq, e, th_nx]
    | ret v => rw [th_ret] at e; cases e
    | bk => rw [th_bk] at e; cases e
    | ct => rw [th_ct] at e; cases e
  | exc nm x st2 => rw [hf] at e; cases e
  | bad => rw [hf] at e; cases e
theorem out_new {k n : Nat} {xs : List D} (h : cs[k]? = some (.own xs)) (hk : n ≤ k) : outR n (.c k) ⟨vs, cs⟩ = .ok (.new xs) (cs.take n) := by
  unfold outR
  simp only [Nat.not_lt.mpr hk, if_false, h]
theorem lenS {α β : Type} {I : Nat → β → Prop} {s : β} {x : α} {r : List α} {k : Nat} (h : I ((x :: r).length + k) s) : I (r.length + k + 1) s := by
  have e : (x :: r).length + k = r.length + k + 1 := by simp only [List.length_cons]; omega
  rw [e] at h; exact h
theorem compL_inv {g : D → S → Option S} {us : List Nat} {v0 : List (Option Val)} {ck : Option Nat} {all : List D} (P : D → Prop) (I : Nat → List Cell → Prop) (hgd : ∀ k cs, I k cs → gdOk ck all ⟨v0, cs⟩ = true) : ∀ (xs : List D) (k : Nat) (cs : List Cell), I (xs.length + k) cs →
    (∀ x ∈ xs, ∀ (k : Nat) (cs : List Cell), I (k + 1) cs → ∃ (st1 : S) (y : D) (v1 : List (Option Val)) (cs' : List Cell), g x ⟨wipeV v0 us, cs⟩ = some st1 ∧ f st1 = .ok (.d y) ⟨v1, cs'⟩ ∧ P y ∧ I k cs') →
    ∃ (ys : List D) (cs' : List Cell), compL g (cE (.bl true)) f us v0 ck all xs ⟨v0, cs⟩ = .ok ys ⟨v0, cs'⟩ ∧ ys.length = xs.length ∧ (∀ y ∈ ys, P y) ∧ I k cs'
  | [], k, cs, hI, _ => ⟨[], cs, c_nil (hgd _ _ hI), rfl, fun y hy => (nomatch hy), by simpa using hI⟩
  | x :: r, k, cs, hI, h => by
    obtain ⟨st1, y, v1, cs1, h1, h2, h3, h4⟩ := h x List.mem_cons_self (r.length + k) cs (lenS hI)
    obtain ⟨ys, cs', g1, g2, g3, g4⟩ := compL_inv P I hgd r k cs1 h4 fun z hz => h z (List.mem_cons_of_mem _ hz)
    refine ⟨y :: ys, cs', ?_, congrArg (· + 1) g2, fun z hz => ?_, g4⟩
    · rw [c_yes (t := cE (.bl true)) (hgd _ _ hI) h1 rfl h2 toD_d, g1, bind_ok]
    · rcases List.mem_cons.mp hz with rfl | hz
      · exact h3
      · exact g3 z hz
theorem comp_inv {it : S → IO} {g : D → S → Option S} {us : List Nat} {v0 : List (Option Val)} {ck : Option Nat} {L : List D} (P : D → Prop) (I : Nat → List Cell → Prop) (k : Nat) (hi : it st = .ok (L, ck) ⟨v0, cs⟩) (hl : L.length ≤ 1000000) (hgd : ∀ k cs, I k cs → gdOk ck L ⟨v0, cs⟩ = true) (hI : I (L.length + k) cs)
    (h : ∀ x ∈ L, ∀ (k : Nat) (cs : List Cell), I (k + 1) cs → ∃ (st1 : S) (y : D) (v1 : List (Option Val)) (cs' : List Cell), g x ⟨wipeV v0 us, cs⟩ = some st1 ∧ f st1 = .ok (.d y) ⟨v1, cs'⟩ ∧ P y ∧ I k cs') :
    ∃ (ys : List D) (cs' : List Cell), compE it g (cE (.bl true)) f us st = .ok (.c cs'.length) ⟨v0, cs' ++ [.own ys]⟩ ∧ ys.length = L.length ∧ (∀ y ∈ ys, P y) ∧ I k cs' := by
  obtain ⟨ys, cs', g1, g2⟩ := compL_inv (f := f) P I hgd L k cs hI h
  exact ⟨ys, cs', by rw [e_compK hi hl, g1, bind_ok, e_newLst], g2⟩
theorem forL_inv {g : D → S → Option S} {b : S → OS} {ck : Option Nat} {all : List D} (I : Nat → S → Prop) (hgd : ∀ k st, I k st → gdOk ck all st = true) : ∀ (xs : List D) (k : Nat) (st : S), I (xs.length + k) st →
    (∀ x ∈ xs, ∀ (k : Nat) (st : S), I (k + 1) st → ∃ (st1 st2 : S), g x st = some st1 ∧ b st1 = .ok .nx st2 ∧ I k st2) → ∃ st2, forL g b ck all xs st = .ok .nx st2 ∧ I k st2
  | [], k, st, hI, _ => ⟨st, f_nil (hgd _ _ hI), by simpa using hI⟩
  | x :: r, k, st, hI, h => by
    obtain ⟨st1, st2, h1, h2, h3⟩ := h x List.mem_cons_self (r.length + k) st (lenS hI)
    obtain ⟨st3, g1, g2⟩ := forL_inv I hgd r k st2 h3 fun z hz => h z (List.mem_cons_of_mem _ hz)
    exact ⟨st3, by rw [f_cons (hgd _ _ hI) h1, h2, n_nx, g1], g2⟩
theorem for_inv {it : S → IO} {g : D → S → Option S} {b : S → OS} {ck : Option Nat} {L : List D} (I : Nat → S → Prop) (k : Nat) (hi : it st = .ok (L, ck) st1) (hgd : ∀ k st, I k st → gdOk ck L st = true) (hI : I (L.length + k) st1)
    (h : ∀ x ∈ L, ∀ (k : Nat) (st : S), I (k + 1) st → ∃ (st1 st2 : S), g x st = some st1 ∧ b st1 = .ok .nx st2 ∧ I k st2) : ∃ st2, forS it g b st = .ok .nx st2 ∧ I k st2 := by
  obtain ⟨st3, g1, g2⟩ := forL_inv I hgd L k st1 hI h
  exact ⟨st3, by rw [e_for, hi, bind_ok]; exact g1, g2⟩
end
end Sh
end
section
set_option Elab.async false
set_option linter.all false
set_option maxRecDepth 100000
set_option maxHeartbeats 4000000
namespace Law
open PySem PySem.Spec PyProof.Rows Sh
open L2 hiding St
def top (i : Nat) : Stmt := PySem.Challenge.pw_anystrength_k01_worlds_by_form.main.body.getD i (.Pass ⟨0, 0, 0, 0⟩)
def fn_0 : List He.DefD := [⟨("_law_a1_hand", none), "_law_a1_hand", "_law_a1_hand", defArgs (top 46), defBody (top 46), defScope (top 46), [], []⟩,
  ⟨("_law_a1_heard", none), "_law_a1_heard", "_law_a1_heard", defArgs (top 42), defBody (top 42), defScope (top 42), [], []⟩,
  ⟨("_law_wb_is_whole", none), "_law_wb_is_whole", "_law_wb_is_whole", defArgs (top 32), defBody (top 32), defScope (top 32), [], []⟩,
  ⟨("_law_wb_same", none), "_law_wb_same", "_law_wb_same", defArgs (top 34), defBody (top 34), defScope (top 34), [], []⟩,
  ⟨("_law_wb_is_in", none), "_law_wb_is_in", "_law_wb_is_in", defArgs (top 33), defBody (top 33), defScope (top 33), [], []⟩,
  ⟨("_law_wb_sum_fault", none), "_law_wb_sum_fault", "_law_wb_sum_fault", defArgs (top 35), defBody (top 35), defScope (top 35), [], []⟩,
  ⟨("_law_wb_is_tie", none), "_law_wb_is_tie", "_law_wb_is_tie", defArgs (top 36), defBody (top 36), defScope (top 36), [], []⟩,
  ⟨("_law_wb_ties_fault", none), "_law_wb_ties_fault", "_law_wb_ties_fault", defArgs (top 37), defBody (top 37), defScope (top 37), [], []⟩,
  ⟨("_law_wb_world_fault", none), "_law_wb_world_fault", "_law_wb_world_fault", defArgs (top 38), defBody (top 38), defScope (top 38), [], []⟩,
  ⟨("whole", none), "whole", "whole", defArgs (top 6), defBody (top 6), defScope (top 6), [], []⟩,
  ⟨("is_sum", none), "is_sum", "is_sum", defArgs (top 12), defBody (top 12), defScope (top 12), [], []⟩,
  ⟨("first_odd_sum", none), "first_odd_sum", "first_odd_sum", defArgs (top 25), defBody (top 25), defScope (top 25), [], []⟩,
  ⟨("is_tie", none), "is_tie", "is_tie", defArgs (top 19), defBody (top 19), defScope (top 19), [], []⟩,
  ⟨("first_odd_tie", none), "first_odd_tie", "first_odd_tie", defArgs (top 20), defBody (top 20), defScope (top 20), [], []⟩,
  ⟨("is_world", none), "is_world", "is_world", defArgs (top 27), defBody (top 27), defScope (top 27), [], []⟩,
  ⟨("made_world", none), "made_world", "made_world", defArgs (top 26), defBody (top 26), defScope (top 26), [], []⟩,
  ⟨("_law_a1_right", none), "_law_a1_right", "_law_a1_right", defArgs (top 44), defBody (top 44), defScope (top 44), [], []⟩,
  ⟨("_law_take", none), "_law_take", "_law_take", defArgs (top 30), defBody (top 30), defScope (top 30), [], []⟩,
  ⟨("_law_one", none), "_law_one", "_law_one", defArgs (top 31), defBody (top 31), defScope (top 31), [], []⟩,
  ⟨("_law_wb_bent", none), "_law_wb_bent", "_law_wb_bent", defArgs (top 41), defBody (top 41), defScope (top 41), [], []⟩,
  ⟨("_law_a1_things", none), "_law_a1_things", "_law_a1_things", defArgs (top 43), defBody (top 43), defScope (top 43), [], []⟩,
  ⟨("many", none), "many", "many", defArgs (top 10), defBody (top 10), defScope (top 10), [], []⟩,
  ⟨("asked_n", none), "asked_n", "asked_n", defArgs (top 11), defBody (top 11), defScope (top 11), [], []⟩,
  ⟨("made_ties", none), "made_ties", "made_ties", defArgs (top 21), defBody (top 21), defScope (top 21), [], []⟩,
  ⟨("_law_a1_ties_right", none), "_law_a1_ties_right", "_law_a1_ties_right", defArgs (top 45), defBody (top 45), defScope (top 45), [], []⟩,
  ⟨("_law_pool", none), "_law_pool", "_law_pool", defArgs (top 29), defBody (top 29), defScope (top 29), [], []⟩,
  ⟨("_law_wb_sum", none), "_law_wb_sum", "_law_wb_sum", defArgs (top 39), defBody (top 39), defScope (top 39), [], []⟩,
  ⟨("_law_wb_world", none), "_law_wb_world", "_law_wb_world", defArgs (top 40), defBody (top 40), defScope (top 40), [], []⟩,
  ⟨("law", none), "law", "law", defArgs (top 47), defBody (top 47), defScope (top 47), [], []⟩,
  ⟨("Refused", some "__init__"), "__init__", "Refused.__init__", defArgs (inClass (top 1) 0), defBody (inClass (top 1) 0), defScope (inClass (top 1) 0), [], []⟩]
def fn : List He.DefD := fn_0
def glos_0 : List Str := ["_law_a1_hand",
  "_law_a1_heard",
  "_law_wb_is_whole",
  "_law_wb_same",
  "_law_wb_is_in",
  "_law_wb_sum_fault",
  "_law_wb_is_tie",
  "_law_wb_ties_fault",
  "_law_wb_world_fault",
  "whole",
  "is_sum",
  "first_odd_sum",
  "is_tie",
  "first_odd_tie",
  "is_world",
  "made_world",
  "_law_a1_right",
  "_law_take",
  "_law_one",
  "_law_wb_bent",
  "_law_a1_things",
  "many",
  "asked_n",
  "made_ties",
  "_law_a1_ties_right",
  "_law_pool",
  "_law_wb_sum",
  "_law_wb_world",
  "law",
  "Refused"]
def glos_1 : List Str := ["BadTies",
  "BadWorld",
  "BadMany",
  "TooMany"]
def glos : List Str := glos_0 ++ glos_1
def fres_0 : List Str := ["ValueError",
  "all",
  "bool",
  "enumerate",
  "int",
  "isinstance",
  "len",
  "list",
  "max",
  "range",
  "str",
  "tuple"]
def fres : List Str := fres_0
def tf_0 : List He.Defn := [("_law_a1_right", none),
  ("_law_a1_ties_right", none),
  ("law", none)]
def tf : List He.Defn := tf_0
def tab_0 : List (Str × List Str) := [("Refused", ["Refused"]),
  ("BadTies", ["BadTies", "Refused"]),
  ("BadWorld", ["BadWorld", "Refused"]),
  ("BadMany", ["BadMany", "Refused"]),
  ("TooMany", ["TooMany", "Refused"])]
def tab : List (Str × List Str) := tab_0
def loose_0 : List Str := ["whole",
  "many",
  "asked_n",
  "is_sum",
  "is_tie",
  "first_odd_tie",
  "made_ties",
  "first_odd_sum",
  "made_world",
  "is_world",
  "_law_pool",
  "_law_take",
  "_law_one",
  "_law_wb_is_whole",
  "_law_wb_is_in",
  "_law_wb_same",
  "_law_wb_sum_fault",
  "_law_wb_is_tie",
  "_law_wb_ties_fault",
  "_law_wb_world_fault",
  "_law_wb_sum",
  "_law_wb_world",
  "_law_wb_bent",
  "_law_a1_heard",
  "_law_a1_things",
  "_law_a1_right",
  "_law_a1_ties_right",
  "_law_a1_hand",
  "Refused",
  "BadTies"]
def loose_1 : List Str := ["BadWorld",
  "BadMany",
  "TooMany",
  "MOST_QUANTITIES",
  "MOST_ENTRY",
  "FIRM",
  "OPEN",
  "MANNERS",
  "MOST_TIES",
  "TIE_PARTS",
  "MOST_EQUATIONS",
  "WORLD_PARTS"]
def loose : List Str := loose_0 ++ loose_1
def fa : List He.Fa := glos.map He.Fa.glo ++ fres.map He.Fa.free
def fI (K : PySem.W.Frag) : Addr := He.ma K (He.ga K "Refused") "__init__"
def exA (K : PySem.W.Frag) : Bool := (clsB K (fI K) tab) && (iniB K (fI K)) && (uniqB K tf) && ((He.Fa.int "MOST_QUANTITIES" (40)).ok K) && ((He.Fa.int "MOST_ENTRY" (1000)).ok K) && ((He.Fa.str "FIRM" "firm").ok K) && ((He.Fa.str "OPEN" "open").ok K) && (He.eqO (PySem.W.nsIn K mainGlobals "MANNERS") (some (some (.ref (He.ga K "MANNERS")))) && He.tupB K "MANNERS" [.str "firm", .str "open"]) && ((He.Fa.int "MOST_TIES" (12)).ok K) && ((He.Fa.int "TIE_PARTS" (3)).ok K) && ((He.Fa.int "MOST_EQUATIONS" (40)).ok K) && ((He.Fa.int "WORLD_PARTS" (3)).ok K)
abbrev R : PySem.W.OpenRow := PySem.W.OpenLaw.row PySem.Challenge.rw_anystrength_k01_worlds_by_form
abbrev hk : PySem.W.Hook := He.hookX 5 fa fn [] tf exA
def ob (s : PySem.W.SharedT) : He.AlX := He.obsX 5 fa fn [] tf exA (HandSHeadRun.getT s)
theorem ob_eq (s : PySem.W.SharedT) : ob s = hk.obs s.abs := He.obsX_eq (HandSHeadRun.getT_eq s)
end Law
end
section
set_option Elab.async false
set_option linter.all false
set_option maxRecDepth 100000
set_option maxHeartbeats 4000000
namespace Law
open PySem PySem.Spec PyProof.Rows Sh
open L2 hiding St
set_option maxHeartbeats 0 in
theorem run (w : World) : HandSHeadRun.RunEq R (PySem.W.view R.prog [47]) hk ob 4000 loose w := by
  intro os
  kernel_rfl
end Law
open PySem PySem.W PySem.Calls PyProof.Rows in
set_option maxHeartbeats 0 in
theorem Law.head (hc : WalkO (view Law.R.prog [47]) Law.loose (XL (view Law.R.prog [47]) []) Law.hk.says Law.R.toRowW (HandSHeadRun.topDef Law.R.prog 47) [] fun f vs => PySem.call f vs) : PySem.Challenge.rw_anystrength_k01_worlds_by_form.Holds := by
  w_on; o_law
  refine HandSHeadRun.head_any (r := OpenLaw.row PySem.Challenge.rw_anystrength_k01_worlds_by_form) (q := view (OpenLaw.row PySem.Challenge.rw_anystrength_k01_worlds_by_form).prog [47]) (H := Law.hk) (ob := Law.ob) (M := 4000) (loose := Law.loose) (d := HandSHeadRun.topDef (OpenLaw.row PySem.Challenge.rw_anystrength_k01_worlds_by_form).prog 47) (kwd := []) Law.ob_eq
    (by kernel_rfl) (fun s => by kernel_rfl) Law.run (by kernel_rfl) (by kernel_rfl) (by kernel_rfl) (by rfl) (by first | assumption | decide +kernel) (by decide +kernel) ⟨rfl, rfl, rfl, rfl, rfl, by decide +kernel⟩ ?hw hc
  case hw => w_witness2
end
section
set_option Elab.async false
set_option linter.all false
set_option maxRecDepth 100000
set_option maxHeartbeats 4000000
namespace Law
open PySem PySem.Spec PyProof.Rows Sh
open L2 hiding St
/-! ### what the top has written -/
def k_MOST_QUANTITIES : S → OE := cE (.int 40)
def k_MOST_ENTRY : S → OE := cE (.int 1000)
def k_FIRM : S → OE := cE (.str "firm")
def k_OPEN : S → OE := cE (.str "open")
def k_MANNERS : S → OE := cE (.tup [(.str "firm"), (.str "open")])
def k_MOST_TIES : S → OE := cE (.int 12)
def k_TIE_PARTS : S → OE := cE (.int 3)
def k_MOST_EQUATIONS : S → OE := cE (.int 40)
def k_WORLD_PARTS : S → OE := cE (.int 3)
structure Txt (c : Cn) : Prop where
  d : He.SaysD fa fn c.K
  mgG : ∀ x, (He.Fa.glo x).ok c.K = true → c.mg x = some (.ref (He.ga c.K x))
  mgF : ∀ x, (He.Fa.free x).ok c.K = true → c.mg x = none
  cls : ClsOk c (fI c.K) tab
  ini : IniOk c (fI c.K)
  G_ok : ∀ (k : Nat) (x : Str), glos[k]? = some x → c.G k = some (He.ga c.K x)
  k_MOST_QUANTITIES : ∃ t, c.mg "MOST_QUANTITIES" = some (.int 40 t)
  k_MOST_ENTRY : ∃ t, c.mg "MOST_ENTRY" = some (.int 1000 t)
  k_FIRM : ∃ t, c.mg "FIRM" = some (.str "firm" t)
  k_OPEN : ∃ t, c.mg "OPEN" = some (.str "open" t)
  k_MANNERS : c.mg "MANNERS" = some (.ref (He.ga c.K "MANNERS")) ∧ RelV (.ref (He.ga c.K "MANNERS")) (.ref (He.ga c.K "MANNERS")) ∧ ∀ F H, Rep c F H (.tup [(.str "firm"), (.str "open")]) (.ref (He.ga c.K "MANNERS"))
  k_MOST_TIES : ∃ t, c.mg "MOST_TIES" = some (.int 12 t)
  k_TIE_PARTS : ∃ t, c.mg "TIE_PARTS" = some (.int 3 t)
  k_MOST_EQUATIONS : ∃ t, c.mg "MOST_EQUATIONS" = some (.int 40 t)
  k_WORLD_PARTS : ∃ t, c.mg "WORLD_PARTS" = some (.int 3 t)
  tb : ∀ x, x ∈ tf → LamX.TabB c.base c.mg (He.cT c.K x).1 (He.cT c.K x).2
  inT : ∀ x, x ∈ tf → ((He.cT c.K x).2, (x.1 ++ ".<locals>.") ++ "<lambda>") ∈ c.T
  uniq : ∀ x, x ∈ tf → ∀ q ∈ c.T, q.1 = (He.cT c.K x).2 → q.2 = (x.1 ++ ".<locals>.") ++ "<lambda>"
section
variable {c : Cn}
theorem g__law_a1_hand (T : Txt c) : c.mg "_law_a1_hand" = some (.ref (He.ga c.K "_law_a1_hand")) := T.mgG _ (T.d.fact 0 rfl)
theorem g__law_a1_heard (T : Txt c) : c.mg "_law_a1_heard" = some (.ref (He.ga c.K "_law_a1_heard")) := T.mgG _ (T.d.fact 1 rfl)
theorem g__law_wb_is_whole (T : Txt c) : c.mg "_law_wb_is_whole" = some (.ref (He.ga c.K "_law_wb_is_whole")) := T.mgG _ (T.d.fact 2 rfl)
theorem g__law_wb_same (T : Txt c) : c.mg "_law_wb_same" = some (.ref (He.ga c.K "_law_wb_same")) := T.mgG _ (T.d.fact 3 rfl)
theorem g__law_wb_is_in (T : Txt c) : c.mg "_law_wb_is_in" = some (.ref (He.ga c.K "_law_wb_is_in")) := T.mgG _ (T.d.fact 4 rfl)
theorem g__law_wb_sum_fault (T : Txt c) : c.mg "_law_wb_sum_fault" = some (.ref (He.ga c.K "_law_wb_sum_fault")) := T.mgG _ (T.d.fact 5 rfl)
theorem g__law_wb_is_tie (T : Txt c) : c.mg "_law_wb_is_tie" = some (.ref (He.ga c.K "_law_wb_is_tie")) := T.mgG _ (T.d.fact 6 rfl)
theorem g__law_wb_ties_fault (T : Txt c) : c.mg "_law_wb_ties_fault" = some (.ref (He.ga c.K "_law_wb_ties_fault")) := T.mgG _ (T.d.fact 7 rfl)
theorem g__law_wb_world_fault (T : Txt c) : c.mg "_law_wb_world_fault" = some (.ref (He.ga c.K "_law_wb_world_fault")) := T.mgG _ (T.d.fact 8 rfl)
theorem g_whole (T : Txt c) : c.mg "whole" = some (.ref (He.ga c.K "whole")) := T.mgG _ (T.d.fact 9 rfl)
theorem g_is_sum (T : Txt c) : c.mg "is_sum" = some (.ref (He.ga c.K "is_sum")) := T.mgG _ (T.d.fact 10 rfl)
theorem g_first_odd_sum (T : Txt c) : c.mg "first_odd_sum" = some (.ref (He.ga c.K "first_odd_sum")) := T.mgG _ (T.d.fact 11 rfl)
theorem g_is_tie (T : Txt c) : c.mg "is_tie" = some (.ref (He.ga c.K "is_tie")) := T.mgG _ (T.d.fact 12 rfl)
theorem g_first_odd_tie (T : Txt c) : c.mg "first_odd_tie" = some (.ref (He.ga c.K "first_odd_tie")) := T.mgG _ (T.d.fact 13 rfl)
theorem g_is_world (T : Txt c) : c.mg "is_world" = some (.ref (He.ga c.K "is_world")) := T.mgG _ (T.d.fact 14 rfl)
theorem g_made_world (T : Txt c) : c.mg "made_world" = some (.ref (He.ga c.K "made_world")) := T.mgG _ (T.d.fact 15 rfl)
theorem g__law_a1_right (T : Txt c) : c.mg "_law_a1_right" = some (.ref (He.ga c.K "_law_a1_right")) := T.mgG _ (T.d.fact 16 rfl)
theorem g__law_take (T : Txt c) : c.mg "_law_take" = some (.ref (He.ga c.K "_law_take")) := T.mgG _ (T.d.fact 17 rfl)
theorem g__law_one (T : Txt c) : c.mg "_law_one" = some (.ref (He.ga c.K "_law_one")) := T.mgG _ (T.d.fact 18 rfl)
theorem g__law_wb_bent (T : Txt c) : c.mg "_law_wb_bent" = some (.ref (He.ga c.K "_law_wb_bent")) := T.mgG _ (T.d.fact 19 rfl)
theorem g__law_a1_things (T : Txt c) : c.mg "_law_a1_things" = some (.ref (He.ga c.K "_law_a1_things")) := T.mgG _ (T.d.fact 20 rfl)
theorem g_many (T : Txt c) : c.mg "many" = some (.ref (He.ga c.K "many")) := T.mgG _ (T.d.fact 21 rfl)
theorem g_asked_n (T : Txt c) : c.mg "asked_n" = some (.ref (He.ga c.K "asked_n")) := T.mgG _ (T.d.fact 22 rfl)
theorem g_made_ties (T : Txt c) : c.mg "made_ties" = some (.ref (He.ga c.K "made_ties")) := T.mgG _ (T.d.fact 23 rfl)
theorem g__law_a1_ties_right (T : Txt c) : c.mg "_law_a1_ties_right" = some (.ref (He.ga c.K "_law_a1_ties_right")) := T.mgG _ (T.d.fact 24 rfl)
theorem g__law_pool (T : Txt c) : c.mg "_law_pool" = some (.ref (He.ga c.K "_law_pool")) := T.mgG _ (T.d.fact 25 rfl)
theorem g__law_wb_sum (T : Txt c) : c.mg "_law_wb_sum" = some (.ref (He.ga c.K "_law_wb_sum")) := T.mgG _ (T.d.fact 26 rfl)
theorem g__law_wb_world (T : Txt c) : c.mg "_law_wb_world" = some (.ref (He.ga c.K "_law_wb_world")) := T.mgG _ (T.d.fact 27 rfl)
theorem g_law (T : Txt c) : c.mg "law" = some (.ref (He.ga c.K "law")) := T.mgG _ (T.d.fact 28 rfl)
theorem g_Refused (T : Txt c) : c.mg "Refused" = some (.ref (He.ga c.K "Refused")) := T.mgG _ (T.d.fact 29 rfl)
theorem g_BadTies (T : Txt c) : c.mg "BadTies" = some (.ref (He.ga c.K "BadTies")) := T.mgG _ (T.d.fact 30 rfl)
theorem g_BadWorld (T : Txt c) : c.mg "BadWorld" = some (.ref (He.ga c.K "BadWorld")) := T.mgG _ (T.d.fact 31 rfl)
theorem g_BadMany (T : Txt c) : c.mg "BadMany" = some (.ref (He.ga c.K "BadMany")) := T.mgG _ (T.d.fact 32 rfl)
theorem g_TooMany (T : Txt c) : c.mg "TooMany" = some (.ref (He.ga c.K "TooMany")) := T.mgG _ (T.d.fact 33 rfl)
theorem g_ValueError (T : Txt c) : c.mg "ValueError" = none := T.mgF _ (T.d.fact 34 rfl)
theorem g_all (T : Txt c) : c.mg "all" = none := T.mgF _ (T.d.fact 35 rfl)
theorem g_bool (T : Txt c) : c.mg "bool" = none := T.mgF _ (T.d.fact 36 rfl)
theorem g_enumerate (T : Txt c) : c.mg "enumerate" = none := T.mgF _ (T.d.fact 37 rfl)
theorem g_int (T : Txt c) : c.mg "int" = none := T.mgF _ (T.d.fact 38 rfl)
theorem g_isinstance (T : Txt c) : c.mg "isinstance" = none := T.mgF _ (T.d.fact 39 rfl)
theorem g_len (T : Txt c) : c.mg "len" = none := T.mgF _ (T.d.fact 40 rfl)
theorem g_list (T : Txt c) : c.mg "list" = none := T.mgF _ (T.d.fact 41 rfl)
theorem g_max (T : Txt c) : c.mg "max" = none := T.mgF _ (T.d.fact 42 rfl)
theorem g_range (T : Txt c) : c.mg "range" = none := T.mgF _ (T.d.fact 43 rfl)
theorem g_str (T : Txt c) : c.mg "str" = none := T.mgF _ (T.d.fact 44 rfl)
theorem g_tuple (T : Txt c) : c.mg "tuple" = none := T.mgF _ (T.d.fact 45 rfl)
theorem F__law_a1_hand (T : Txt c) : ∃ fd, L2.FunD c.K "_law_a1_hand" "_law_a1_hand" (defArgs (top 46)) (defBody (top 46)) (defScope (top 46)) [] [] (He.ga c.K "_law_a1_hand") fd := T.d.def_ 0 rfl
theorem kp__law_a1_hand (T : Txt c) : PySem.W.keepIn c.K (.ref (He.ga c.K "_law_a1_hand")) = true := (F__law_a1_hand T).choose_spec.kp
theorem F__law_a1_heard (T : Txt c) : ∃ fd, L2.FunD c.K "_law_a1_heard" "_law_a1_heard" (defArgs (top 42)) (defBody (top 42)) (defScope (top 42)) [] [] (He.ga c.K "_law_a1_heard") fd := T.d.def_ 1 rfl
theorem kp__law_a1_heard (T : Txt c) : PySem.W.keepIn c.K (.ref (He.ga c.K "_law_a1_heard")) = true := (F__law_a1_heard T).choose_spec.kp
theorem F__law_wb_is_whole (T : Txt c) : ∃ fd, L2.FunD c.K "_law_wb_is_whole" "_law_wb_is_whole" (defArgs (top 32)) (defBody (top 32)) (defScope (top 32)) [] [] (He.ga c.K "_law_wb_is_whole") fd := T.d.def_ 2 rfl
theorem kp__law_wb_is_whole (T : Txt c) : PySem.W.keepIn c.K (.ref (He.ga c.K "_law_wb_is_whole")) = true := (F__law_wb_is_whole T).choose_spec.kp
theorem F__law_wb_same (T : Txt c) : ∃ fd, L2.FunD c.K "_law_wb_same" "_law_wb_same" (defArgs (top 34)) (defBody (top 34)) (defScope (top 34)) [] [] (He.ga c.K "_law_wb_same") fd := T.d.def_ 3 rfl
theorem kp__law_wb_same (T : Txt c) : PySem.W.keepIn c.K (.ref (He.ga c.K "_law_wb_same")) = true := (F__law_wb_same T).choose_spec.kp
theorem F__law_wb_is_in (T : Txt c) : ∃ fd, L2.FunD c.K "_law_wb_is_in" "_law_wb_is_in" (defArgs (top 33)) (defBody (top 33)) (defScope (top 33)) [] [] (He.ga c.K "_law_wb_is_in") fd := T.d.def_ 4 rfl
theorem kp__law_wb_is_in (T : Txt c) : PySem.W.keepIn c.K (.ref (He.ga c.K "_law_wb_is_in")) = true := (F__law_wb_is_in T).choose_spec.kp
theorem F__law_wb_sum_fault (T : Txt c) : ∃ fd, L2.FunD c.K "_law_wb_sum_fault" "_law_wb_sum_fault" (defArgs (top 35)) (defBody (top 35)) (defScope (top 35)) [] [] (He.ga c.K "_law_wb_sum_fault") fd := T.d.def_ 5 rfl
theorem kp__law_wb_sum_fault (T : Txt c) : PySem.W.keepIn c.K (.ref (He.ga c.K "_law_wb_sum_fault")) = true := (F__law_wb_sum_fault T).choose_spec.kp
theorem F__law_wb_is_tie (T : Txt c) : ∃ fd, L2.FunD c.K "_law_wb_is_tie" "_law_wb_is_tie" (defArgs (top 36)) (defBody (top 36)) (defScope (top 36)) [] [] (He.ga c.K "_law_wb_is_tie") fd := T.d.def_ 6 rfl
theorem kp__law_wb_is_tie (T : Txt c) : PySem.W.keepIn c.K (.ref (He.ga c.K "_law_wb_is_tie")) = true := (F__law_wb_is_tie T).choose_spec.kp
theorem F__law_wb_ties_fault (T : Txt c) : ∃ fd, L2.FunD c.K "_law_wb_ties_fault" "_law_wb_ties_fault" (defArgs (top 37)) (defBody (top 37)) (defScope (top 37)) [] [] (He.ga c.K "_law_wb_ties_fault") fd := T.d.def_ 7 rfl
theorem kp__law_wb_ties_fault (T : Txt c) : PySem.W.keepIn c.K (.ref (He.ga c.K "_law_wb_ties_fault")) = true := (F__law_wb_ties_fault T).choose_spec.kp
theorem F__law_wb_world_fault (T : Txt c) : ∃ fd, L2.FunD c.K "_law_wb_world_fault" "_law_wb_world_fault" (defArgs (top 38)) (defBody (top 38)) (defScope (top 38)) [] [] (He.ga c.K "_law_wb_world_fault") fd := T.d.def_ 8 rfl
theorem kp__law_wb_world_fault (T : Txt c) : PySem.W.keepIn c.K (.ref (He.ga c.K "_law_wb_world_fault")) = true := (F__law_wb_world_fault T).choose_spec.kp
theorem F_whole (T : Txt c) : ∃ fd, L2.FunD c.K "whole" "whole" (defArgs (top 6)) (defBody (top 6)) (defScope (top 6)) [] [] (He.ga c.K "whole") fd := T.d.def_ 9 rfl
theorem kp_whole (T : Txt c) : PySem.W.keepIn c.K (.ref (He.ga c.K "whole")) = true := (F_whole T).choose_spec.kp
theorem F_is_sum (T : Txt c) : ∃ fd, L2.FunD c.K "is_sum" "is_sum" (defArgs (top 12)) (defBody (top 12)) (defScope (top 12)) [] [] (He.ga c.K "is_sum") fd := T.d.def_ 10 rfl
theorem kp_is_sum (T : Txt c) : PySem.W.keepIn c.K (.ref (He.ga c.K "is_sum")) = true := (F_is_sum T).choose_spec.kp
theorem F_first_odd_sum (T : Txt c) : ∃ fd, L2.FunD c.K "first_odd_sum" "first_odd_sum" (defArgs (top 25)) (defBody (top 25)) (defScope (top 25)) [] [] (He.ga c.K "first_odd_sum") fd := T.d.def_ 11 rfl
theorem kp_first_odd_sum (T : Txt c) : PySem.W.keepIn c.K (.ref (He.ga c.K "first_odd_sum")) = true := (F_first_odd_sum T).choose_spec.kp
theorem F_is_tie (T : Txt c) : ∃ fd, L2.FunD c.K "is_tie" "is_tie" (defArgs (top 19)) (defBody (top 19)) (defScope (top 19)) [] [] (He.ga c.K "is_tie") fd := T.d.def_ 12 rfl
theorem kp_is_tie (T : Txt c) : PySem.W.keepIn c.K (.ref (He.ga c.K "is_tie")) = true := (F_is_tie T).choose_spec.kp
theorem F_first_odd_tie (T : Txt c) : ∃ fd, L2.FunD c.K "first_odd_tie" "first_odd_tie" (defArgs (top 20)) (defBody (top 20)) (defScope (top 20)) [] [] (He.ga c.K "first_odd_tie") fd := T.d.def_ 13 rfl
theorem kp_first_odd_tie (T : Txt c) : PySem.W.keepIn c.K (.ref (He.ga c.K "first_odd_tie")) = true := (F_first_odd_tie T).choose_spec.kp
theorem F_is_world (T : Txt c) : ∃ fd, L2.FunD c.K "is_world" "is_world" (defArgs (top 27)) (defBody (top 27)) (defScope (top 27)) [] [] (He.ga c.K "is_world") fd := T.d.def_ 14 rfl
theorem kp_is_world (T : Txt c) : PySem.W.keepIn c.K (.ref (He.ga c.K "is_world")) = true := (F_is_world T).choose_spec.kp
theorem F_made_world (T : Txt c) : ∃ fd, L2.FunD c.K "made_world" "made_world" (defArgs (top 26)) (defBody (top 26)) (defScope (top 26)) [] [] (He.ga c.K "made_world") fd := T.d.def_ 15 rfl
theorem kp_made_world (T : Txt c) : PySem.W.keepIn c.K (.ref (He.ga c.K "made_world")) = true := (F_made_world T).choose_spec.kp
theorem F__law_a1_right (T : Txt c) : ∃ fd, L2.FunD c.K "_law_a1_right" "_law_a1_right" (defArgs (top 44)) (defBody (top 44)) (defScope (top 44)) [] [] (He.ga c.K "_law_a1_right") fd := T.d.def_ 16 rfl
theorem kp__law_a1_right (T : Txt c) : PySem.W.keepIn c.K (.ref (He.ga c.K "_law_a1_right")) = true := (F__law_a1_right T).choose_spec.kp
theorem F__law_take (T : Txt c) : ∃ fd, L2.FunD c.K "_law_take" "_law_take" (defArgs (top 30)) (defBody (top 30)) (defScope (top 30)) [] [] (He.ga c.K "_law_take") fd := T.d.def_ 17 rfl
theorem kp__law_take (T : Txt c) : PySem.W.keepIn c.K (.ref (He.ga c.K "_law_take")) = true := (F__law_take T).choose_spec.kp
theorem F__law_one (T : Txt c) : ∃ fd, L2.FunD c.K "_law_one" "_law_one" (defArgs (top 31)) (defBody (top 31)) (defScope (top 31)) [] [] (He.ga c.K "_law_one") fd := T.d.def_ 18 rfl
theorem kp__law_one (T : Txt c) : PySem.W.keepIn c.K (.ref (He.ga c.K "_law_one")) = true := (F__law_one T).choose_spec.kp
theorem F__law_wb_bent (T : Txt c) : ∃ fd, L2.FunD c.K "_law_wb_bent" "_law_wb_bent" (defArgs (top 41)) (defBody (top 41)) (defScope (top 41)) [] [] (He.ga c.K "_law_wb_bent") fd := T.d.def_ 19 rfl
theorem kp__law_wb_bent (T : Txt c) : PySem.W.keepIn c.K (.ref (He.ga c.K "_law_wb_bent")) = true := (F__law_wb_bent T).choose_spec.kp
theorem F__law_a1_things (T : Txt c) : ∃ fd, L2.FunD c.K "_law_a1_things" "_law_a1_things" (defArgs (top 43)) (defBody (top 43)) (defScope (top 43)) [] [] (He.ga c.K "_law_a1_things") fd := T.d.def_ 20 rfl
theorem kp__law_a1_things (T : Txt c) : PySem.W.keepIn c.K (.ref (He.ga c.K "_law_a1_things")) = true := (F__law_a1_things T).choose_spec.kp
theorem F_many (T : Txt c) : ∃ fd, L2.FunD c.K "many" "many" (defArgs (top 10)) (defBody (top 10)) (defScope (top 10)) [] [] (He.ga c.K "many") fd := T.d.def_ 21 rfl
theorem kp_many (T : Txt c) : PySem.W.keepIn c.K (.ref (He.ga c.K "many")) = true := (F_many T).choose_spec.kp
theorem F_asked_n (T : Txt c) : ∃ fd, L2.FunD c.K "asked_n" "asked_n" (defArgs (top 11)) (defBody (top 11)) (defScope (top 11)) [] [] (He.ga c.K "asked_n") fd := T.d.def_ 22 rfl
theorem kp_asked_n (T : Txt c) : PySem.W.keepIn c.K (.ref (He.ga c.K "asked_n")) = true := (F_asked_n T).choose_spec.kp
theorem F_made_ties (T : Txt c) : ∃ fd, L2.FunD c.K "made_ties" "made_ties" (defArgs (top 21)) (defBody (top 21)) (defScope (top 21)) [] [] (He.ga c.K "made_ties") fd := T.d.def_ 23 rfl
theorem kp_made_ties (T : Txt c) : PySem.W.keepIn c.K (.ref (He.ga c.K "made_ties")) = true := (F_made_ties T).choose_spec.kp
theorem F__law_a1_ties_right (T : Txt c) : ∃ fd, L2.FunD c.K "_law_a1_ties_right" "_law_a1_ties_right" (defArgs (top 45)) (defBody (top 45)) (defScope (top 45)) [] [] (He.ga c.K "_law_a1_ties_right") fd := T.d.def_ 24 rfl
theorem kp__law_a1_ties_right (T : Txt c) : PySem.W.keepIn c.K (.ref (He.ga c.K "_law_a1_ties_right")) = true := (F__law_a1_ties_right T).choose_spec.kp
theorem F__law_pool (T : Txt c) : ∃ fd, L2.FunD c.K "_law_pool" "_law_pool" (defArgs (top 29)) (defBody (top 29)) (defScope (top 29)) [] [] (He.ga c.K "_law_pool") fd := T.d.def_ 25 rfl
theorem kp__law_pool (T : Txt c) : PySem.W.keepIn c.K (.ref (He.ga c.K "_law_pool")) = true := (F__law_pool T).choose_spec.kp
theorem F__law_wb_sum (T : Txt c) : ∃ fd, L2.FunD c.K "_law_wb_sum" "_law_wb_sum" (defArgs (top 39)) (defBody (top 39)) (defScope (top 39)) [] [] (He.ga c.K "_law_wb_sum") fd := T.d.def_ 26 rfl
theorem kp__law_wb_sum (T : Txt c) : PySem.W.keepIn c.K (.ref (He.ga c.K "_law_wb_sum")) = true := (F__law_wb_sum T).choose_spec.kp
theorem F__law_wb_world (T : Txt c) : ∃ fd, L2.FunD c.K "_law_wb_world" "_law_wb_world" (defArgs (top 40)) (defBody (top 40)) (defScope (top 40)) [] [] (He.ga c.K "_law_wb_world") fd := T.d.def_ 27 rfl
theorem kp__law_wb_world (T : Txt c) : PySem.W.keepIn c.K (.ref (He.ga c.K "_law_wb_world")) = true := (F__law_wb_world T).choose_spec.kp
theorem F_law (T : Txt c) : ∃ fd, L2.FunD c.K "law" "law" (defArgs (top 47)) (defBody (top 47)) (defScope (top 47)) [] [] (He.ga c.K "law") fd := T.d.def_ 28 rfl
theorem kp_law (T : Txt c) : PySem.W.keepIn c.K (.ref (He.ga c.K "law")) = true := (F_law T).choose_spec.kp
/-! ### the mirrors, each with its derivation -/
def m__law_a1_hand : S → OS :=
  (seqS (asgS (tupT 2 (consT (nameT 0) (consT (nameT 1) nilT))) (tupE [(tupE [(cE (.int 1))]), (tupE [(tupE [(cE (.int 1))]), (tupE [(un1 negV (cE (.int 3)))]), (cE (.str "open"))])]))
  (seqS (setS 2 (lstE [(tupE [(tupE [(cE (.int 1)), (bin2 mulW (tupE [(varE 0)]) (cE (.int 40))), (bin2 mulW (tupE [(varE 1)]) (cE (.int 12)))]), (cE .non)]), (tupE [(tupE [(cE (.int 1)), (bin2 mulW (tupE [(varE 0)]) (cE (.int 41))), (bin2 mulW (tupE [(varE 1)]) (cE (.int 12)))]), (tupE [(cE (.str "TooMany")), (cE (.int 41))])])]))
  (seqS (dropS (methE "list" extV (varE 2) [(lstE [(tupE [(tupE [(cE (.int 1)), (bin2 mulW (tupE [(varE 0)]) (cE (.int 40))), (bin2 mulW (tupE [(varE 1)]) (cE (.int 13)))]), (tupE [(cE (.str "TooMany")), (cE (.int 13))])]), (tupE [(tupE [(cE (.int 40)), (tupE [(bin2 addV (bin2 mulW (tupE [(cE (.int 0))]) (cE (.int 39))) (tupE [(cE (.int 1000))]))]), (tupE [])]), (cE .non)])])]))
  (seqS (dropS (methE "list" extV (varE 2) [(lstE [(tupE [(tupE [(cE (.int 41)), (tupE []), (tupE [])]), (tupE [(cE (.str "BadWorld")), (cE (.int 0))])]), (tupE [(tupE [(cE (.int 1)), (tupE []), (tupE [])]), (cE .non)]), (tupE [(tupE [(cE (.int 1)), (tupE [(tupE [(cE (.int 0))])]), (tupE [])]), (cE .non)])])]))
  (seqS (dropS (methE "list" appV (varE 2) [(tupE [(tupE [(cE (.int 1)), (tupE [(tupE [(un1 negV (cE (.int 1000)))]), (tupE [(cE (.int 1001))]), (cE .non)]), (cE .non)]), (tupE [(cE (.str "BadWorld")), (tupE [(cE (.int 1)), (cE (.int 1))])])])]))
  (seqS (dropS (methE "list" appV (varE 2) [(tupE [(tupE [(cE (.int 1)), (tupE [(cE .non)]), (cE (.int 5))]), (tupE [(cE (.str "BadWorld")), (tupE [(cE (.int 1)), (cE (.int 0))])])])]))
  (seqS (dropS (methE "list" appV (varE 2) [(tupE [(tupE [(cE (.int 1)), (tupE []), (tupE [(tupE [(tupE [(cE (.int 0))]), (tupE [(cE (.int 1))]), (cE (.str "firm"))])])]), (tupE [(cE (.str "BadWorld")), (tupE [(cE (.int 2)), (cE (.int 0))])])])]))
  (seqS (dropS (methE "list" appV (varE 2) [(tupE [(tupE [(cE (.int 1)), (tupE []), (tupE [(varE 1), (cE .non)])]), (tupE [(cE (.str "BadWorld")), (tupE [(cE (.int 2)), (cE (.int 1))])])])]))
  (seqS (dropS (methE "list" extV (varE 2) [(lstE [(tupE [(tupE [(cE (.int 1)), (tupE []), (tupE [(tupE [(tupE [(cE (.int 1))]), (tupE [(cE (.int 0))]), (cE (.str "open"))])])]), (tupE [(cE (.str "BadWorld")), (tupE [(cE (.int 2)), (cE (.int 0))])])]), (tupE [(tupE [(cE (.int 1)), (tupE []), (lstE [(varE 1)])]), (tupE [(cE (.str "BadWorld")), (cE (.int 2))])])])]))
  (seqS (dropS (methE "list" appV (varE 2) [(tupE [(tupE [(cE (.int 1)), (tupE [(varE 0), (cE .non)]), (bin2 mulW (tupE [(varE 1)]) (cE (.int 13)))]), (tupE [(cE (.str "BadWorld")), (tupE [(cE (.int 1)), (cE (.int 1))])])])]))
  (seqS (dropS (methE "list" appV (varE 2) [(tupE [(tupE [(cE (.int 1)), (bin2 mulW (tupE [(varE 0)]) (cE (.int 41))), (bin2 mulW (tupE [(varE 1)]) (cE (.int 13)))]), (tupE [(cE (.str "TooMany")), (cE (.int 41))])])]))
  (retS (bin2 addV (varE 2) (lstE [(tupE [(tupE [(cE (.int 1)), (lstE [(varE 0)]), (lstE [(varE 1)])]), (tupE [(cE (.str "BadWorld")), (cE (.int 1))])]), (tupE [(tupE [(cE (.int 1)), (tupE [(varE 0)]), (tupE [(tupE [(tupE [(cE (.int 1))]), (tupE [(cE (.int 1))]), (cE (.str "Firm"))])])]), (tupE [(cE (.str "BadWorld")), (tupE [(cE (.int 2)), (cE (.int 0))])])])]))))))))))))))
theorem sc__law_a1_hand : FnScope ["one", "tie", "some"] [] (defScope (top 46)) := ⟨rfl, rfl, rfl, by decide +kernel, rfl, by decide +kernel, by decide +kernel⟩
def d__law_a1_hand (as : List Ar) : RD := runD 0 3 m__law_a1_hand as
set_option maxHeartbeats 0 in
theorem s__law_a1_hand (T : Txt c) : FnS c 1 (He.ga c.K "_law_a1_hand") d__law_a1_hand := by
  obtain ⟨fd, F⟩ := F__law_a1_hand T
  exact fun_sh (N := ["one", "tie", "some"]) (ps := []) (k := 0) (G := m__law_a1_hand) F sc__law_a1_hand (F.bindsN fun _ _ _ _ _ _ us hl => match us, hl with | [], _ => rfl) fun cdv A outer s H Fz io E hcd b hM =>
    (s_cons (s_asg (i_tup (i_pa_cons (i_tup (i_pa_cons i_int i_pa_nil)) (i_pa_cons (i_tup (i_pa_cons (i_tup (i_pa_cons i_int i_pa_nil)) (i_pa_cons (i_tup (i_pa_cons (c_neg i_int) i_pa_nil)) (i_pa_cons i_str i_pa_nil)))) i_pa_nil))) (g_tup b.hX.K b.calm (g_cons (g_name (i := 0) b.nd) (g_cons (g_name (i := 1) b.nd) g_nil))))
    (s_cons (s_set (i := 2) b.nd (i_lst (i_pa_cons (i_tup (i_pa_cons (i_tup (i_pa_cons i_int (i_pa_cons (c_mulW b.hX (i_tup (i_pa_cons (i_var (pv 0)) i_pa_nil)) i_int) (i_pa_cons (c_mulW b.hX (i_tup (i_pa_cons (i_var (pv 1)) i_pa_nil)) i_int) i_pa_nil)))) (i_pa_cons i_non i_pa_nil))) (i_pa_cons (i_tup (i_pa_cons (i_tup (i_pa_cons i_int (i_pa_cons (c_mulW b.hX (i_tup (i_pa_cons (i_var (pv 0)) i_pa_nil)) i_int) (i_pa_cons (c_mulW b.hX (i_tup (i_pa_cons (i_var (pv 1)) i_pa_nil)) i_int) i_pa_nil)))) (i_pa_cons (i_tup (i_pa_cons i_str (i_pa_cons i_int i_pa_nil))) i_pa_nil))) i_pa_nil))))
    (s_cons (s_expr (c_extend b.hX (i_var (pv 2)) (i_pa_cons (i_lst (i_pa_cons (i_tup (i_pa_cons (i_tup (i_pa_cons i_int (i_pa_cons (c_mulW b.hX (i_tup (i_pa_cons (i_var (pv 0)) i_pa_nil)) i_int) (i_pa_cons (c_mulW b.hX (i_tup (i_pa_cons (i_var (pv 1)) i_pa_nil)) i_int) i_pa_nil)))) (i_pa_cons (i_tup (i_pa_cons i_str (i_pa_cons i_int i_pa_nil))) i_pa_nil))) (i_pa_cons (i_tup (i_pa_cons (i_tup (i_pa_cons i_int (i_pa_cons (i_tup (i_pa_cons (c_add b.hX (c_mulW b.hX (i_tup (i_pa_cons i_int i_pa_nil)) i_int) (i_tup (i_pa_cons i_int i_pa_nil))) i_pa_nil)) (i_pa_cons (i_tup i_pa_nil) i_pa_nil)))) (i_pa_cons i_non i_pa_nil))) i_pa_nil))) i_pa_nil)))
    (s_cons (s_expr (c_extend b.hX (i_var (pv 2)) (i_pa_cons (i_lst (i_pa_cons (i_tup (i_pa_cons (i_tup (i_pa_cons i_int (i_pa_cons (i_tup i_pa_nil) (i_pa_cons (i_tup i_pa_nil) i_pa_nil)))) (i_pa_cons (i_tup (i_pa_cons i_str (i_pa_cons i_int i_pa_nil))) i_pa_nil))) (i_pa_cons (i_tup (i_pa_cons (i_tup (i_pa_cons i_int (i_pa_cons (i_tup i_pa_nil) (i_pa_cons (i_tup i_pa_nil) i_pa_nil)))) (i_pa_cons i_non i_pa_nil))) (i_pa_cons (i_tup (i_pa_cons (i_tup (i_pa_cons i_int (i_pa_cons (i_tup (i_pa_cons (i_tup (i_pa_cons i_int i_pa_nil)) i_pa_nil)) (i_pa_cons (i_tup i_pa_nil) i_pa_nil)))) (i_pa_cons i_non i_pa_nil))) i_pa_nil)))) i_pa_nil)))
    (s_cons (s_expr (c_append b.hX (i_var (pv 2)) (i_pa_cons (i_tup (i_pa_cons (i_tup (i_pa_cons i_int (i_pa_cons (i_tup (i_pa_cons (i_tup (i_pa_cons (c_neg i_int) i_pa_nil)) (i_pa_cons (i_tup (i_pa_cons i_int i_pa_nil)) (i_pa_cons i_non i_pa_nil)))) (i_pa_cons i_non i_pa_nil)))) (i_pa_cons (i_tup (i_pa_cons i_str (i_pa_cons (i_tup (i_pa_cons i_int (i_pa_cons i_int i_pa_nil))) i_pa_nil))) i_pa_nil))) i_pa_nil)))
    (s_cons (s_expr (c_append b.hX (i_var (pv 2)) (i_pa_cons (i_tup (i_pa_cons (i_tup (i_pa_cons i_int (i_pa_cons (i_tup (i_pa_cons i_non i_pa_nil)) (i_pa_cons i_int i_pa_nil)))) (i_pa_cons (i_tup (i_pa_cons i_str (i_pa_cons (i_tup (i_pa_cons i_int (i_pa_cons i_int i_pa_nil))) i_pa_nil))) i_pa_nil))) i_pa_nil)))
    (s_cons (s_expr (c_append b.hX (i_var (pv 2)) (i_pa_cons (i_tup (i_pa_cons (i_tup (i_pa_cons i_int (i_pa_cons (i_tup i_pa_nil) (i_pa_cons (i_tup (i_pa_cons (i_tup (i_pa_cons (i_tup (i_pa_cons i_int i_pa_nil)) (i_pa_cons (i_tup (i_pa_cons i_int i_pa_nil)) (i_pa_cons i_str i_pa_nil)))) i_pa_nil)) i_pa_nil)))) (i_pa_cons (i_tup (i_pa_cons i_str (i_pa_cons (i_tup (i_pa_cons i_int (i_pa_cons i_int i_pa_nil))) i_pa_nil))) i_pa_nil))) i_pa_nil)))
    (s_cons (s_expr (c_append b.hX (i_var (pv 2)) (i_pa_cons (i_tup (i_pa_cons (i_tup (i_pa_cons i_int (i_pa_cons (i_tup i_pa_nil) (i_pa_cons (i_tup (i_pa_cons (i_var (pv 1)) (i_pa_cons i_non i_pa_nil))) i_pa_nil)))) (i_pa_cons (i_tup (i_pa_cons i_str (i_pa_cons (i_tup (i_pa_cons i_int (i_pa_cons i_int i_pa_nil))) i_pa_nil))) i_pa_nil))) i_pa_nil)))
    (s_cons (s_expr (c_extend b.hX (i_var (pv 2)) (i_pa_cons (i_lst (i_pa_cons (i_tup (i_pa_cons (i_tup (i_pa_cons i_int (i_pa_cons (i_tup i_pa_nil) (i_pa_cons (i_tup (i_pa_cons (i_tup (i_pa_cons (i_tup (i_pa_cons i_int i_pa_nil)) (i_pa_cons (i_tup (i_pa_cons i_int i_pa_nil)) (i_pa_cons i_str i_pa_nil)))) i_pa_nil)) i_pa_nil)))) (i_pa_cons (i_tup (i_pa_cons i_str (i_pa_cons (i_tup (i_pa_cons i_int (i_pa_cons i_int i_pa_nil))) i_pa_nil))) i_pa_nil))) (i_pa_cons (i_tup (i_pa_cons (i_tup (i_pa_cons i_int (i_pa_cons (i_tup i_pa_nil) (i_pa_cons (i_lst (i_pa_cons (i_var (pv 1)) i_pa_nil)) i_pa_nil)))) (i_pa_cons (i_tup (i_pa_cons i_str (i_pa_cons i_int i_pa_nil))) i_pa_nil))) i_pa_nil))) i_pa_nil)))
    (s_cons (s_expr (c_append b.hX (i_var (pv 2)) (i_pa_cons (i_tup (i_pa_cons (i_tup (i_pa_cons i_int (i_pa_cons (i_tup (i_pa_cons (i_var (pv 0)) (i_pa_cons i_non i_pa_nil))) (i_pa_cons (c_mulW b.hX (i_tup (i_pa_cons (i_var (pv 1)) i_pa_nil)) i_int) i_pa_nil)))) (i_pa_cons (i_tup (i_pa_cons i_str (i_pa_cons (i_tup (i_pa_cons i_int (i_pa_cons i_int i_pa_nil))) i_pa_nil))) i_pa_nil))) i_pa_nil)))
    (s_cons (s_expr (c_append b.hX (i_var (pv 2)) (i_pa_cons (i_tup (i_pa_cons (i_tup (i_pa_cons i_int (i_pa_cons (c_mulW b.hX (i_tup (i_pa_cons (i_var (pv 0)) i_pa_nil)) i_int) (i_pa_cons (c_mulW b.hX (i_tup (i_pa_cons (i_var (pv 1)) i_pa_nil)) i_int) i_pa_nil)))) (i_pa_cons (i_tup (i_pa_cons i_str (i_pa_cons i_int i_pa_nil))) i_pa_nil))) i_pa_nil)))
    (s_one (s_ret (c_add b.hX (i_var (pv 2)) (i_lst (i_pa_cons (i_tup (i_pa_cons (i_tup (i_pa_cons i_int (i_pa_cons (i_lst (i_pa_cons (i_var (pv 0)) i_pa_nil)) (i_pa_cons (i_lst (i_pa_cons (i_var (pv 1)) i_pa_nil)) i_pa_nil)))) (i_pa_cons (i_tup (i_pa_cons i_str (i_pa_cons i_int i_pa_nil))) i_pa_nil))) (i_pa_cons (i_tup (i_pa_cons (i_tup (i_pa_cons i_int (i_pa_cons (i_tup (i_pa_cons (i_var (pv 0)) i_pa_nil)) (i_pa_cons (i_tup (i_pa_cons (i_tup (i_pa_cons (i_tup (i_pa_cons i_int i_pa_nil)) (i_pa_cons (i_tup (i_pa_cons i_int i_pa_nil)) (i_pa_cons i_str i_pa_nil)))) i_pa_nil)) i_pa_nil)))) (i_pa_cons (i_tup (i_pa_cons i_str (i_pa_cons (i_tup (i_pa_cons i_int (i_pa_cons i_int i_pa_nil))) i_pa_nil))) i_pa_nil))) i_pa_nil)))))))))))))))))
def m__law_a1_heard : S → OS :=
  (tryS tab "Refused" 1 (retS (tupE [(cE (.str "told")), (actE 0)])) (seqS (setS 2 (lstE [(tupE [(cE (.str "BadMany")), (isxE tab 1 "BadMany")]), (tupE [(cE (.str "BadTies")), (isxE tab 1 "BadTies")])]))
  (seqS (dropS (methE "list" extV (varE 2) [(lstE [(tupE [(cE (.str "BadWorld")), (isxE tab 1 "BadWorld")]), (tupE [(cE (.str "TooMany")), (isxE tab 1 "TooMany")])])]))
  (retS (tupE [(methE "str" joinV (cE (.str " ")) [(compE (itLE (varE 2)) (tupT 2 (consT (nameT 3) (consT (nameT 4) nilT))) (varE 4) (varE 3) [3, 4])]), (whatE tab 1)])))))
theorem sc__law_a1_heard : FnScope ["call", "refused_one", "some", "name", "is_one"] ["call"] (defScope (top 42)) := ⟨rfl, rfl, rfl, by decide +kernel, rfl, by decide +kernel, by decide +kernel⟩
def d__law_a1_heard (as : List Ar) : RD := runD 1 5 m__law_a1_heard as
set_option maxHeartbeats 0 in
theorem s__law_a1_heard (T : Txt c) : FnS c 61 (He.ga c.K "_law_a1_heard") d__law_a1_heard := by
  obtain ⟨fd, F⟩ := F__law_a1_heard T
  exact fun_sh (N := ["call", "refused_one", "some", "name", "is_one"]) (ps := ["call"]) (k := 60) (G := m__law_a1_heard) F sc__law_a1_heard (F.bindsN fun _ _ _ _ _ _ us hl => match us, hl with | [_], _ => rfl) fun cdv A outer s H Fz io E hcd b hM =>
    (s_one (s_try (i := 1) b.hX rfl rfl rfl b.nd T.cls b.tk (g_Refused T) (fun W pn xe tk _ => have bt := b.tr tk; (s_one (s_ret (i_tup (i_pa_cons i_str (i_pa_cons (c_act bt hM.tr) i_pa_nil)))))) (fun a oe pn hot hE => (s_cons (s_set (i := 2) b.nd (i_lst (i_pa_cons (i_tup (i_pa_cons i_str (i_pa_cons (i_isx b.hX.suite hE T.cls (g_BadMany T) (g_isinstance T)) i_pa_nil))) (i_pa_cons (i_tup (i_pa_cons i_str (i_pa_cons (i_isx b.hX.suite hE T.cls (g_BadTies T) (g_isinstance T)) i_pa_nil))) i_pa_nil))))
    (s_cons (s_expr (c_extend b.hX.suite (i_var (pv 2)) (i_pa_cons (i_lst (i_pa_cons (i_tup (i_pa_cons i_str (i_pa_cons (i_isx b.hX.suite hE T.cls (g_BadWorld T) (g_isinstance T)) i_pa_nil))) (i_pa_cons (i_tup (i_pa_cons i_str (i_pa_cons (i_isx b.hX.suite hE T.cls (g_TooMany T) (g_isinstance T)) i_pa_nil))) i_pa_nil))) i_pa_nil)))
    (s_one (s_ret (i_tup (i_pa_cons (c_join b.hX.suite i_str (i_pa_cons (i_lcH (own := [("name", 3), ("is_one", 4)]) b.hX.suite.K hot b.nd (i_var (pv 2)) (blkOk_by (by rfl)) (fun _ _ _ _ _ hI => (g_tupH b.hX.suite.blk.K hI (g_cons (g_name (i := 3) b.nd) (g_cons (g_name (i := 4) b.nd) g_nil)))) (fun _ _ _ _ _ hI => t_one (i_test (i_var (pv 4)))) (fun _ _ _ _ _ hI => (i_var (pv 3))) (by decide)) i_pa_nil)) (i_pa_cons (i_what b.hX.suite hE T.cls) i_pa_nil))))))))))
def m__law_wb_is_whole : S → OS :=
  (retS (andE (callE isiV [(varE 0), (cE (.ty "int"))]) (notE (callE isiV [(varE 0), (cE (.ty "bool"))]))))
theorem sc__law_wb_is_whole : FnScope ["thing"] ["thing"] (defScope (top 32)) := ⟨rfl, rfl, rfl, by decide +kernel, rfl, by decide +kernel, by decide +kernel⟩
def d__law_wb_is_whole (as : List Ar) : RD := runD 1 1 m__law_wb_is_whole as
set_option maxHeartbeats 0 in
theorem s__law_wb_is_whole (T : Txt c) : FnS c 1 (He.ga c.K "_law_wb_is_whole") d__law_wb_is_whole := by
  obtain ⟨fd, F⟩ := F__law_wb_is_whole T
  exact fun_sh (N := ["thing"]) (ps := ["thing"]) (k := 0) (G := m__law_wb_is_whole) F sc__law_wb_is_whole (F.bindsN fun _ _ _ _ _ _ us hl => match us, hl with | [_], _ => rfl) fun cdv A outer s H Fz io E hcd b hM =>
    (s_one (s_ret (i_and (c_isi b.hX (g_isinstance T) (i_pa_cons (i_var (pv 0)) (i_pa_cons (i_kind b.hX (g_int T) (by rfl)) i_pa_nil))) (i_b1 (i_not (c_isi b.hX (g_isinstance T) (i_pa_cons (i_var (pv 0)) (i_pa_cons (i_kind b.hX (g_bool T) (by rfl)) i_pa_nil))))))))
def m__law_wb_same (fu : Nat) : S → OS :=
  (seqS (setS 2 (lstE [(tupE [(varE 0), (varE 1)])]))
  (seqS (whileS (bin2 (eqV true) (varE 2) (lstE [])) (seqS (asgS (tupT 2 (consT (nameT 3) (consT (nameT 4) nilT))) (methE "list" popV (varE 2) []))
  (seqS (ifS (bin2 (isNV false) (varE 4) (cE .non)) (setS 5 (bin2 (isNV false) (varE 3) (cE .non))) (ifS (callE isiV [(varE 4), (cE (.ty "bool"))]) (setS 5 (andE (callE isiV [(varE 3), (cE (.ty "bool"))]) (bin2 (eqV false) (varE 3) (varE 4)))) (ifS (callE isiV [(varE 4), (cE (.ty "int"))]) (setS 5 (andE (callE (callV d__law_wb_is_whole) [(varE 3)]) (bin2 (eqV false) (varE 3) (varE 4)))) (ifS (callE isiV [(varE 4), (cE (.ty "str"))]) (setS 5 (andE (callE isiV [(varE 3), (cE (.ty "str"))]) (bin2 (eqV false) (varE 3) (varE 4)))) (seqS (setS 5 (ifE (callE isiV [(varE 4), (cE (.ty "tuple"))]) (callE isiV [(varE 3), (cE (.ty "tuple"))]) (callE isiV [(varE 3), (cE (.ty "list"))])))
  (seqS (setS 5 (andE (varE 5) (bin2 (eqV false) (callE lenV [(varE 3)]) (callE lenV [(varE 4)]))))
  (dropS (methE "list" extV (varE 2) [(ifE (varE 5) (compE (itA rng1V [(callE lenV [(varE 4)])]) (nameT 6) (cE (.bl true)) (tupE [(bin2 ixV (varE 3) (varE 6)), (bin2 ixV (varE 4) (varE 6))]) [6]) (lstE []))]))))))))
  (ifS (notE (varE 5)) (retS (cE (.bl false))) nextS))) fu)
  (retS (cE (.bl true)))))
theorem sc__law_wb_same : FnScope ["heard", "owed", "todo", "one", "due", "is_so", "at"] ["heard", "owed"] (defScope (top 34)) := ⟨rfl, rfl, rfl, by decide +kernel, rfl, by decide +kernel, by decide +kernel⟩
def d__law_wb_same (as : List Ar) : RD := runD 2 7 (m__law_wb_same (fuelA as)) as
set_option maxHeartbeats 0 in
theorem s1__law_wb_same (T : Txt c) (fu : Nat) : FnS c 2 (He.ga c.K "_law_wb_same") (runD 2 7 (m__law_wb_same fu)) := by
  obtain ⟨fd, F⟩ := F__law_wb_same T
  exact fun_sh (N := ["heard", "owed", "todo", "one", "due", "is_so", "at"]) (ps := ["heard", "owed"]) (k := 1) (G := m__law_wb_same fu) F sc__law_wb_same (F.bindsN fun _ _ _ _ _ _ us hl => match us, hl with | [_, _], _ => rfl) fun cdv A outer s H Fz io E hcd b hM =>
    (s_cons (s_set (i := 2) b.nd (i_lst (i_pa_cons (i_tup (i_pa_cons (i_var (pv 0)) (i_pa_cons (i_var (pv 1)) i_pa_nil))) i_pa_nil)))
    (s_cons (s_while (n := fu) PassesOwn.leaving (q_ne b.room.units b.hX (i_var (pv 2)) (i_lst i_pa_nil)) (s_cons (s_asg (c_pop b.hX (i_var (pv 2))) (g_tup b.hX.K b.calm (g_cons (g_name (i := 3) b.nd) (g_cons (g_name (i := 4) b.nd) g_nil))))
    (s_cons (s_if (q_is (i_var (pv 4)) i_non) (s_one (s_set (i := 5) b.nd (c_is (i_var (pv 3)) i_non))) (s_one (s_if (i_test (c_isi b.hX (g_isinstance T) (i_pa_cons (i_var (pv 4)) (i_pa_cons (i_kind b.hX (g_bool T) (by rfl)) i_pa_nil)))) (s_one (s_set (i := 5) b.nd (i_and (c_isi b.hX (g_isinstance T) (i_pa_cons (i_var (pv 3)) (i_pa_cons (i_kind b.hX (g_bool T) (by rfl)) i_pa_nil))) (i_b1 (c_eq b.room.units b.hX (i_var (pv 3)) (i_var (pv 4))))))) (s_one (s_if (i_test (c_isi b.hX (g_isinstance T) (i_pa_cons (i_var (pv 4)) (i_pa_cons (i_kind b.hX (g_int T) (by rfl)) i_pa_nil)))) (s_one (s_set (i := 5) b.nd (i_and (c_call b (s__law_wb_is_whole T) (g__law_wb_is_whole T) (kp__law_wb_is_whole T) (i_pa_cons (i_var (pv 3)) i_pa_nil)) (i_b1 (c_eq b.room.units b.hX (i_var (pv 3)) (i_var (pv 4))))))) (s_one (s_if (i_test (c_isi b.hX (g_isinstance T) (i_pa_cons (i_var (pv 4)) (i_pa_cons (i_kind b.hX (g_str T) (by rfl)) i_pa_nil)))) (s_one (s_set (i := 5) b.nd (i_and (c_isi b.hX (g_isinstance T) (i_pa_cons (i_var (pv 3)) (i_pa_cons (i_kind b.hX (g_str T) (by rfl)) i_pa_nil))) (i_b1 (c_eq b.room.units b.hX (i_var (pv 3)) (i_var (pv 4))))))) (s_cons (s_set (i := 5) b.nd (i_ifx (i_test (c_isi b.hX (g_isinstance T) (i_pa_cons (i_var (pv 4)) (i_pa_cons (i_kind b.hX (g_tuple T) (by rfl)) i_pa_nil)))) (c_isi b.hX (g_isinstance T) (i_pa_cons (i_var (pv 3)) (i_pa_cons (i_kind b.hX (g_tuple T) (by rfl)) i_pa_nil))) (c_isi b.hX (g_isinstance T) (i_pa_cons (i_var (pv 3)) (i_pa_cons (i_kind b.hX (g_list T) (by rfl)) i_pa_nil)))))
    (s_cons (s_set (i := 5) b.nd (i_and (i_var (pv 5)) (i_b1 (c_eq b.room.units b.hX (c_len b.hX (g_len T) (i_pa_cons (i_var (pv 3)) i_pa_nil)) (c_len b.hX (g_len T) (i_pa_cons (i_var (pv 4)) i_pa_nil))))))
    (s_one (s_expr (c_extend b.hX (i_var (pv 2)) (i_pa_cons (i_ifx (i_test (i_var (pv 5))) (i_lc (own := [("at", 6)]) b.calm b.nd (w_rng1 (hm := (by rw [(b.hX).mg]; exact g_range T)) (ha := (i_pa_cons (c_len b.hX (g_len T) (i_pa_cons (i_var (pv 4)) i_pa_nil)) i_pa_nil))) (blkOk_by (by rfl)) (fun _ _ _ _ _ => (g_name (i := 6) b.blk.nd)) (fun _ _ _ _ _ => t_yes) (fun _ _ _ _ _ => (i_tup (i_pa_cons (c_ix b.blk.hX (i_var (pv 3)) (i_var (pv 6))) (i_pa_cons (c_ix b.blk.hX (i_var (pv 4)) (i_var (pv 6))) i_pa_nil)))) (by decide)) (i_lst i_pa_nil)) i_pa_nil)))))))))))))
    (s_one (s_if (t_not (i_test (i_var (pv 5)))) (s_one (s_ret i_bl)) s_nil)))))
    (s_one (s_ret i_bl))))
theorem s__law_wb_same (T : Txt c) : FnS c 2 (He.ga c.K "_law_wb_same") d__law_wb_same := fun A outer s H F as => s1__law_wb_same T _ A outer s H F as
def m__law_wb_is_in : S → OS :=
  (retS (andE (callE (callV d__law_wb_is_whole) [(varE 0)]) (chainE leV leV (varE 1) (varE 0) (varE 2))))
theorem sc__law_wb_is_in : FnScope ["thing", "low", "high"] ["thing", "low", "high"] (defScope (top 33)) := ⟨rfl, rfl, rfl, by decide +kernel, rfl, by decide +kernel, by decide +kernel⟩
def d__law_wb_is_in (as : List Ar) : RD := runD 3 3 m__law_wb_is_in as
set_option maxHeartbeats 0 in
theorem s__law_wb_is_in (T : Txt c) : FnS c 2 (He.ga c.K "_law_wb_is_in") d__law_wb_is_in := by
  obtain ⟨fd, F⟩ := F__law_wb_is_in T
  exact fun_sh (N := ["thing", "low", "high"]) (ps := ["thing", "low", "high"]) (k := 1) (G := m__law_wb_is_in) F sc__law_wb_is_in (F.bindsN fun _ _ _ _ _ _ us hl => match us, hl with | [_, _, _], _ => rfl) fun cdv A outer s H Fz io E hcd b hM =>
    (s_one (s_ret (i_and (c_call b (s__law_wb_is_whole T) (g__law_wb_is_whole T) (kp__law_wb_is_whole T) (i_pa_cons (i_var (pv 0)) i_pa_nil)) (i_b1 (i_chain op_le op_le cmp_ok cmp_ok (i_var (pv 1)) (i_var (pv 0)) (i_var (pv 2)))))))
def m__law_wb_sum_fault : S → OS :=
  (seqS (ifS (orE (notE (callE isiV [(varE 1), (cE (.ty "tuple"))])) (bin2 (eqV true) (callE lenV [(varE 1)]) (varE 0))) (retS (un1 negV (cE (.int 1)))) nextS)
  (seqS (setS 2 (compE (itA rng1V [(varE 0)]) (nameT 3) (notE (callE (callV d__law_wb_is_in) [(bin2 ixV (varE 1) (varE 3)), (un1 negV (cE (.int 1000))), (cE (.int 1000))])) (varE 3) [3]))
  (retS (ifE (bin2 (eqV true) (varE 2) (lstE [])) (bin2 ixV (varE 2) (cE (.int 0))) (cE .non)))))
theorem sc__law_wb_sum_fault : FnScope ["n", "thing", "wrong", "at"] ["n", "thing"] (defScope (top 35)) := ⟨rfl, rfl, rfl, by decide +kernel, rfl, by decide +kernel, by decide +kernel⟩
def d__law_wb_sum_fault (as : List Ar) : RD := runD 2 4 m__law_wb_sum_fault as
set_option maxHeartbeats 0 in
theorem s__law_wb_sum_fault (T : Txt c) : FnS c 3 (He.ga c.K "_law_wb_sum_fault") d__law_wb_sum_fault := by
  obtain ⟨fd, F⟩ := F__law_wb_sum_fault T
  exact fun_sh (N := ["n", "thing", "wrong", "at"]) (ps := ["n", "thing"]) (k := 2) (G := m__law_wb_sum_fault) F sc__law_wb_sum_fault (F.bindsN fun _ _ _ _ _ _ us hl => match us, hl with | [_, _], _ => rfl) fun cdv A outer s H Fz io E hcd b hM =>
    (s_cons (s_if (w_or (t_not (i_test (c_isi b.hX (g_isinstance T) (i_pa_cons (i_var (pv 1)) (i_pa_cons (i_kind b.hX (g_tuple T) (by rfl)) i_pa_nil))))) (w_or1 (q_ne b.room.units b.hX (c_len b.hX (g_len T) (i_pa_cons (i_var (pv 1)) i_pa_nil)) (i_var (pv 0))))).pt (s_one (s_ret (c_neg i_int))) s_nil)
    (s_cons (s_setLc (i := 2) (own := [("at", 3)]) b.calm b.nd (w_rng1 (hm := (by rw [(b.hX).mg]; exact g_range T)) (ha := (i_pa_cons (i_var (pv 0)) i_pa_nil))) (blkOk_by (by rfl)) (fun _ _ _ _ _ => (g_name (i := 3) b.blk.nd)) (fun _ _ _ _ _ => t_one (t_not (i_test (c_call b.blk (s__law_wb_is_in T) (g__law_wb_is_in T) (kp__law_wb_is_in T) (i_pa_cons (c_ix b.blk.hX (i_var (pv 1)) (i_var (pv 3))) (i_pa_cons (c_neg i_int) (i_pa_cons i_int i_pa_nil))))))) (fun _ _ _ _ _ => (i_var (pv 3))) (by decide) rfl rfl (sw_true rfl rfl rfl rfl))
    (s_one (s_ret (i_ifx (q_ne b.room.units b.hX (i_var (pv 2)) (i_lst i_pa_nil)) (c_ix b.hX (i_var (pv 2)) i_int) i_non)))))
def m__law_wb_is_tie : S → OS :=
  (seqS (ifS (orE (notE (callE isiV [(varE 1), (cE (.ty "tuple"))])) (bin2 (eqV true) (callE lenV [(varE 1)]) (cE (.int 3)))) (retS (cE (.bl false))) nextS)
  (seqS (forS (itE (sliceE (varE 1) noP (atP (cE (.int 2))))) (nameT 2) (ifS (orE (bin2 (isNV true) (callE (callV d__law_wb_sum_fault) [(varE 0), (varE 2)]) (cE .non)) (bin2 (eqV false) (compE (itE (varE 2)) (nameT 3) (bin2 (eqV true) (varE 3) (cE (.int 0))) (varE 3) [3]) (lstE []))) (retS (cE (.bl false))) nextS))
  (retS (andE (callE isiV [(bin2 ixV (varE 1) (cE (.int 2))), (cE (.ty "str"))]) (bin2 (memV false) (bin2 ixV (varE 1) (cE (.int 2))) (lstE [(cE (.str "firm")), (cE (.str "open"))]))))))
theorem sc__law_wb_is_tie : FnScope ["n", "thing", "side", "x"] ["n", "thing"] (defScope (top 36)) := ⟨rfl, rfl, rfl, by decide +kernel, rfl, by decide +kernel, by decide +kernel⟩
def d__law_wb_is_tie (as : List Ar) : RD := runD 2 4 m__law_wb_is_tie as
set_option maxHeartbeats 0 in
theorem s__law_wb_is_tie (T : Txt c) : FnS c 4 (He.ga c.K "_law_wb_is_tie") d__law_wb_is_tie := by
  obtain ⟨fd, F⟩ := F__law_wb_is_tie T
  exact fun_sh (N := ["n", "thing", "side", "x"]) (ps := ["n", "thing"]) (k := 3) (G := m__law_wb_is_tie) F sc__law_wb_is_tie (F.bindsN fun _ _ _ _ _ _ us hl => match us, hl with | [_, _], _ => rfl) fun cdv A outer s H Fz io E hcd b hM =>
    (s_cons (s_if (w_or (t_not (i_test (c_isi b.hX (g_isinstance T) (i_pa_cons (i_var (pv 1)) (i_pa_cons (i_kind b.hX (g_tuple T) (by rfl)) i_pa_nil))))) (w_or1 (q_ne b.room.units b.hX (c_len b.hX (g_len T) (i_pa_cons (i_var (pv 1)) i_pa_nil)) i_int))).pt (s_one (s_ret i_bl)) s_nil)
    (s_cons (s_for PassesOwn.leaving b.calm (w_seq b.hX.K (i_slice b.hX.K (i_var (pv 1)) o_none (o_some i_int))) (g_name (i := 2) b.nd) (s_one (s_if (w_or (q_isnot (c_call b (s__law_wb_sum_fault T) (g__law_wb_sum_fault T) (kp__law_wb_sum_fault T) (i_pa_cons (i_var (pv 0)) (i_pa_cons (i_var (pv 2)) i_pa_nil))) i_non) (w_or1 (q_eq b.room.units b.hX (i_lc (own := [("x", 3)]) b.calm b.nd (w_seq b.hX.K (i_var (pv 2))) (blkOk_by (by rfl)) (fun _ _ _ _ _ => (g_name (i := 3) b.blk.nd)) (fun _ _ _ _ _ => t_one (q_ne b.blk.room.units b.blk.hX (i_var (pv 3)) i_int)) (fun _ _ _ _ _ => (i_var (pv 3))) (by decide)) (i_lst i_pa_nil)))).pt (s_one (s_ret i_bl)) s_nil)))
    (s_one (s_ret (i_and (c_isi b.hX (g_isinstance T) (i_pa_cons (c_ix b.hX (i_var (pv 1)) i_int) (i_pa_cons (i_kind b.hX (g_str T) (by rfl)) i_pa_nil))) (i_b1 (c_in (room65 b.room) b.hX (c_ix b.hX (i_var (pv 1)) i_int) (i_lst (i_pa_cons i_str (i_pa_cons i_str i_pa_nil))))))))))
def m__law_wb_ties_fault : S → OS :=
  (seqS (ifS (notE (callE isiV [(varE 1), (cE (.ty "tuple"))])) (retS (un1 negV (cE (.int 1)))) nextS)
  (seqS (ifS (bin2 gtV (callE lenV [(varE 1)]) (cE (.int 12))) (retS (tupE [(cE (.str "TooMany")), (callE lenV [(varE 1)])])) nextS)
  (seqS (setS 2 (compE (itA rng1V [(callE lenV [(varE 1)])]) (nameT 3) (notE (callE (callV d__law_wb_is_tie) [(varE 0), (bin2 ixV (varE 1) (varE 3))])) (varE 3) [3]))
  (retS (ifE (bin2 (eqV true) (varE 2) (lstE [])) (bin2 ixV (varE 2) (cE (.int 0))) (cE .non))))))
theorem sc__law_wb_ties_fault : FnScope ["n", "thing", "wrong", "at"] ["n", "thing"] (defScope (top 37)) := ⟨rfl, rfl, rfl, by decide +kernel, rfl, by decide +kernel, by decide +kernel⟩
def d__law_wb_ties_fault (as : List Ar) : RD := runD 2 4 m__law_wb_ties_fault as
set_option maxHeartbeats 0 in
theorem s__law_wb_ties_fault (T : Txt c) : FnS c 5 (He.ga c.K "_law_wb_ties_fault") d__law_wb_ties_fault := by
  obtain ⟨fd, F⟩ := F__law_wb_ties_fault T
  exact fun_sh (N := ["n", "thing", "wrong", "at"]) (ps := ["n", "thing"]) (k := 4) (G := m__law_wb_ties_fault) F sc__law_wb_ties_fault (F.bindsN fun _ _ _ _ _ _ us hl => match us, hl with | [_, _], _ => rfl) fun cdv A outer s H Fz io E hcd b hM =>
    (s_cons (s_if (t_not (i_test (c_isi b.hX (g_isinstance T) (i_pa_cons (i_var (pv 1)) (i_pa_cons (i_kind b.hX (g_tuple T) (by rfl)) i_pa_nil))))) (s_one (s_ret (c_neg i_int))) s_nil)
    (s_cons (s_if (q_gt (c_len b.hX (g_len T) (i_pa_cons (i_var (pv 1)) i_pa_nil)) i_int) (s_one (s_ret (i_tup (i_pa_cons i_str (i_pa_cons (c_len b.hX (g_len T) (i_pa_cons (i_var (pv 1)) i_pa_nil)) i_pa_nil))))) s_nil)
    (s_cons (s_setLc (i := 2) (own := [("at", 3)]) b.calm b.nd (w_rng1 (hm := (by rw [(b.hX).mg]; exact g_range T)) (ha := (i_pa_cons (c_len b.hX (g_len T) (i_pa_cons (i_var (pv 1)) i_pa_nil)) i_pa_nil))) (blkOk_by (by rfl)) (fun _ _ _ _ _ => (g_name (i := 3) b.blk.nd)) (fun _ _ _ _ _ => t_one (t_not (i_test (c_call b.blk (s__law_wb_is_tie T) (g__law_wb_is_tie T) (kp__law_wb_is_tie T) (i_pa_cons (i_var (pv 0)) (i_pa_cons (c_ix b.blk.hX (i_var (pv 1)) (i_var (pv 3))) i_pa_nil)))))) (fun _ _ _ _ _ => (i_var (pv 3))) (by decide) rfl rfl (sw_true rfl rfl rfl rfl))
    (s_one (s_ret (i_ifx (q_ne b.room.units b.hX (i_var (pv 2)) (i_lst i_pa_nil)) (c_ix b.hX (i_var (pv 2)) i_int) i_non))))))
def m__law_wb_world_fault : S → OS :=
  (seqS (ifS (orE (notE (callE isiV [(varE 0), (cE (.ty "tuple"))])) (bin2 (eqV true) (callE lenV [(varE 0)]) (cE (.int 3)))) (retS (tupE [(cE (.str "BadWorld")), (un1 negV (cE (.int 1)))])) nextS)
  (seqS (asgS (tupT 3 (consT (nameT 1) (consT (nameT 2) (consT (nameT 3) nilT)))) (varE 0))
  (seqS (ifS (notE (callE (callV d__law_wb_is_in) [(varE 1), (cE (.int 1)), (cE (.int 40))])) (retS (tupE [(cE (.str "BadWorld")), (cE (.int 0))])) nextS)
  (seqS (ifS (notE (callE isiV [(varE 2), (cE (.ty "tuple"))])) (retS (tupE [(cE (.str "BadWorld")), (cE (.int 1))])) nextS)
  (seqS (ifS (bin2 gtV (callE lenV [(varE 2)]) (cE (.int 40))) (retS (tupE [(cE (.str "TooMany")), (callE lenV [(varE 2)])])) nextS)
  (seqS (setS 4 (compE (itA rng1V [(callE lenV [(varE 2)])]) (nameT 6) (bin2 (isNV true) (callE (callV d__law_wb_sum_fault) [(varE 1), (bin2 ixV (varE 2) (varE 6))]) (cE .non)) (varE 6) [6]))
  (seqS (ifS (bin2 (eqV true) (varE 4) (lstE [])) (retS (tupE [(cE (.str "BadWorld")), (tupE [(cE (.int 1)), (bin2 ixV (varE 4) (cE (.int 0)))])])) nextS)
  (seqS (setS 5 (callE (callV d__law_wb_ties_fault) [(varE 1), (varE 3)]))
  (seqS (ifS (orE (bin2 (isNV false) (varE 5) (cE .non)) (callE isiV [(varE 5), (cE (.ty "tuple"))])) (retS (varE 5)) nextS)
  (retS (tupE [(cE (.str "BadWorld")), (ifE (bin2 (eqV false) (varE 5) (un1 negV (cE (.int 1)))) (cE (.int 2)) (tupE [(cE (.int 2)), (varE 5)]))])))))))))))
theorem sc__law_wb_world_fault : FnScope ["thing", "n", "rows_now", "ties_now", "wrong", "fault", "at"] ["thing"] (defScope (top 38)) := ⟨rfl, rfl, rfl, by decide +kernel, rfl, by decide +kernel, by decide +kernel⟩
def d__law_wb_world_fault (as : List Ar) : RD := runD 1 7 m__law_wb_world_fault as
set_option maxHeartbeats 0 in
theorem s__law_wb_world_fault (T : Txt c) : FnS c 6 (He.ga c.K "_law_wb_world_fault") d__law_wb_world_fault := by
  obtain ⟨fd, F⟩ := F__law_wb_world_fault T
  exact fun_sh (N := ["thing", "n", "rows_now", "ties_now", "wrong", "fault", "at"]) (ps := ["thing"]) (k := 5) (G := m__law_wb_world_fault) F sc__law_wb_world_fault (F.bindsN fun _ _ _ _ _ _ us hl => match us, hl with | [_], _ => rfl) fun cdv A outer s H Fz io E hcd b hM =>
    (s_cons (s_if (w_or (t_not (i_test (c_isi b.hX (g_isinstance T) (i_pa_cons (i_var (pv 0)) (i_pa_cons (i_kind b.hX (g_tuple T) (by rfl)) i_pa_nil))))) (w_or1 (q_ne b.room.units b.hX (c_len b.hX (g_len T) (i_pa_cons (i_var (pv 0)) i_pa_nil)) i_int))).pt (s_one (s_ret (i_tup (i_pa_cons i_str (i_pa_cons (c_neg i_int) i_pa_nil))))) s_nil)
    (s_cons (s_asg (i_var (pv 0)) (g_tup b.hX.K b.calm (g_cons (g_name (i := 1) b.nd) (g_cons (g_name (i := 2) b.nd) (g_cons (g_name (i := 3) b.nd) g_nil)))))
    (s_cons (s_if (t_not (i_test (c_call b (s__law_wb_is_in T) (g__law_wb_is_in T) (kp__law_wb_is_in T) (i_pa_cons (i_var (pv 1)) (i_pa_cons i_int (i_pa_cons i_int i_pa_nil)))))) (s_one (s_ret (i_tup (i_pa_cons i_str (i_pa_cons i_int i_pa_nil))))) s_nil)
    (s_cons (s_if (t_not (i_test (c_isi b.hX (g_isinstance T) (i_pa_cons (i_var (pv 2)) (i_pa_cons (i_kind b.hX (g_tuple T) (by rfl)) i_pa_nil))))) (s_one (s_ret (i_tup (i_pa_cons i_str (i_pa_cons i_int i_pa_nil))))) s_nil)
    (s_cons (s_if (q_gt (c_len b.hX (g_len T) (i_pa_cons (i_var (pv 2)) i_pa_nil)) i_int) (s_one (s_ret (i_tup (i_pa_cons i_str (i_pa_cons (c_len b.hX (g_len T) (i_pa_cons (i_var (pv 2)) i_pa_nil)) i_pa_nil))))) s_nil)
    (s_cons (s_setLc (i := 4) (own := [("at", 6)]) b.calm b.nd (w_rng1 (hm := (by rw [(b.hX).mg]; exact g_range T)) (ha := (i_pa_cons (c_len b.hX (g_len T) (i_pa_cons (i_var (pv 2)) i_pa_nil)) i_pa_nil))) (blkOk_by (by rfl)) (fun _ _ _ _ _ => (g_name (i := 6) b.blk.nd)) (fun _ _ _ _ _ => t_one (q_isnot (c_call b.blk (s__law_wb_sum_fault T) (g__law_wb_sum_fault T) (kp__law_wb_sum_fault T) (i_pa_cons (i_var (pv 1)) (i_pa_cons (c_ix b.blk.hX (i_var (pv 2)) (i_var (pv 6))) i_pa_nil))) i_non)) (fun _ _ _ _ _ => (i_var (pv 6))) (by decide) rfl rfl (sw_true rfl rfl rfl rfl))
    (s_cons (s_if (q_ne b.room.units b.hX (i_var (pv 4)) (i_lst i_pa_nil)) (s_one (s_ret (i_tup (i_pa_cons i_str (i_pa_cons (i_tup (i_pa_cons i_int (i_pa_cons (c_ix b.hX (i_var (pv 4)) i_int) i_pa_nil))) i_pa_nil))))) s_nil)
    (s_cons (s_set (i := 5) b.nd (c_call b (s__law_wb_ties_fault T) (g__law_wb_ties_fault T) (kp__law_wb_ties_fault T) (i_pa_cons (i_var (pv 1)) (i_pa_cons (i_var (pv 3)) i_pa_nil))))
    (s_cons (s_if (w_or (q_is (i_var (pv 5)) i_non) (w_or1 (i_test (c_isi b.hX (g_isinstance T) (i_pa_cons (i_var (pv 5)) (i_pa_cons (i_kind b.hX (g_tuple T) (by rfl)) i_pa_nil)))))).pt (s_one (s_ret (i_var (pv 5)))) s_nil)
    (s_one (s_ret (i_tup (i_pa_cons i_str (i_pa_cons (i_ifx (q_eq b.room.units b.hX (i_var (pv 5)) (c_neg i_int)) i_int (i_tup (i_pa_cons i_int (i_pa_cons (i_var (pv 5)) i_pa_nil)))) i_pa_nil))))))))))))))
def m_whole : S → OS :=
  (retS (andE (callE isiV [(varE 0), (cE (.ty "int"))]) (andE (notE (callE isiV [(varE 0), (cE (.ty "bool"))])) (chainE leV leV (varE 1) (varE 0) (varE 2)))))
theorem sc_whole : FnScope ["thing", "low", "high"] ["thing", "low", "high"] (defScope (top 6)) := ⟨rfl, rfl, rfl, by decide +kernel, rfl, by decide +kernel, by decide +kernel⟩
def d_whole (as : List Ar) : RD := runD 3 3 m_whole as
set_option maxHeartbeats 0 in
theorem s_whole (T : Txt c) : FnS c 1 (He.ga c.K "whole") d_whole := by
  obtain ⟨fd, F⟩ := F_whole T
  exact fun_sh (N := ["thing", "low", "high"]) (ps := ["thing", "low", "high"]) (k := 0) (G := m_whole) F sc_whole (F.bindsN fun _ _ _ _ _ _ us hl => match us, hl with | [_, _, _], _ => rfl) fun cdv A outer s H Fz io E hcd b hM =>
    (s_one (s_ret (i_and (c_isi b.hX (g_isinstance T) (i_pa_cons (i_var (pv 0)) (i_pa_cons (i_kind b.hX (g_int T) (by rfl)) i_pa_nil))) (i_and (i_not (c_isi b.hX (g_isinstance T) (i_pa_cons (i_var (pv 0)) (i_pa_cons (i_kind b.hX (g_bool T) (by rfl)) i_pa_nil)))) (i_b1 (i_chain op_le op_le cmp_ok cmp_ok (i_var (pv 1)) (i_var (pv 0)) (i_var (pv 2))))))))
def m_is_sum : S → OS :=
  (seqS (ifS (orE (notE (callE isiV [(varE 1), (cE (.ty "tuple"))])) (bin2 (eqV true) (callE lenV [(varE 1)]) (varE 0))) (retS (cE (.bl false))) nextS)
  (retS (callE allV [(compE (itE (varE 1)) (nameT 2) (cE (.bl true)) (callE (callV d_whole) [(varE 2), (un1 negV k_MOST_ENTRY), k_MOST_ENTRY]) [2])])))
theorem sc_is_sum : FnScope ["n", "thing", "one"] ["n", "thing"] (defScope (top 12)) := ⟨rfl, rfl, rfl, by decide +kernel, rfl, by decide +kernel, by decide +kernel⟩
def d_is_sum (as : List Ar) : RD := runD 2 3 m_is_sum as
set_option maxHeartbeats 0 in
theorem s_is_sum (T : Txt c) : FnS c 2 (He.ga c.K "is_sum") d_is_sum := by
  obtain ⟨fd, F⟩ := F_is_sum T
  exact fun_sh (N := ["n", "thing", "one"]) (ps := ["n", "thing"]) (k := 1) (G := m_is_sum) F sc_is_sum (F.bindsN fun _ _ _ _ _ _ us hl => match us, hl with | [_, _], _ => rfl) fun cdv A outer s H Fz io E hcd b hM =>
    (s_cons (s_if (w_or (t_not (i_test (c_isi b.hX (g_isinstance T) (i_pa_cons (i_var (pv 1)) (i_pa_cons (i_kind b.hX (g_tuple T) (by rfl)) i_pa_nil))))) (w_or1 (q_ne b.room.units b.hX (c_len b.hX (g_len T) (i_pa_cons (i_var (pv 1)) i_pa_nil)) (i_var (pv 0))))).pt (s_one (s_ret i_bl)) s_nil)
    (s_one (s_ret (c_all b.calm b.hX (g_all T) (i_pa_cons (i_lc (own := [("one", 2)]) b.calm b.nd (w_seq b.hX.K (i_var (pv 1))) (blkOk_by (by rfl)) (fun _ _ _ _ _ => (g_name (i := 2) b.blk.nd)) (fun _ _ _ _ _ => t_yes) (fun _ _ _ _ _ => (c_call b.blk (s_whole T) (g_whole T) (kp_whole T) (i_pa_cons (i_var (pv 2)) (i_pa_cons (c_neg (i_globI b.blk.hX T.k_MOST_ENTRY)) (i_pa_cons (i_globI b.blk.hX T.k_MOST_ENTRY) i_pa_nil))))) (by decide)) i_pa_nil)))))
def m_first_odd_sum : S → OS :=
  (seqS (forS (itA enuV [(varE 1)]) (tupT 2 (consT (nameT 2) (consT (nameT 3) nilT))) (ifS (notE (callE (callV d_is_sum) [(varE 0), (varE 3)])) (retS (varE 2)) nextS))
  (retS (cE .non)))
theorem sc_first_odd_sum : FnScope ["n", "things", "at", "one"] ["n", "things"] (defScope (top 25)) := ⟨rfl, rfl, rfl, by decide +kernel, rfl, by decide +kernel, by decide +kernel⟩
def d_first_odd_sum (as : List Ar) : RD := runD 2 4 m_first_odd_sum as
set_option maxHeartbeats 0 in
theorem s_first_odd_sum (T : Txt c) : FnS c 3 (He.ga c.K "first_odd_sum") d_first_odd_sum := by
  obtain ⟨fd, F⟩ := F_first_odd_sum T
  exact fun_sh (N := ["n", "things", "at", "one"]) (ps := ["n", "things"]) (k := 2) (G := m_first_odd_sum) F sc_first_odd_sum (F.bindsN fun _ _ _ _ _ _ us hl => match us, hl with | [_, _], _ => rfl) fun cdv A outer s H Fz io E hcd b hM =>
    (s_cons (s_for PassesOwn.leaving b.calm (w_enum b.hX.K (hm := (by rw [(b.hX).mg]; exact g_enumerate T)) (ha := (i_pa_cons (i_var (pv 1)) i_pa_nil))) (g_tup b.hX.K b.calm (g_cons (g_name (i := 2) b.nd) (g_cons (g_name (i := 3) b.nd) g_nil))) (s_one (s_if (t_not (i_test (c_call b (s_is_sum T) (g_is_sum T) (kp_is_sum T) (i_pa_cons (i_var (pv 0)) (i_pa_cons (i_var (pv 3)) i_pa_nil))))) (s_one (s_ret (i_var (pv 2)))) s_nil)))
    (s_one (s_ret i_non)))
def m_is_tie : S → OS :=
  (seqS (ifS (orE (notE (callE isiV [(varE 1), (cE (.ty "tuple"))])) (bin2 (eqV true) (callE lenV [(varE 1)]) k_TIE_PARTS)) (retS (cE (.bl false))) nextS)
  (seqS (ifS (notE (callE allV [(compE (itE (sliceE (varE 1) noP (atP (cE (.int 2))))) (nameT 2) (cE (.bl true)) (andE (callE (callV d_is_sum) [(varE 0), (varE 2)]) (bin2 (eqV true) (varE 2) (bin2 mulW (tupE [(cE (.int 0))]) (varE 0)))) [2])])) (retS (cE (.bl false))) nextS)
  (retS (andE (callE isiV [(bin2 ixV (varE 1) (cE (.int 2))), (cE (.ty "str"))]) (bin2 (memV false) (bin2 ixV (varE 1) (cE (.int 2))) k_MANNERS)))))
theorem sc_is_tie : FnScope ["n", "thing", "one"] ["n", "thing"] (defScope (top 19)) := ⟨rfl, rfl, rfl, by decide +kernel, rfl, by decide +kernel, by decide +kernel⟩
def d_is_tie (as : List Ar) : RD := runD 2 3 m_is_tie as
set_option maxHeartbeats 0 in
theorem s_is_tie (T : Txt c) : FnS c 3 (He.ga c.K "is_tie") d_is_tie := by
  obtain ⟨fd, F⟩ := F_is_tie T
  exact fun_sh (N := ["n", "thing", "one"]) (ps := ["n", "thing"]) (k := 2) (G := m_is_tie) F sc_is_tie (F.bindsN fun _ _ _ _ _ _ us hl => match us, hl with | [_, _], _ => rfl) fun cdv A outer s H Fz io E hcd b hM =>
    (s_cons (s_if (w_or (t_not (i_test (c_isi b.hX (g_isinstance T) (i_pa_cons (i_var (pv 1)) (i_pa_cons (i_kind b.hX (g_tuple T) (by rfl)) i_pa_nil))))) (w_or1 (q_ne b.room.units b.hX (c_len b.hX (g_len T) (i_pa_cons (i_var (pv 1)) i_pa_nil)) (i_globI b.hX T.k_TIE_PARTS)))).pt (s_one (s_ret i_bl)) s_nil)
    (s_cons (s_if (t_not (i_test (c_all b.calm b.hX (g_all T) (i_pa_cons (i_lc (own := [("one", 2)]) b.calm b.nd (w_seq b.hX.K (i_slice b.hX.K (i_var (pv 1)) o_none (o_some i_int))) (blkOk_by (by rfl)) (fun _ _ _ _ _ => (g_name (i := 2) b.blk.nd)) (fun _ _ _ _ _ => t_yes) (fun _ _ _ _ _ => (i_and (c_call b.blk (s_is_sum T) (g_is_sum T) (kp_is_sum T) (i_pa_cons (i_var (pv 0)) (i_pa_cons (i_var (pv 2)) i_pa_nil))) (i_b1 (c_ne b.blk.room.units b.blk.hX (i_var (pv 2)) (c_mulW b.blk.hX (i_tup (i_pa_cons i_int i_pa_nil)) (i_var (pv 0))))))) (by decide)) i_pa_nil)))) (s_one (s_ret i_bl)) s_nil)
    (s_one (s_ret (i_and (c_isi b.hX (g_isinstance T) (i_pa_cons (c_ix b.hX (i_var (pv 1)) i_int) (i_pa_cons (i_kind b.hX (g_str T) (by rfl)) i_pa_nil))) (i_b1 (c_in (room65 b.room) b.hX (c_ix b.hX (i_var (pv 1)) i_int) (i_glob b.hX (T.k_MANNERS).1 (T.k_MANNERS).2.1 (T.k_MANNERS).2.2))))))))
def m_first_odd_tie : S → OS :=
  (seqS (forS (itA enuV [(varE 1)]) (tupT 2 (consT (nameT 2) (consT (nameT 3) nilT))) (ifS (notE (callE (callV d_is_tie) [(varE 0), (varE 3)])) (retS (varE 2)) nextS))
  (retS (cE .non)))
theorem sc_first_odd_tie : FnScope ["n", "things", "at", "one"] ["n", "things"] (defScope (top 20)) := ⟨rfl, rfl, rfl, by decide +kernel, rfl, by decide +kernel, by decide +kernel⟩
def d_first_odd_tie (as : List Ar) : RD := runD 2 4 m_first_odd_tie as
set_option maxHeartbeats 0 in
theorem s_first_odd_tie (T : Txt c) : FnS c 4 (He.ga c.K "first_odd_tie") d_first_odd_tie := by
  obtain ⟨fd, F⟩ := F_first_odd_tie T
  exact fun_sh (N := ["n", "things", "at", "one"]) (ps := ["n", "things"]) (k := 3) (G := m_first_odd_tie) F sc_first_odd_tie (F.bindsN fun _ _ _ _ _ _ us hl => match us, hl with | [_, _], _ => rfl) fun cdv A outer s H Fz io E hcd b hM =>
    (s_cons (s_for PassesOwn.leaving b.calm (w_enum b.hX.K (hm := (by rw [(b.hX).mg]; exact g_enumerate T)) (ha := (i_pa_cons (i_var (pv 1)) i_pa_nil))) (g_tup b.hX.K b.calm (g_cons (g_name (i := 2) b.nd) (g_cons (g_name (i := 3) b.nd) g_nil))) (s_one (s_if (t_not (i_test (c_call b (s_is_tie T) (g_is_tie T) (kp_is_tie T) (i_pa_cons (i_var (pv 0)) (i_pa_cons (i_var (pv 3)) i_pa_nil))))) (s_one (s_ret (i_var (pv 2)))) s_nil)))
    (s_one (s_ret i_non)))
def m_is_world : S → OS :=
  (seqS (ifS (orE (notE (callE isiV [(varE 0), (cE (.ty "tuple"))])) (orE (bin2 (eqV true) (callE lenV [(varE 0)]) k_WORLD_PARTS) (notE (callE (callV d_whole) [(bin2 ixV (varE 0) (cE (.int 0))), (cE (.int 1)), k_MOST_QUANTITIES])))) (retS (cE (.bl false))) nextS)
  (seqS (asgS (tupT 3 (consT (nameT 1) (consT (nameT 2) (consT (nameT 3) nilT)))) (varE 0))
  (seqS (ifS (orE (notE (callE isiV [(varE 2), (cE (.ty "tuple"))])) (bin2 gtV (callE lenV [(varE 2)]) k_MOST_EQUATIONS)) (retS (cE (.bl false))) nextS)
  (seqS (ifS (orE (bin2 (isNV true) (callE (callV d_first_odd_sum) [(varE 1), (varE 2)]) (cE .non)) (orE (notE (callE isiV [(varE 3), (cE (.ty "tuple"))])) (bin2 gtV (callE lenV [(varE 3)]) k_MOST_TIES))) (retS (cE (.bl false))) nextS)
  (retS (bin2 (isNV false) (callE (callV d_first_odd_tie) [(varE 1), (varE 3)]) (cE .non)))))))
theorem sc_is_world : FnScope ["thing", "n", "equations", "ties"] ["thing"] (defScope (top 27)) := ⟨rfl, rfl, rfl, by decide +kernel, rfl, by decide +kernel, by decide +kernel⟩
def d_is_world (as : List Ar) : RD := runD 1 4 m_is_world as
set_option maxHeartbeats 0 in
theorem s_is_world (T : Txt c) : FnS c 5 (He.ga c.K "is_world") d_is_world := by
  obtain ⟨fd, F⟩ := F_is_world T
  exact fun_sh (N := ["thing", "n", "equations", "ties"]) (ps := ["thing"]) (k := 4) (G := m_is_world) F sc_is_world (F.bindsN fun _ _ _ _ _ _ us hl => match us, hl with | [_], _ => rfl) fun cdv A outer s H Fz io E hcd b hM =>
    (s_cons (s_if (w_or (t_not (i_test (c_isi b.hX (g_isinstance T) (i_pa_cons (i_var (pv 0)) (i_pa_cons (i_kind b.hX (g_tuple T) (by rfl)) i_pa_nil))))) (w_or (q_ne b.room.units b.hX (c_len b.hX (g_len T) (i_pa_cons (i_var (pv 0)) i_pa_nil)) (i_globI b.hX T.k_WORLD_PARTS)) (w_or1 (t_not (i_test (c_call b (s_whole T) (g_whole T) (kp_whole T) (i_pa_cons (c_ix b.hX (i_var (pv 0)) i_int) (i_pa_cons i_int (i_pa_cons (i_globI b.hX T.k_MOST_QUANTITIES) i_pa_nil))))))))).pt (s_one (s_ret i_bl)) s_nil)
    (s_cons (s_asg (i_var (pv 0)) (g_tup b.hX.K b.calm (g_cons (g_name (i := 1) b.nd) (g_cons (g_name (i := 2) b.nd) (g_cons (g_name (i := 3) b.nd) g_nil)))))
    (s_cons (s_if (w_or (t_not (i_test (c_isi b.hX (g_isinstance T) (i_pa_cons (i_var (pv 2)) (i_pa_cons (i_kind b.hX (g_tuple T) (by rfl)) i_pa_nil))))) (w_or1 (q_gt (c_len b.hX (g_len T) (i_pa_cons (i_var (pv 2)) i_pa_nil)) (i_globI b.hX T.k_MOST_EQUATIONS)))).pt (s_one (s_ret i_bl)) s_nil)
    (s_cons (s_if (w_or (q_isnot (c_call b (s_first_odd_sum T) (g_first_odd_sum T) (kp_first_odd_sum T) (i_pa_cons (i_var (pv 1)) (i_pa_cons (i_var (pv 2)) i_pa_nil))) i_non) (w_or (t_not (i_test (c_isi b.hX (g_isinstance T) (i_pa_cons (i_var (pv 3)) (i_pa_cons (i_kind b.hX (g_tuple T) (by rfl)) i_pa_nil))))) (w_or1 (q_gt (c_len b.hX (g_len T) (i_pa_cons (i_var (pv 3)) i_pa_nil)) (i_globI b.hX T.k_MOST_TIES))))).pt (s_one (s_ret i_bl)) s_nil)
    (s_one (s_ret (c_is (c_call b (s_first_odd_tie T) (g_first_odd_tie T) (kp_first_odd_tie T) (i_pa_cons (i_var (pv 1)) (i_pa_cons (i_var (pv 3)) i_pa_nil))) i_non)))))))
def m_made_world : S → OS :=
  (seqS (ifS (orE (notE (callE isiV [(varE 0), (cE (.ty "tuple"))])) (bin2 (eqV true) (callE lenV [(varE 0)]) k_WORLD_PARTS)) (raiseS "BadWorld" (un1 negV (cE (.int 1)))) nextS)
  (seqS (asgS (tupT 3 (consT (nameT 1) (consT (nameT 2) (consT (nameT 3) nilT)))) (varE 0))
  (seqS (ifS (notE (callE (callV d_whole) [(varE 1), (cE (.int 1)), k_MOST_QUANTITIES])) (raiseS "BadWorld" (cE (.int 0))) nextS)
  (seqS (forS (itE (tupE [(tupE [(cE (.int 1)), k_MOST_EQUATIONS, (cE (.obj 11))]), (tupE [(cE (.int 2)), k_MOST_TIES, (cE (.obj 13))])])) (tupT 3 (consT (nameT 4) (consT (nameT 5) (consT (nameT 6) nilT)))) (seqS (ifS (notE (callE isiV [(bin2 ixV (varE 0) (varE 4)), (cE (.ty "tuple"))])) (raiseS "BadWorld" (varE 4)) nextS)
  (seqS (ifS (bin2 gtV (callE lenV [(bin2 ixV (varE 0) (varE 4))]) (varE 5)) (raiseS "TooMany" (callE lenV [(bin2 ixV (varE 0) (varE 4))])) nextS)
  (seqS (setS 7 (callOE [(11, d_first_odd_sum), (13, d_first_odd_tie)] 6 [(varE 1), (bin2 ixV (varE 0) (varE 4))]))
  (ifS (bin2 (isNV true) (varE 7) (cE .non)) (raiseS "BadWorld" (tupE [(varE 4), (varE 7)])) nextS)))))
  (retS (varE 0))))))
theorem sc_made_world : FnScope ["thing", "n", "equations", "ties", "part", "most", "first_odd", "wrong"] ["thing"] (defScope (top 26)) := ⟨rfl, rfl, rfl, by decide +kernel, rfl, by decide +kernel, by decide +kernel⟩
def d_made_world (as : List Ar) : RD := runD 1 8 m_made_world as
set_option maxHeartbeats 0 in
theorem s_made_world (T : Txt c) : FnS c 5 (He.ga c.K "made_world") d_made_world := by
  obtain ⟨fd, F⟩ := F_made_world T
  exact fun_sh (N := ["thing", "n", "equations", "ties", "part", "most", "first_odd", "wrong"]) (ps := ["thing"]) (k := 4) (G := m_made_world) F sc_made_world (F.bindsN fun _ _ _ _ _ _ us hl => match us, hl with | [_], _ => rfl) fun cdv A outer s H Fz io E hcd b hM =>
    (s_cons (s_if (w_or (t_not (i_test (c_isi b.hX (g_isinstance T) (i_pa_cons (i_var (pv 0)) (i_pa_cons (i_kind b.hX (g_tuple T) (by rfl)) i_pa_nil))))) (w_or1 (q_ne b.room.units b.hX (c_len b.hX (g_len T) (i_pa_cons (i_var (pv 0)) i_pa_nil)) (i_globI b.hX T.k_WORLD_PARTS)))).pt (s_one (s_raise b.hX b.calm (T.cls.one _ _ (by decide) (g_BadWorld T)) T.ini (b.room.mono (by decide)) b.tk (g_BadWorld T) (c_neg i_int))) s_nil)
    (s_cons (s_asg (i_var (pv 0)) (g_tup b.hX.K b.calm (g_cons (g_name (i := 1) b.nd) (g_cons (g_name (i := 2) b.nd) (g_cons (g_name (i := 3) b.nd) g_nil)))))
    (s_cons (s_if (t_not (i_test (c_call b (s_whole T) (g_whole T) (kp_whole T) (i_pa_cons (i_var (pv 1)) (i_pa_cons i_int (i_pa_cons (i_globI b.hX T.k_MOST_QUANTITIES) i_pa_nil)))))) (s_one (s_raise b.hX b.calm (T.cls.one _ _ (by decide) (g_BadWorld T)) T.ini (b.room.mono (by decide)) b.tk (g_BadWorld T) i_int)) s_nil)
    (s_cons (s_for PassesOwn.leaving b.calm (w_seq b.hX.K (i_tup (i_pa_cons (i_tup (i_pa_cons i_int (i_pa_cons (i_globI b.hX T.k_MOST_EQUATIONS) (i_pa_cons (i_globO b.hX (g_first_odd_sum T) (T.G_ok 11 _ rfl)) i_pa_nil)))) (i_pa_cons (i_tup (i_pa_cons i_int (i_pa_cons (i_globI b.hX T.k_MOST_TIES) (i_pa_cons (i_globO b.hX (g_first_odd_tie T) (T.G_ok 13 _ rfl)) i_pa_nil)))) i_pa_nil)))) (g_tup b.hX.K b.calm (g_cons (g_name (i := 4) b.nd) (g_cons (g_name (i := 5) b.nd) (g_cons (g_name (i := 6) b.nd) g_nil)))) (s_cons (s_if (t_not (i_test (c_isi b.hX (g_isinstance T) (i_pa_cons (c_ix b.hX (i_var (pv 0)) (i_var (pv 4))) (i_pa_cons (i_kind b.hX (g_tuple T) (by rfl)) i_pa_nil))))) (s_one (s_raise b.hX b.calm (T.cls.one _ _ (by decide) (g_BadWorld T)) T.ini (b.room.mono (by decide)) b.tk (g_BadWorld T) (i_var (pv 4)))) s_nil)
    (s_cons (s_if (q_gt (c_len b.hX (g_len T) (i_pa_cons (c_ix b.hX (i_var (pv 0)) (i_var (pv 4))) i_pa_nil)) (i_var (pv 5))) (s_one (s_raise b.hX b.calm (T.cls.one _ _ (by decide) (g_TooMany T)) T.ini (b.room.mono (by decide)) b.tk (g_TooMany T) (c_len b.hX (g_len T) (i_pa_cons (c_ix b.hX (i_var (pv 0)) (i_var (pv 4))) i_pa_nil)))) s_nil)
    (s_cons (s_set (i := 7) b.nd (c_callO (i := 6) b (List.forall_mem_cons.mpr ⟨⟨_, _, T.G_ok 11 _ rfl, s_first_odd_sum T, by decide, kp_first_odd_sum T⟩, List.forall_mem_cons.mpr ⟨⟨_, _, T.G_ok 13 _ rfl, s_first_odd_tie T, by decide, kp_first_odd_tie T⟩, fun _ h => nomatch h⟩⟩) (i_pa_cons (i_var (pv 1)) (i_pa_cons (c_ix b.hX (i_var (pv 0)) (i_var (pv 4))) i_pa_nil))))
    (s_one (s_if (q_isnot (i_var (pv 7)) i_non) (s_one (s_raise b.hX b.calm (T.cls.one _ _ (by decide) (g_BadWorld T)) T.ini (b.room.mono (by decide)) b.tk (g_BadWorld T) (i_tup (i_pa_cons (i_var (pv 4)) (i_pa_cons (i_var (pv 7)) i_pa_nil))))) s_nil))))))
    (s_one (s_ret (i_var (pv 0))))))))
def m__law_a1_right : S → OS :=
  (seqS (setS 1 (callE (callV d__law_wb_world_fault) [(varE 0)]))
  (seqS (setS 2 (lstE [(lamE d__law_a1_heard [0] (callE (callV d_made_world) [(varE 0)]) [])]))
  (seqS (dropS (methE "list" appV (varE 2) [(lamE d__law_a1_heard [0] (callE (callV d_is_world) [(varE 0)]) [])]))
  (retS (callE (callV d__law_wb_same) [(varE 2), (lstE [(ifE (bin2 (isNV false) (varE 1) (cE .non)) (tupE [(cE (.str "told")), (varE 0)]) (varE 1)), (tupE [(cE (.str "told")), (bin2 (isNV false) (varE 1) (cE .non))])])])))))
theorem sc__law_a1_right : FnScope ["thing", "fault", "heard"] ["thing"] (defScope (top 44)) := ⟨rfl, rfl, rfl, by decide +kernel, rfl, by decide +kernel, by decide +kernel⟩
def d__law_a1_right (as : List Ar) : RD := runD 1 3 m__law_a1_right as
set_option maxHeartbeats 0 in
theorem s__law_a1_right (T : Txt c) : FnS c 62 (He.ga c.K "_law_a1_right") d__law_a1_right := by
  obtain ⟨fd, F⟩ := F__law_a1_right T
  exact fun_sh (N := ["thing", "fault", "heard"]) (ps := ["thing"]) (k := 61) (G := m__law_a1_right) F sc__law_a1_right (F.bindsN fun _ _ _ _ _ _ us hl => match us, hl with | [_], _ => rfl) fun cdv A outer s H Fz io E hcd b hM =>
    (s_cons (s_set (i := 1) b.nd (c_call b (s__law_wb_world_fault T) (g__law_wb_world_fault T) (kp__law_wb_world_fault T) (i_pa_cons (i_var (pv 0)) i_pa_nil)))
    (s_cons (s_set (i := 2) b.nd (i_lst (i_pa_cons (i_lam (caps := [0]) b.hX (fun _ => rfl) (s__law_a1_heard T) (g__law_a1_heard T) (b.room.mono (by decide)) b.tk (T.tb ("_law_a1_right", none) (by decide +kernel)) (hcd rfl) (T.inT ("_law_a1_right", none) (by decide +kernel)) (T.uniq ("_law_a1_right", none) (by decide +kernel)) (LamX.lamS_by (by rfl)) (fun A outer s H F E f c' hr tk => have bl : Bd c ⟨s, H, outer, F, [], none⟩ (WD E) _ 59 := b.lam hr tk; (c_call bl (s_made_world T) (g_made_world T) (kp_made_world T) (i_pa_cons (i_var (pv 0)) i_pa_nil))) i_pa_nil (hk := kp__law_a1_heard T)) i_pa_nil)))
    (s_cons (s_expr (c_append b.hX (i_var (pv 2)) (i_pa_cons (i_lam (caps := [0]) b.hX (fun _ => rfl) (s__law_a1_heard T) (g__law_a1_heard T) (b.room.mono (by decide)) b.tk (T.tb ("_law_a1_right", none) (by decide +kernel)) (hcd rfl) (T.inT ("_law_a1_right", none) (by decide +kernel)) (T.uniq ("_law_a1_right", none) (by decide +kernel)) (LamX.lamS_by (by rfl)) (fun A outer s H F E f c' hr tk => have bl : Bd c ⟨s, H, outer, F, [], none⟩ (WD E) _ 59 := b.lam hr tk; (c_call bl (s_is_world T) (g_is_world T) (kp_is_world T) (i_pa_cons (i_var (pv 0)) i_pa_nil))) i_pa_nil (hk := kp__law_a1_heard T)) i_pa_nil)))
    (s_one (s_ret (c_call b (s__law_wb_same T) (g__law_wb_same T) (kp__law_wb_same T) (i_pa_cons (i_var (pv 2)) (i_pa_cons (i_lst (i_pa_cons (i_ifx (q_is (i_var (pv 1)) i_non) (i_tup (i_pa_cons i_str (i_pa_cons (i_var (pv 0)) i_pa_nil))) (i_var (pv 1))) (i_pa_cons (i_tup (i_pa_cons i_str (i_pa_cons (c_is (i_var (pv 1)) i_non) i_pa_nil))) i_pa_nil))) i_pa_nil))))))))
def m__law_take : S → OS :=
  (seqS (ifS (bin2 gtV (bin2 ixV (varE 0) (cE (.int 0))) (cE (.int 0))) (seqS (setS 2 (bin2 modV (callE toIntV [(bin2 ixV (varE 0) (cE (.int 0)))]) (varE 1)))
  (seqS (setIxS (varE 0) (cE (.int 0)) (bin2 divV (bin2 ixV (varE 0) (cE (.int 0))) (varE 1)))
  (retS (varE 2)))) nextS)
  (seqS (setIxS (varE 0) (cE (.int 2)) (bin2 addV (bin2 ixV (varE 0) (cE (.int 2))) (cE (.int 1))))
  (seqS (setIxS (varE 0) (cE (.int 1)) (bin2 modV (callE toIntV [(bin2 addV (bin2 addV (bin2 mulV (bin2 ixV (varE 0) (cE (.int 1))) (cE (.int 39373))) (bin2 mulV (cE (.int 7919)) (bin2 ixV (varE 0) (cE (.int 2))))) (cE (.int 7)))]) (cE (.int 2147483647))))
  (retS (bin2 modV (callE toIntV [(bin2 divV (bin2 modV (callE toIntV [(bin2 mulV (bin2 ixV (varE 0) (cE (.int 1))) (bin2 ixV (varE 0) (cE (.int 1))))]) (cE (.int 2147483629))) (cE (.int 32)))]) (varE 1))))))
theorem sc__law_take : FnScope ["jar", "many_v", "made_now"] ["jar", "many_v"] (defScope (top 30)) := ⟨rfl, rfl, rfl, by decide +kernel, rfl, by decide +kernel, by decide +kernel⟩
def d__law_take (as : List Ar) : RD := runD 2 3 m__law_take as
set_option maxHeartbeats 0 in
theorem s__law_take (T : Txt c) : FnS c 1 (He.ga c.K "_law_take") d__law_take := by
  obtain ⟨fd, F⟩ := F__law_take T
  exact fun_sh (N := ["jar", "many_v", "made_now"]) (ps := ["jar", "many_v"]) (k := 0) (G := m__law_take) F sc__law_take (F.bindsN fun _ _ _ _ _ _ us hl => match us, hl with | [_, _], _ => rfl) fun cdv A outer s H Fz io E hcd b hM =>
    (s_cons (s_if (q_gt (c_ix b.hX (i_var (pv 0)) i_int) i_int) (s_cons (s_set (i := 2) b.nd (c_mod b.hX (c_int b.hX (g_int T) (i_pa_cons (c_ix b.hX (i_var (pv 0)) i_int) i_pa_nil)) (i_var (pv 1))))
    (s_cons (s_sub (i_var (pv 0)) i_int (c_div b.hX (c_ix b.hX (i_var (pv 0)) i_int) (i_var (pv 1))))
    (s_one (s_ret (i_var (pv 2)))))) s_nil)
    (s_cons (s_sub (i_var (pv 0)) i_int (c_add b.hX (c_ix b.hX (i_var (pv 0)) i_int) i_int))
    (s_cons (s_sub (i_var (pv 0)) i_int (c_mod b.hX (c_int b.hX (g_int T) (i_pa_cons (c_add b.hX (c_add b.hX (c_mul b.hX (c_ix b.hX (i_var (pv 0)) i_int) i_int) (c_mul b.hX i_int (c_ix b.hX (i_var (pv 0)) i_int))) i_int) i_pa_nil)) i_int))
    (s_one (s_ret (c_mod b.hX (c_int b.hX (g_int T) (i_pa_cons (c_div b.hX (c_mod b.hX (c_int b.hX (g_int T) (i_pa_cons (c_mul b.hX (c_ix b.hX (i_var (pv 0)) i_int) (c_ix b.hX (i_var (pv 0)) i_int)) i_pa_nil)) i_int) i_int) i_pa_nil)) (i_var (pv 1))))))))
def m__law_one : S → OS :=
  (retS (bin2 ixV (varE 1) (callE (callV d__law_take) [(varE 0), (callE lenV [(varE 1)])])))
theorem sc__law_one : FnScope ["jar", "things"] ["jar", "things"] (defScope (top 31)) := ⟨rfl, rfl, rfl, by decide +kernel, rfl, by decide +kernel, by decide +kernel⟩
def d__law_one (as : List Ar) : RD := runD 2 2 m__law_one as
set_option maxHeartbeats 0 in
theorem s__law_one (T : Txt c) : FnS c 2 (He.ga c.K "_law_one") d__law_one := by
  obtain ⟨fd, F⟩ := F__law_one T
  exact fun_sh (N := ["jar", "things"]) (ps := ["jar", "things"]) (k := 1) (G := m__law_one) F sc__law_one (F.bindsN fun _ _ _ _ _ _ us hl => match us, hl with | [_, _], _ => rfl) fun cdv A outer s H Fz io E hcd b hM =>
    (s_one (s_ret (c_ix b.hX (i_var (pv 1)) (c_call b (s__law_take T) (g__law_take T) (kp__law_take T) (i_pa_cons (i_var (pv 0)) (i_pa_cons (c_len b.hX (g_len T) (i_pa_cons (i_var (pv 1)) i_pa_nil)) i_pa_nil))))))
def m__law_wb_bent (rec : List Ar → RD) : S → OS :=
  (seqS (setS 2 (callE (callV d__law_one) [(varE 0), (lstE [(cE .non), (cE (.str "0")), (cE (.bl true)), (cE (.bl false)), (un1 negV (cE (.int 1))), (cE (.int 0)), (bin2 powV (cE (.int 10)) (cE (.int 25))), (tupE []), (tupE [(cE (.int 0))]), (lstE [(cE (.int 0))]), (cE (.str "firm"))])]))
  (seqS (ifS (orE (notE (callE isiV [(varE 1), (cE (.ty "tuple"))])) (bin2 (eqV false) (varE 1) (tupE []))) (retS (varE 2)) nextS)
  (seqS (parS 3 4 (callE (callV d__law_take) [(varE 0), (callE lenV [(varE 1)])]) (callE (callV d__law_take) [(varE 0), (cE (.int 9))]))
  (seqS (ifS (bin2 ltV (varE 4) (cE (.int 3))) (retS (bin2 addV (bin2 addV (sliceE (varE 1) noP (atP (varE 3))) (tupE [(callE (callV rec) [(varE 0), (bin2 ixV (varE 1) (varE 3))])])) (sliceE (varE 1) (atP (bin2 addV (varE 3) (cE (.int 1)))) noP))) nextS)
  (seqS (setS 5 (lstE [(bin2 addV (bin2 addV (sliceE (varE 1) noP (atP (varE 3))) (tupE [(varE 2)])) (sliceE (varE 1) (atP (bin2 addV (varE 3) (cE (.int 1)))) noP)), (bin2 addV (sliceE (varE 1) noP (atP (varE 3))) (sliceE (varE 1) (atP (bin2 addV (varE 3) (cE (.int 1)))) noP)), (bin2 addV (sliceE (varE 1) noP (atP (bin2 addV (varE 3) (cE (.int 1))))) (sliceE (varE 1) (atP (varE 3)) noP))]))
  (seqS (dropS (methE "list" extV (varE 5) [(lstE [(bin2 addV (sliceE (varE 1) noP (atP (varE 3))) (revAE (sliceE (varE 1) (atP (varE 3)) noP))), (callE listV [(varE 1)]), (bin2 addV (varE 1) (tupE [(varE 2)]))])]))
  (retS (bin2 ixV (varE 5) (bin2 subV (varE 4) (cE (.int 3)))))))))))
theorem sc__law_wb_bent : FnScope ["jar", "thing", "odd", "at", "form", "some"] ["jar", "thing"] (defScope (top 41)) := ⟨rfl, rfl, rfl, by decide +kernel, rfl, by decide +kernel, by decide +kernel⟩
def d__law_wb_bent : Nat → List Ar → RD
  | 0, _ => .bad
  | n + 1, as => runD 2 6 (m__law_wb_bent (d__law_wb_bent n)) as
set_option maxHeartbeats 0 in
theorem s__law_wb_bent (T : Txt c) : ∀ n, FnS c (2 + n) (He.ga c.K "_law_wb_bent") (d__law_wb_bent n)
  | 0 => fun A outer s H F as vs us io Q E hr e0 hd ht ha nd hv h => h.elim
  | n + 1 => by
    obtain ⟨fd, F⟩ := F__law_wb_bent T
    have ih := s__law_wb_bent T n
    exact fun_sh (N := ["jar", "thing", "odd", "at", "form", "some"]) (ps := ["jar", "thing"]) (k := 2 + n) (G := m__law_wb_bent (d__law_wb_bent n)) F sc__law_wb_bent (F.bindsN fun _ _ _ _ _ _ us hl => match us, hl with | [_, _], _ => rfl) fun cdv A outer s H Fz io E hcd b hM =>
    (s_cons (s_set (i := 2) b.nd (c_call b (s__law_one T) (g__law_one T) (kp__law_one T) (i_pa_cons (i_var (pv 0)) (i_pa_cons (i_lst (i_pa_cons i_non (i_pa_cons i_str (i_pa_cons i_bl (i_pa_cons i_bl (i_pa_cons (c_neg i_int) (i_pa_cons i_int (i_pa_cons (c_pow b.hX i_int i_int) (i_pa_cons (i_tup i_pa_nil) (i_pa_cons (i_tup (i_pa_cons i_int i_pa_nil)) (i_pa_cons (i_lst (i_pa_cons i_int i_pa_nil)) (i_pa_cons i_str i_pa_nil)))))))))))) i_pa_nil)) (by omega)))
    (s_cons (s_if (w_or (t_not (i_test (c_isi b.hX (g_isinstance T) (i_pa_cons (i_var (pv 1)) (i_pa_cons (i_kind b.hX (g_tuple T) (by rfl)) i_pa_nil))))) (w_or1 (q_eq b.room.units b.hX (i_var (pv 1)) (i_tup i_pa_nil)))).pt (s_one (s_ret (i_var (pv 2)))) s_nil)
    (s_cons (s_par (i := 3) (j := 4) b.calm b.nd (i_pa_cons (c_call b (s__law_take T) (g__law_take T) (kp__law_take T) (i_pa_cons (i_var (pv 0)) (i_pa_cons (c_len b.hX (g_len T) (i_pa_cons (i_var (pv 1)) i_pa_nil)) i_pa_nil)) (by omega)) (i_pa_cons (c_call b (s__law_take T) (g__law_take T) (kp__law_take T) (i_pa_cons (i_var (pv 0)) (i_pa_cons i_int i_pa_nil)) (by omega)) i_pa_nil)))
    (s_cons (s_if (q_lt (i_var (pv 4)) i_int) (s_one (s_ret (c_add b.hX (c_add b.hX (i_slice b.hX.K (i_var (pv 1)) o_none (o_some (i_var (pv 3)))) (i_tup (i_pa_cons (c_call b ih (g__law_wb_bent T) (kp__law_wb_bent T) (i_pa_cons (i_var (pv 0)) (i_pa_cons (c_ix b.hX (i_var (pv 1)) (i_var (pv 3))) i_pa_nil)) (by omega)) i_pa_nil))) (i_slice b.hX.K (i_var (pv 1)) (o_some (c_add b.hX (i_var (pv 3)) i_int)) o_none)))) s_nil)
    (s_cons (s_set (i := 5) b.nd (i_lst (i_pa_cons (c_add b.hX (c_add b.hX (i_slice b.hX.K (i_var (pv 1)) o_none (o_some (i_var (pv 3)))) (i_tup (i_pa_cons (i_var (pv 2)) i_pa_nil))) (i_slice b.hX.K (i_var (pv 1)) (o_some (c_add b.hX (i_var (pv 3)) i_int)) o_none)) (i_pa_cons (c_add b.hX (i_slice b.hX.K (i_var (pv 1)) o_none (o_some (i_var (pv 3)))) (i_slice b.hX.K (i_var (pv 1)) (o_some (c_add b.hX (i_var (pv 3)) i_int)) o_none)) (i_pa_cons (c_add b.hX (i_slice b.hX.K (i_var (pv 1)) o_none (o_some (c_add b.hX (i_var (pv 3)) i_int))) (i_slice b.hX.K (i_var (pv 1)) (o_some (i_var (pv 3))) o_none)) i_pa_nil)))))
    (s_cons (s_expr (c_extend b.hX (i_var (pv 5)) (i_pa_cons (i_lst (i_pa_cons (c_add b.hX (i_slice b.hX.K (i_var (pv 1)) o_none (o_some (i_var (pv 3)))) (i_revA b.hX.K (i_slice b.hX.K (i_var (pv 1)) (o_some (i_var (pv 3))) o_none))) (i_pa_cons (c_list b.hX (g_list T) (i_pa_cons (i_var (pv 1)) i_pa_nil)) (i_pa_cons (c_add b.hX (i_var (pv 1)) (i_tup (i_pa_cons (i_var (pv 2)) i_pa_nil))) i_pa_nil)))) i_pa_nil)))
    (s_one (s_ret (c_ix b.hX (i_var (pv 5)) (c_sub b.hX (i_var (pv 4)) i_int))))))))))
def m__law_a1_things : S → OS :=
  (seqS (asgS (tupT 3 (consT (nameT 2) (consT (nameT 3) (consT (nameT 4) nilT)))) (varE 1))
  (seqS (setS 5 (lstE [(varE 1), (callE listV [(varE 1)]), (cE .non), (cE (.int 0)), (tupE []), (tupE [(varE 2), (varE 3)]), (bin2 addV (varE 1) (tupE [(cE (.int 0))])), (tupE [(varE 2), (callE listV [(varE 3)]), (cE .non)]), (tupE [(varE 2), (cE .non), (cE .non)])]))
  (seqS (dropS (methE "list" extV (varE 5) [(lstE [(tupE [(varE 2), (varE 3), (callE listV [(varE 4)])]), (tupE [(varE 2), (varE 3), (cE .non)]), (tupE [(varE 2), (bin2 mulW (tupE [(cE .non)]) (cE (.int 41))), (cE .non)]), (tupE [(varE 2), (bin2 mulW (tupE [(cE .non)]) (cE (.int 40))), (cE (.int 5))])])]))
  (seqS (dropS (methE "list" extV (varE 5) [(lstE [(tupE [(varE 2), (varE 3), (bin2 mulW (tupE [(cE .non)]) (cE (.int 13)))]), (tupE [(varE 2), (varE 3), (bin2 mulW (tupE [(cE .non)]) (cE (.int 12)))]), (tupE [(bin2 addV (varE 2) (cE (.int 1))), (varE 3), (varE 4)])])]))
  (seqS (dropS (methE "list" extV (varE 5) [(compE (itE (lstE [(cE (.int 0)), (cE (.int 41)), (un1 negV (cE (.int 1))), (cE (.bl true)), (cE .non), (cE (.str "1")), (tupE [(cE (.int 1))]), (bin2 powV (cE (.int 10)) (cE (.int 20)))])) (nameT 11) (cE (.bl true)) (tupE [(varE 11), (varE 3), (varE 4)]) [11])]))
  (seqS (setS 6 (callE tupleV [(compE (itA rng1V [(varE 2)]) (nameT 12) (cE (.bl true)) (callE toIntV [(bin2 (eqV false) (varE 12) (cE (.int 0)))]) [12])]))
  (seqS (setS 7 (lstE [(sliceE (varE 6) (atP (cE (.int 1))) noP), (bin2 addV (varE 6) (tupE [(cE (.int 0))])), (callE listV [(varE 6)]), (cE .non), (tupE []), (cE (.int 5)), (bin2 mulW (tupE [(cE (.int 0))]) (varE 2)), (bin2 addV (sliceE (varE 6) noP (atP (un1 negV (cE (.int 1))))) (tupE [(cE (.bl true))]))]))
  (seqS (dropS (methE "list" extV (varE 7) [(compE (itE (lstE [(cE (.int 1000)), (un1 negV (cE (.int 1000))), (cE (.int 1001)), (un1 negV (cE (.int 1001))), (cE .non), (cE (.str "0")), (tupE [(cE (.int 0)), (cE (.int 1))])])) (nameT 11) (cE (.bl true)) (bin2 addV (sliceE (varE 6) noP (atP (un1 negV (cE (.int 1))))) (tupE [(varE 11)])) [11])]))
  (seqS (forS (itE (varE 7)) (nameT 8) (seqS (setS 9 (callE (callV d__law_take) [(varE 0), (bin2 addV (callE lenV [(varE 3)]) (cE (.int 1)))]))
  (seqS (dropS (methE "list" appV (varE 5) [(tupE [(varE 2), (bin2 addV (bin2 addV (sliceE (varE 3) noP (atP (varE 9))) (tupE [(varE 8)])) (sliceE (varE 3) (atP (varE 9)) noP)), (varE 4)])]))
  (seqS (dropS (methE "list" appV (varE 5) [(tupE [(varE 2), (bin2 addV (bin2 addV (sliceE (varE 3) noP (atP (varE 9))) (tupE [(varE 8), (cE .non)])) (sliceE (varE 3) (atP (bin2 addV (varE 9) (cE (.int 1)))) noP)), (tupE [(cE .non)])])]))
  (seqS (setS 10 (callE (callV d__law_one) [(varE 0), (lstE [(tupE [(varE 8), (varE 6), (cE (.str "firm"))]), (tupE [(varE 6), (varE 8), (cE (.str "open"))])])]))
  (seqS (setS 9 (callE (callV d__law_take) [(varE 0), (bin2 addV (callE lenV [(varE 4)]) (cE (.int 1)))]))
  (dropS (methE "list" appV (varE 5) [(tupE [(varE 2), (varE 3), (bin2 addV (bin2 addV (sliceE (varE 4) noP (atP (varE 9))) (tupE [(varE 10)])) (sliceE (varE 4) (atP (varE 9)) noP))])]))))))))
  (seqS (forS (itE (lstE [(tupE [(varE 6), (varE 6)]), (tupE [(varE 6), (varE 6), (cE (.str "loose"))]), (tupE [(varE 6), (varE 6), (cE .non)]), (cE .non), (cE (.str "firm"))])) (nameT 8) (seqS (setS 9 (callE (callV d__law_take) [(varE 0), (bin2 addV (callE lenV [(varE 4)]) (cE (.int 1)))]))
  (dropS (methE "list" appV (varE 5) [(tupE [(varE 2), (varE 3), (bin2 addV (bin2 addV (sliceE (varE 4) noP (atP (varE 9))) (tupE [(varE 8), (cE (.int 5))])) (sliceE (varE 4) (atP (varE 9)) noP))])]))))
  (seqS (dropS (methE "list" appV (varE 5) [(tupE [(varE 2), (varE 3), (bin2 addV (varE 4) (tupE [(lstE [(varE 6), (varE 6), (cE (.str "firm"))])]))])]))
  (seqS (dropS (methE "list" appV (varE 5) [(tupE [(varE 2), (varE 3), (bin2 addV (varE 4) (tupE [(tupE [(varE 6), (varE 6), (cE (.str "firm")), (cE (.int 0))])]))])]))
  (retS (bin2 addV (varE 5) (lstE [(callE (callV (d__law_wb_bent 12)) [(varE 0), (varE 1)]), (callE (callV (d__law_wb_bent 12)) [(varE 0), (callE (callV (d__law_wb_bent 12)) [(varE 0), (varE 1)])])])))))))))))))))
theorem sc__law_a1_things : FnScope ["jar", "world", "n", "rows_now", "ties_now", "some", "units_now", "odds", "odd", "at", "tie", "one", "i"] ["jar", "world"] (defScope (top 43)) := ⟨rfl, rfl, rfl, by decide +kernel, rfl, by decide +kernel, by decide +kernel⟩
def d__law_a1_things (as : List Ar) : RD := runD 2 13 m__law_a1_things as
set_option maxHeartbeats 0 in
theorem s__law_a1_things (T : Txt c) : FnS c 15 (He.ga c.K "_law_a1_things") d__law_a1_things := by
  obtain ⟨fd, F⟩ := F__law_a1_things T
  exact fun_sh (N := ["jar", "world", "n", "rows_now", "ties_now", "some", "units_now", "odds", "odd", "at", "tie", "one", "i"]) (ps := ["jar", "world"]) (k := 14) (G := m__law_a1_things) F sc__law_a1_things (F.bindsN fun _ _ _ _ _ _ us hl => match us, hl with | [_, _], _ => rfl) fun cdv A outer s H Fz io E hcd b hM =>
    (s_cons (s_asg (i_var (pv 1)) (g_tup b.hX.K b.calm (g_cons (g_name (i := 2) b.nd) (g_cons (g_name (i := 3) b.nd) (g_cons (g_name (i := 4) b.nd) g_nil)))))
    (s_cons (s_set (i := 5) b.nd (i_lst (i_pa_cons (i_var (pv 1)) (i_pa_cons (c_list b.hX (g_list T) (i_pa_cons (i_var (pv 1)) i_pa_nil)) (i_pa_cons i_non (i_pa_cons i_int (i_pa_cons (i_tup i_pa_nil) (i_pa_cons (i_tup (i_pa_cons (i_var (pv 2)) (i_pa_cons (i_var (pv 3)) i_pa_nil))) (i_pa_cons (c_add b.hX (i_var (pv 1)) (i_tup (i_pa_cons i_int i_pa_nil))) (i_pa_cons (i_tup (i_pa_cons (i_var (pv 2)) (i_pa_cons (c_list b.hX (g_list T) (i_pa_cons (i_var (pv 3)) i_pa_nil)) (i_pa_cons i_non i_pa_nil)))) (i_pa_cons (i_tup (i_pa_cons (i_var (pv 2)) (i_pa_cons i_non (i_pa_cons i_non i_pa_nil)))) i_pa_nil)))))))))))
    (s_cons (s_expr (c_extend b.hX (i_var (pv 5)) (i_pa_cons (i_lst (i_pa_cons (i_tup (i_pa_cons (i_var (pv 2)) (i_pa_cons (i_var (pv 3)) (i_pa_cons (c_list b.hX (g_list T) (i_pa_cons (i_var (pv 4)) i_pa_nil)) i_pa_nil)))) (i_pa_cons (i_tup (i_pa_cons (i_var (pv 2)) (i_pa_cons (i_var (pv 3)) (i_pa_cons i_non i_pa_nil)))) (i_pa_cons (i_tup (i_pa_cons (i_var (pv 2)) (i_pa_cons (c_mulW b.hX (i_tup (i_pa_cons i_non i_pa_nil)) i_int) (i_pa_cons i_non i_pa_nil)))) (i_pa_cons (i_tup (i_pa_cons (i_var (pv 2)) (i_pa_cons (c_mulW b.hX (i_tup (i_pa_cons i_non i_pa_nil)) i_int) (i_pa_cons i_int i_pa_nil)))) i_pa_nil))))) i_pa_nil)))
    (s_cons (s_expr (c_extend b.hX (i_var (pv 5)) (i_pa_cons (i_lst (i_pa_cons (i_tup (i_pa_cons (i_var (pv 2)) (i_pa_cons (i_var (pv 3)) (i_pa_cons (c_mulW b.hX (i_tup (i_pa_cons i_non i_pa_nil)) i_int) i_pa_nil)))) (i_pa_cons (i_tup (i_pa_cons (i_var (pv 2)) (i_pa_cons (i_var (pv 3)) (i_pa_cons (c_mulW b.hX (i_tup (i_pa_cons i_non i_pa_nil)) i_int) i_pa_nil)))) (i_pa_cons (i_tup (i_pa_cons (c_add b.hX (i_var (pv 2)) i_int) (i_pa_cons (i_var (pv 3)) (i_pa_cons (i_var (pv 4)) i_pa_nil)))) i_pa_nil)))) i_pa_nil)))
    (s_cons (s_expr (c_extend b.hX (i_var (pv 5)) (i_pa_cons (i_lc (own := [("one", 11)]) b.calm b.nd (w_seq b.hX.K (i_lst (i_pa_cons i_int (i_pa_cons i_int (i_pa_cons (c_neg i_int) (i_pa_cons i_bl (i_pa_cons i_non (i_pa_cons i_str (i_pa_cons (i_tup (i_pa_cons i_int i_pa_nil)) (i_pa_cons (c_pow b.hX i_int i_int) i_pa_nil)))))))))) (blkOk_by (by rfl)) (fun _ _ _ _ _ => (g_name (i := 11) b.blk.nd)) (fun _ _ _ _ _ => t_yes) (fun _ _ _ _ _ => (i_tup (i_pa_cons (i_var (pv 11)) (i_pa_cons (i_var (pv 3)) (i_pa_cons (i_var (pv 4)) i_pa_nil))))) (by decide)) i_pa_nil)))
    (s_cons (s_set (i := 6) b.nd (c_tuple b.hX (g_tuple T) (i_pa_cons (i_lc (own := [("i", 12)]) b.calm b.nd (w_rng1 (hm := (by rw [(b.hX).mg]; exact g_range T)) (ha := (i_pa_cons (i_var (pv 2)) i_pa_nil))) (blkOk_by (by rfl)) (fun _ _ _ _ _ => (g_name (i := 12) b.blk.nd)) (fun _ _ _ _ _ => t_yes) (fun _ _ _ _ _ => (c_int b.blk.hX (g_int T) (i_pa_cons (c_eq b.blk.room.units b.blk.hX (i_var (pv 12)) i_int) i_pa_nil))) (by decide)) i_pa_nil)))
    (s_cons (s_set (i := 7) b.nd (i_lst (i_pa_cons (i_slice b.hX.K (i_var (pv 6)) (o_some i_int) o_none) (i_pa_cons (c_add b.hX (i_var (pv 6)) (i_tup (i_pa_cons i_int i_pa_nil))) (i_pa_cons (c_list b.hX (g_list T) (i_pa_cons (i_var (pv 6)) i_pa_nil)) (i_pa_cons i_non (i_pa_cons (i_tup i_pa_nil) (i_pa_cons i_int (i_pa_cons (c_mulW b.hX (i_tup (i_pa_cons i_int i_pa_nil)) (i_var (pv 2))) (i_pa_cons (c_add b.hX (i_slice b.hX.K (i_var (pv 6)) o_none (o_some (c_neg i_int))) (i_tup (i_pa_cons i_bl i_pa_nil))) i_pa_nil))))))))))
    (s_cons (s_expr (c_extend b.hX (i_var (pv 7)) (i_pa_cons (i_lc (own := [("one", 11)]) b.calm b.nd (w_seq b.hX.K (i_lst (i_pa_cons i_int (i_pa_cons (c_neg i_int) (i_pa_cons i_int (i_pa_cons (c_neg i_int) (i_pa_cons i_non (i_pa_cons i_str (i_pa_cons (i_tup (i_pa_cons i_int (i_pa_cons i_int i_pa_nil))) i_pa_nil))))))))) (blkOk_by (by rfl)) (fun _ _ _ _ _ => (g_name (i := 11) b.blk.nd)) (fun _ _ _ _ _ => t_yes) (fun _ _ _ _ _ => (c_add b.blk.hX (i_slice b.blk.hX.K (i_var (pv 6)) o_none (o_some (c_neg i_int))) (i_tup (i_pa_cons (i_var (pv 11)) i_pa_nil)))) (by decide)) i_pa_nil)))
    (s_cons (s_for PassesOwn.leaving b.calm (w_seq b.hX.K (i_var (pv 7))) (g_name (i := 8) b.nd) (s_cons (s_set (i := 9) b.nd (c_call b (s__law_take T) (g__law_take T) (kp__law_take T) (i_pa_cons (i_var (pv 0)) (i_pa_cons (c_add b.hX (c_len b.hX (g_len T) (i_pa_cons (i_var (pv 3)) i_pa_nil)) i_int) i_pa_nil))))
    (s_cons (s_expr (c_append b.hX (i_var (pv 5)) (i_pa_cons (i_tup (i_pa_cons (i_var (pv 2)) (i_pa_cons (c_add b.hX (c_add b.hX (i_slice b.hX.K (i_var (pv 3)) o_none (o_some (i_var (pv 9)))) (i_tup (i_pa_cons (i_var (pv 8)) i_pa_nil))) (i_slice b.hX.K (i_var (pv 3)) (o_some (i_var (pv 9))) o_none)) (i_pa_cons (i_var (pv 4)) i_pa_nil)))) i_pa_nil)))
    (s_cons (s_expr (c_append b.hX (i_var (pv 5)) (i_pa_cons (i_tup (i_pa_cons (i_var (pv 2)) (i_pa_cons (c_add b.hX (c_add b.hX (i_slice b.hX.K (i_var (pv 3)) o_none (o_some (i_var (pv 9)))) (i_tup (i_pa_cons (i_var (pv 8)) (i_pa_cons i_non i_pa_nil)))) (i_slice b.hX.K (i_var (pv 3)) (o_some (c_add b.hX (i_var (pv 9)) i_int)) o_none)) (i_pa_cons (i_tup (i_pa_cons i_non i_pa_nil)) i_pa_nil)))) i_pa_nil)))
    (s_cons (s_set (i := 10) b.nd (c_call b (s__law_one T) (g__law_one T) (kp__law_one T) (i_pa_cons (i_var (pv 0)) (i_pa_cons (i_lst (i_pa_cons (i_tup (i_pa_cons (i_var (pv 8)) (i_pa_cons (i_var (pv 6)) (i_pa_cons i_str i_pa_nil)))) (i_pa_cons (i_tup (i_pa_cons (i_var (pv 6)) (i_pa_cons (i_var (pv 8)) (i_pa_cons i_str i_pa_nil)))) i_pa_nil))) i_pa_nil))))
    (s_cons (s_set (i := 9) b.nd (c_call b (s__law_take T) (g__law_take T) (kp__law_take T) (i_pa_cons (i_var (pv 0)) (i_pa_cons (c_add b.hX (c_len b.hX (g_len T) (i_pa_cons (i_var (pv 4)) i_pa_nil)) i_int) i_pa_nil))))
    (s_one (s_expr (c_append b.hX (i_var (pv 5)) (i_pa_cons (i_tup (i_pa_cons (i_var (pv 2)) (i_pa_cons (i_var (pv 3)) (i_pa_cons (c_add b.hX (c_add b.hX (i_slice b.hX.K (i_var (pv 4)) o_none (o_some (i_var (pv 9)))) (i_tup (i_pa_cons (i_var (pv 10)) i_pa_nil))) (i_slice b.hX.K (i_var (pv 4)) (o_some (i_var (pv 9))) o_none)) i_pa_nil)))) i_pa_nil))))))))))
    (s_cons (s_for PassesOwn.leaving b.calm (w_seq b.hX.K (i_lst (i_pa_cons (i_tup (i_pa_cons (i_var (pv 6)) (i_pa_cons (i_var (pv 6)) i_pa_nil))) (i_pa_cons (i_tup (i_pa_cons (i_var (pv 6)) (i_pa_cons (i_var (pv 6)) (i_pa_cons i_str i_pa_nil)))) (i_pa_cons (i_tup (i_pa_cons (i_var (pv 6)) (i_pa_cons (i_var (pv 6)) (i_pa_cons i_non i_pa_nil)))) (i_pa_cons i_non (i_pa_cons i_str i_pa_nil))))))) (g_name (i := 8) b.nd) (s_cons (s_set (i := 9) b.nd (c_call b (s__law_take T) (g__law_take T) (kp__law_take T) (i_pa_cons (i_var (pv 0)) (i_pa_cons (c_add b.hX (c_len b.hX (g_len T) (i_pa_cons (i_var (pv 4)) i_pa_nil)) i_int) i_pa_nil))))
    (s_one (s_expr (c_append b.hX (i_var (pv 5)) (i_pa_cons (i_tup (i_pa_cons (i_var (pv 2)) (i_pa_cons (i_var (pv 3)) (i_pa_cons (c_add b.hX (c_add b.hX (i_slice b.hX.K (i_var (pv 4)) o_none (o_some (i_var (pv 9)))) (i_tup (i_pa_cons (i_var (pv 8)) (i_pa_cons i_int i_pa_nil)))) (i_slice b.hX.K (i_var (pv 4)) (o_some (i_var (pv 9))) o_none)) i_pa_nil)))) i_pa_nil))))))
    (s_cons (s_expr (c_append b.hX (i_var (pv 5)) (i_pa_cons (i_tup (i_pa_cons (i_var (pv 2)) (i_pa_cons (i_var (pv 3)) (i_pa_cons (c_add b.hX (i_var (pv 4)) (i_tup (i_pa_cons (i_lst (i_pa_cons (i_var (pv 6)) (i_pa_cons (i_var (pv 6)) (i_pa_cons i_str i_pa_nil)))) i_pa_nil))) i_pa_nil)))) i_pa_nil)))
    (s_cons (s_expr (c_append b.hX (i_var (pv 5)) (i_pa_cons (i_tup (i_pa_cons (i_var (pv 2)) (i_pa_cons (i_var (pv 3)) (i_pa_cons (c_add b.hX (i_var (pv 4)) (i_tup (i_pa_cons (i_tup (i_pa_cons (i_var (pv 6)) (i_pa_cons (i_var (pv 6)) (i_pa_cons i_str (i_pa_cons i_int i_pa_nil))))) i_pa_nil))) i_pa_nil)))) i_pa_nil)))
    (s_one (s_ret (c_add b.hX (i_var (pv 5)) (i_lst (i_pa_cons (c_call b (s__law_wb_bent T 12) (g__law_wb_bent T) (kp__law_wb_bent T) (i_pa_cons (i_var (pv 0)) (i_pa_cons (i_var (pv 1)) i_pa_nil))) (i_pa_cons (c_call b (s__law_wb_bent T 12) (g__law_wb_bent T) (kp__law_wb_bent T) (i_pa_cons (i_var (pv 0)) (i_pa_cons (c_call b (s__law_wb_bent T 12) (g__law_wb_bent T) (kp__law_wb_bent T) (i_pa_cons (i_var (pv 0)) (i_pa_cons (i_var (pv 1)) i_pa_nil))) i_pa_nil))) i_pa_nil))))))))))))))))))
def m_many : S → OS :=
  (seqS (ifS (notE (callE (callV d_whole) [(varE 0), (varE 1), (varE 2)])) (raiseS "BadMany" (varE 0)) nextS)
  (retS (varE 0)))
theorem sc_many : FnScope ["thing", "low", "high"] ["thing", "low", "high"] (defScope (top 10)) := ⟨rfl, rfl, rfl, by decide +kernel, rfl, by decide +kernel, by decide +kernel⟩
def d_many (as : List Ar) : RD := runD 3 3 m_many as
set_option maxHeartbeats 0 in
theorem s_many (T : Txt c) : FnS c 5 (He.ga c.K "many") d_many := by
  obtain ⟨fd, F⟩ := F_many T
  exact fun_sh (N := ["thing", "low", "high"]) (ps := ["thing", "low", "high"]) (k := 4) (G := m_many) F sc_many (F.bindsN fun _ _ _ _ _ _ us hl => match us, hl with | [_, _, _], _ => rfl) fun cdv A outer s H Fz io E hcd b hM =>
    (s_cons (s_if (t_not (i_test (c_call b (s_whole T) (g_whole T) (kp_whole T) (i_pa_cons (i_var (pv 0)) (i_pa_cons (i_var (pv 1)) (i_pa_cons (i_var (pv 2)) i_pa_nil)))))) (s_one (s_raise b.hX b.calm (T.cls.one _ _ (by decide) (g_BadMany T)) T.ini (b.room.mono (by decide)) b.tk (g_BadMany T) (i_var (pv 0)))) s_nil)
    (s_one (s_ret (i_var (pv 0)))))
def m_asked_n : S → OS :=
  (retS (callE (callV d_many) [(varE 0), (cE (.int 1)), k_MOST_QUANTITIES]))
theorem sc_asked_n : FnScope ["n"] ["n"] (defScope (top 11)) := ⟨rfl, rfl, rfl, by decide +kernel, rfl, by decide +kernel, by decide +kernel⟩
def d_asked_n (as : List Ar) : RD := runD 1 1 m_asked_n as
set_option maxHeartbeats 0 in
theorem s_asked_n (T : Txt c) : FnS c 6 (He.ga c.K "asked_n") d_asked_n := by
  obtain ⟨fd, F⟩ := F_asked_n T
  exact fun_sh (N := ["n"]) (ps := ["n"]) (k := 5) (G := m_asked_n) F sc_asked_n (F.bindsN fun _ _ _ _ _ _ us hl => match us, hl with | [_], _ => rfl) fun cdv A outer s H Fz io E hcd b hM =>
    (s_one (s_ret (c_call b (s_many T) (g_many T) (kp_many T) (i_pa_cons (i_var (pv 0)) (i_pa_cons i_int (i_pa_cons (i_globI b.hX T.k_MOST_QUANTITIES) i_pa_nil))))))
def m_made_ties : S → OS :=
  (seqS (dropS (callE (callV d_asked_n) [(varE 0)]))
  (seqS (ifS (notE (callE isiV [(varE 1), (cE (.ty "tuple"))])) (raiseS "BadTies" (un1 negV (cE (.int 1)))) nextS)
  (seqS (ifS (bin2 gtV (callE lenV [(varE 1)]) k_MOST_TIES) (raiseS "TooMany" (callE lenV [(varE 1)])) nextS)
  (seqS (setS 2 (callE (callV d_first_odd_tie) [(varE 0), (varE 1)]))
  (seqS (ifS (bin2 (isNV true) (varE 2) (cE .non)) (raiseS "BadTies" (varE 2)) nextS)
  (retS (varE 1)))))))
theorem sc_made_ties : FnScope ["n", "thing", "wrong"] ["n", "thing"] (defScope (top 21)) := ⟨rfl, rfl, rfl, by decide +kernel, rfl, by decide +kernel, by decide +kernel⟩
def d_made_ties (as : List Ar) : RD := runD 2 3 m_made_ties as
set_option maxHeartbeats 0 in
theorem s_made_ties (T : Txt c) : FnS c 7 (He.ga c.K "made_ties") d_made_ties := by
  obtain ⟨fd, F⟩ := F_made_ties T
  exact fun_sh (N := ["n", "thing", "wrong"]) (ps := ["n", "thing"]) (k := 6) (G := m_made_ties) F sc_made_ties (F.bindsN fun _ _ _ _ _ _ us hl => match us, hl with | [_, _], _ => rfl) fun cdv A outer s H Fz io E hcd b hM =>
    (s_cons (s_expr (c_call b (s_asked_n T) (g_asked_n T) (kp_asked_n T) (i_pa_cons (i_var (pv 0)) i_pa_nil)))
    (s_cons (s_if (t_not (i_test (c_isi b.hX (g_isinstance T) (i_pa_cons (i_var (pv 1)) (i_pa_cons (i_kind b.hX (g_tuple T) (by rfl)) i_pa_nil))))) (s_one (s_raise b.hX b.calm (T.cls.one _ _ (by decide) (g_BadTies T)) T.ini (b.room.mono (by decide)) b.tk (g_BadTies T) (c_neg i_int))) s_nil)
    (s_cons (s_if (q_gt (c_len b.hX (g_len T) (i_pa_cons (i_var (pv 1)) i_pa_nil)) (i_globI b.hX T.k_MOST_TIES)) (s_one (s_raise b.hX b.calm (T.cls.one _ _ (by decide) (g_TooMany T)) T.ini (b.room.mono (by decide)) b.tk (g_TooMany T) (c_len b.hX (g_len T) (i_pa_cons (i_var (pv 1)) i_pa_nil)))) s_nil)
    (s_cons (s_set (i := 2) b.nd (c_call b (s_first_odd_tie T) (g_first_odd_tie T) (kp_first_odd_tie T) (i_pa_cons (i_var (pv 0)) (i_pa_cons (i_var (pv 1)) i_pa_nil))))
    (s_cons (s_if (q_isnot (i_var (pv 2)) i_non) (s_one (s_raise b.hX b.calm (T.cls.one _ _ (by decide) (g_BadTies T)) T.ini (b.room.mono (by decide)) b.tk (g_BadTies T) (i_var (pv 2)))) s_nil)
    (s_one (s_ret (i_var (pv 1)))))))))
def m__law_a1_ties_right : S → OS :=
  (seqS (setS 2 (callE (callV d__law_wb_ties_fault) [(varE 0), (varE 1)]))
  (seqS (setS 3 (ifE (bin2 (isNV false) (varE 2) (cE .non)) (tupE [(cE (.str "told")), (varE 1)]) (ifE (callE isiV [(varE 2), (cE (.ty "tuple"))]) (varE 2) (tupE [(cE (.str "BadTies")), (varE 2)]))))
  (retS (callE (callV d__law_wb_same) [(lamE d__law_a1_heard [0, 1] (callE (callV d_made_ties) [(varE 0), (varE 1)]) []), (varE 3)]))))
theorem sc__law_a1_ties_right : FnScope ["n", "thing", "fault", "owed"] ["n", "thing"] (defScope (top 45)) := ⟨rfl, rfl, rfl, by decide +kernel, rfl, by decide +kernel, by decide +kernel⟩
def d__law_a1_ties_right (as : List Ar) : RD := runD 2 4 m__law_a1_ties_right as
set_option maxHeartbeats 0 in
theorem s__law_a1_ties_right (T : Txt c) : FnS c 62 (He.ga c.K "_law_a1_ties_right") d__law_a1_ties_right := by
  obtain ⟨fd, F⟩ := F__law_a1_ties_right T
  exact fun_sh (N := ["n", "thing", "fault", "owed"]) (ps := ["n", "thing"]) (k := 61) (G := m__law_a1_ties_right) F sc__law_a1_ties_right (F.bindsN fun _ _ _ _ _ _ us hl => match us, hl with | [_, _], _ => rfl) fun cdv A outer s H Fz io E hcd b hM =>
    (s_cons (s_set (i := 2) b.nd (c_call b (s__law_wb_ties_fault T) (g__law_wb_ties_fault T) (kp__law_wb_ties_fault T) (i_pa_cons (i_var (pv 0)) (i_pa_cons (i_var (pv 1)) i_pa_nil))))
    (s_cons (s_set (i := 3) b.nd (i_ifx (q_is (i_var (pv 2)) i_non) (i_tup (i_pa_cons i_str (i_pa_cons (i_var (pv 1)) i_pa_nil))) (i_ifx (i_test (c_isi b.hX (g_isinstance T) (i_pa_cons (i_var (pv 2)) (i_pa_cons (i_kind b.hX (g_tuple T) (by rfl)) i_pa_nil)))) (i_var (pv 2)) (i_tup (i_pa_cons i_str (i_pa_cons (i_var (pv 2)) i_pa_nil))))))
    (s_one (s_ret (c_call b (s__law_wb_same T) (g__law_wb_same T) (kp__law_wb_same T) (i_pa_cons (i_lam (caps := [0, 1]) b.hX (fun _ => rfl) (s__law_a1_heard T) (g__law_a1_heard T) (b.room.mono (by decide)) b.tk (T.tb ("_law_a1_ties_right", none) (by decide +kernel)) (hcd rfl) (T.inT ("_law_a1_ties_right", none) (by decide +kernel)) (T.uniq ("_law_a1_ties_right", none) (by decide +kernel)) (LamX.lamS_by (by rfl)) (fun A outer s H F E f c' hr tk => have bl : Bd c ⟨s, H, outer, F, [], none⟩ (WD E) _ 59 := b.lam hr tk; (c_call bl (s_made_ties T) (g_made_ties T) (kp_made_ties T) (i_pa_cons (i_var (pv 0)) (i_pa_cons (i_var (pv 1)) i_pa_nil)))) i_pa_nil (hk := kp__law_a1_heard T)) (i_pa_cons (i_var (pv 3)) i_pa_nil)))))))
def m__law_pool : S → OS :=
  (seqS (asgS (tupT 2 (consT (nameT 1) (consT (nameT 2) nilT))) (tupE [(cE (.int 0)), (cE (.int 7))]))
  (seqS (forS (itA rng1V [(callE lenV [(varE 0)])]) (nameT 3) (seqS (setS 4 (callE toIntV [(callE maxV [(bin2 ixV (varE 0) (varE 3)), (bin2 subV (un1 negV (cE (.int 1))) (bin2 ixV (varE 0) (varE 3)))])]))
  (seqS (setS 2 (bin2 modV (callE toIntV [(bin2 addV (bin2 addV (bin2 mulV (varE 2) (cE (.int 48271))) (bin2 modV (varE 4) (cE (.int 2147483629)))) (cE (.int 11)))]) (cE (.int 2147483647))))
  (setS 1 (ifE (andE (bin2 geV (varE 4) (bin2 powV (cE (.int 10)) (cE (.int 12)))) (bin2 ltV (varE 1) (bin2 powV (cE (.int 10)) (cE (.int 60))))) (callE toIntV [(bin2 addV (bin2 mulV (varE 1) (bin2 powV (cE (.int 10)) (cE (.int 60)))) (bin2 modV (varE 4) (bin2 powV (cE (.int 10)) (cE (.int 60)))))]) (varE 1))))))
  (retS (lstE [(varE 1), (varE 2), (cE (.int 0))]))))
theorem sc__law_pool : FnScope ["script", "digits", "stirred", "at", "cell"] ["script"] (defScope (top 29)) := ⟨rfl, rfl, rfl, by decide +kernel, rfl, by decide +kernel, by decide +kernel⟩
def d__law_pool (as : List Ar) : RD := runD 1 5 m__law_pool as
set_option maxHeartbeats 0 in
theorem s__law_pool (T : Txt c) : FnS c 1 (He.ga c.K "_law_pool") d__law_pool := by
  obtain ⟨fd, F⟩ := F__law_pool T
  exact fun_sh (N := ["script", "digits", "stirred", "at", "cell"]) (ps := ["script"]) (k := 0) (G := m__law_pool) F sc__law_pool (F.bindsN fun _ _ _ _ _ _ us hl => match us, hl with | [_], _ => rfl) fun cdv A outer s H Fz io E hcd b hM =>
    (s_cons (s_asg (i_tup (i_pa_cons i_int (i_pa_cons i_int i_pa_nil))) (g_tup b.hX.K b.calm (g_cons (g_name (i := 1) b.nd) (g_cons (g_name (i := 2) b.nd) g_nil))))
    (s_cons (s_for PassesOwn.leaving b.calm (w_rng1 (hm := (by rw [(b.hX).mg]; exact g_range T)) (ha := (i_pa_cons (c_len b.hX (g_len T) (i_pa_cons (i_var (pv 0)) i_pa_nil)) i_pa_nil))) (g_name (i := 3) b.nd) (s_cons (s_set (i := 4) b.nd (c_int b.hX (g_int T) (i_pa_cons (c_max b.calm b.hX (g_max T) (i_pa_cons (c_ix b.hX (i_var (pv 0)) (i_var (pv 3))) (i_pa_cons (c_sub b.hX (c_neg i_int) (c_ix b.hX (i_var (pv 0)) (i_var (pv 3)))) i_pa_nil))) i_pa_nil)))
    (s_cons (s_set (i := 2) b.nd (c_mod b.hX (c_int b.hX (g_int T) (i_pa_cons (c_add b.hX (c_add b.hX (c_mul b.hX (i_var (pv 2)) i_int) (c_mod b.hX (i_var (pv 4)) i_int)) i_int) i_pa_nil)) i_int))
    (s_one (s_set (i := 1) b.nd (i_ifx (w_and (q_ge (i_var (pv 4)) (c_pow b.hX i_int i_int)) (w_and1 (q_lt (i_var (pv 1)) (c_pow b.hX i_int i_int)))).pt (c_int b.hX (g_int T) (i_pa_cons (c_add b.hX (c_mul b.hX (i_var (pv 1)) (c_pow b.hX i_int i_int)) (c_mod b.hX (i_var (pv 4)) (c_pow b.hX i_int i_int))) i_pa_nil)) (i_var (pv 1))))))))
    (s_one (s_ret (i_lst (i_pa_cons (i_var (pv 1)) (i_pa_cons (i_var (pv 2)) (i_pa_cons i_int i_pa_nil))))))))
def m__law_wb_sum : S → OS :=
  (retS (callE tupleV [(compE (itA rng1V [(varE 1)]) (nameT 2) (cE (.bl true)) (callE (callV d__law_one) [(varE 0), (lstE [(cE (.int 0)), (cE (.int 0)), (cE (.int 1)), (un1 negV (cE (.int 1))), (cE (.int 2)), (cE (.int 1000)), (un1 negV (cE (.int 1000))), (bin2 subV (callE (callV d__law_take) [(varE 0), (cE (.int 2001))]) (cE (.int 1000)))])]) [2])]))
theorem sc__law_wb_sum : FnScope ["jar", "n", "i"] ["jar", "n"] (defScope (top 39)) := ⟨rfl, rfl, rfl, by decide +kernel, rfl, by decide +kernel, by decide +kernel⟩
def d__law_wb_sum (as : List Ar) : RD := runD 2 3 m__law_wb_sum as
set_option maxHeartbeats 0 in
theorem s__law_wb_sum (T : Txt c) : FnS c 3 (He.ga c.K "_law_wb_sum") d__law_wb_sum := by
  obtain ⟨fd, F⟩ := F__law_wb_sum T
  exact fun_sh (N := ["jar", "n", "i"]) (ps := ["jar", "n"]) (k := 2) (G := m__law_wb_sum) F sc__law_wb_sum (F.bindsN fun _ _ _ _ _ _ us hl => match us, hl with | [_, _], _ => rfl) fun cdv A outer s H Fz io E hcd b hM =>
    (s_one (s_ret (c_tuple b.hX (g_tuple T) (i_pa_cons (i_lc (own := [("i", 2)]) b.calm b.nd (w_rng1 (hm := (by rw [(b.hX).mg]; exact g_range T)) (ha := (i_pa_cons (i_var (pv 1)) i_pa_nil))) (blkOk_by (by rfl)) (fun _ _ _ _ _ => (g_name (i := 2) b.blk.nd)) (fun _ _ _ _ _ => t_yes) (fun _ _ _ _ _ => (c_call b.blk (s__law_one T) (g__law_one T) (kp__law_one T) (i_pa_cons (i_var (pv 0)) (i_pa_cons (i_lst (i_pa_cons i_int (i_pa_cons i_int (i_pa_cons i_int (i_pa_cons (c_neg i_int) (i_pa_cons i_int (i_pa_cons i_int (i_pa_cons (c_neg i_int) (i_pa_cons (c_sub b.blk.hX (c_call b.blk (s__law_take T) (g__law_take T) (kp__law_take T) (i_pa_cons (i_var (pv 0)) (i_pa_cons i_int i_pa_nil))) i_int) i_pa_nil))))))))) i_pa_nil)))) (by decide)) i_pa_nil))))
def m__law_wb_world : S → OS :=
  (seqS (setS 2 (callE (callV d__law_one) [(varE 0), (lstE [(cE (.int 1)), (cE (.int 1)), (cE (.int 2)), (cE (.int 2)), (cE (.int 3)), (cE (.int 4)), (varE 1)])]))
  (seqS (setS 3 (callE tupleV [(compE (itA rng1V [(callE (callV d__law_take) [(varE 0), (cE (.int 4))])]) (nameT 5) (cE (.bl true)) (callE (callV d__law_wb_sum) [(varE 0), (varE 2)]) [5])]))
  (seqS (setS 4 (lstE []))
  (seqS (forS (itA rng1V [(callE (callV d__law_take) [(varE 0), (cE (.int 5))])]) (nameT 5) (seqS (setS 6 (lstE [(callE (callV d__law_wb_sum) [(varE 0), (varE 2)]), (callE (callV d__law_wb_sum) [(varE 0), (varE 2)])]))
  (seqS (forS (itE (lstE [(cE (.int 0)), (cE (.int 1))])) (nameT 7) (ifS (bin2 (eqV false) (compE (itE (bin2 ixV (varE 6) (varE 7))) (nameT 9) (bin2 (eqV true) (varE 9) (cE (.int 0))) (varE 9) [9]) (lstE [])) (seqS (setS 8 (callE (callV d__law_take) [(varE 0), (varE 2)]))
  (setIxS (varE 6) (varE 7) (callE tupleV [(compE (itA rng1V [(varE 2)]) (nameT 10) (cE (.bl true)) (callE toIntV [(bin2 (eqV false) (varE 10) (varE 8))]) [10])]))) nextS))
  (dropS (methE "list" appV (varE 4) [(tupE [(bin2 ixV (varE 6) (cE (.int 0))), (bin2 ixV (varE 6) (cE (.int 1))), (callE (callV d__law_one) [(varE 0), (lstE [(cE (.str "firm")), (cE (.str "firm")), (cE (.str "firm")), (cE (.str "open"))])])])])))))
  (retS (tupE [(varE 2), (varE 3), (callE tupleV [(varE 4)])]))))))
theorem sc__law_wb_world : FnScope ["jar", "most_now", "n", "rows_now", "ties_now", "go", "sides_now", "side", "at", "x", "i"] ["jar", "most_now"] (defScope (top 40)) := ⟨rfl, rfl, rfl, by decide +kernel, rfl, by decide +kernel, by decide +kernel⟩
def d__law_wb_world (as : List Ar) : RD := runD 2 11 m__law_wb_world as
set_option maxHeartbeats 0 in
theorem s__law_wb_world (T : Txt c) : FnS c 4 (He.ga c.K "_law_wb_world") d__law_wb_world := by
  obtain ⟨fd, F⟩ := F__law_wb_world T
  exact fun_sh (N := ["jar", "most_now", "n", "rows_now", "ties_now", "go", "sides_now", "side", "at", "x", "i"]) (ps := ["jar", "most_now"]) (k := 3) (G := m__law_wb_world) F sc__law_wb_world (F.bindsN fun _ _ _ _ _ _ us hl => match us, hl with | [_, _], _ => rfl) fun cdv A outer s H Fz io E hcd b hM =>
    (s_cons (s_set (i := 2) b.nd (c_call b (s__law_one T) (g__law_one T) (kp__law_one T) (i_pa_cons (i_var (pv 0)) (i_pa_cons (i_lst (i_pa_cons i_int (i_pa_cons i_int (i_pa_cons i_int (i_pa_cons i_int (i_pa_cons i_int (i_pa_cons i_int (i_pa_cons (i_var (pv 1)) i_pa_nil)))))))) i_pa_nil))))
    (s_cons (s_set (i := 3) b.nd (c_tuple b.hX (g_tuple T) (i_pa_cons (i_lc (own := [("go", 5)]) b.calm b.nd (w_rng1 (hm := (by rw [(b.hX).mg]; exact g_range T)) (ha := (i_pa_cons (c_call b (s__law_take T) (g__law_take T) (kp__law_take T) (i_pa_cons (i_var (pv 0)) (i_pa_cons i_int i_pa_nil))) i_pa_nil))) (blkOk_by (by rfl)) (fun _ _ _ _ _ => (g_name (i := 5) b.blk.nd)) (fun _ _ _ _ _ => t_yes) (fun _ _ _ _ _ => (c_call b.blk (s__law_wb_sum T) (g__law_wb_sum T) (kp__law_wb_sum T) (i_pa_cons (i_var (pv 0)) (i_pa_cons (i_var (pv 2)) i_pa_nil)))) (by decide)) i_pa_nil)))
    (s_cons (s_set (i := 4) b.nd (i_lst i_pa_nil))
    (s_cons (s_for PassesOwn.leaving b.calm (w_rng1 (hm := (by rw [(b.hX).mg]; exact g_range T)) (ha := (i_pa_cons (c_call b (s__law_take T) (g__law_take T) (kp__law_take T) (i_pa_cons (i_var (pv 0)) (i_pa_cons i_int i_pa_nil))) i_pa_nil))) (g_name (i := 5) b.nd) (s_cons (s_set (i := 6) b.nd (i_lst (i_pa_cons (c_call b (s__law_wb_sum T) (g__law_wb_sum T) (kp__law_wb_sum T) (i_pa_cons (i_var (pv 0)) (i_pa_cons (i_var (pv 2)) i_pa_nil))) (i_pa_cons (c_call b (s__law_wb_sum T) (g__law_wb_sum T) (kp__law_wb_sum T) (i_pa_cons (i_var (pv 0)) (i_pa_cons (i_var (pv 2)) i_pa_nil))) i_pa_nil))))
    (s_cons (s_for PassesOwn.leaving b.calm (w_seq b.hX.K (i_lst (i_pa_cons i_int (i_pa_cons i_int i_pa_nil)))) (g_name (i := 7) b.nd) (s_one (s_if (q_eq b.room.units b.hX (i_lc (own := [("x", 9)]) b.calm b.nd (w_seq b.hX.K (c_ix b.hX (i_var (pv 6)) (i_var (pv 7)))) (blkOk_by (by rfl)) (fun _ _ _ _ _ => (g_name (i := 9) b.blk.nd)) (fun _ _ _ _ _ => t_one (q_ne b.blk.room.units b.blk.hX (i_var (pv 9)) i_int)) (fun _ _ _ _ _ => (i_var (pv 9))) (by decide)) (i_lst i_pa_nil)) (s_cons (s_set (i := 8) b.nd (c_call b (s__law_take T) (g__law_take T) (kp__law_take T) (i_pa_cons (i_var (pv 0)) (i_pa_cons (i_var (pv 2)) i_pa_nil))))
    (s_one (s_sub (i_var (pv 6)) (i_var (pv 7)) (c_tuple b.hX (g_tuple T) (i_pa_cons (i_lc (own := [("i", 10)]) b.calm b.nd (w_rng1 (hm := (by rw [(b.hX).mg]; exact g_range T)) (ha := (i_pa_cons (i_var (pv 2)) i_pa_nil))) (blkOk_by (by rfl)) (fun _ _ _ _ _ => (g_name (i := 10) b.blk.nd)) (fun _ _ _ _ _ => t_yes) (fun _ _ _ _ _ => (c_int b.blk.hX (g_int T) (i_pa_cons (c_eq b.blk.room.units b.blk.hX (i_var (pv 10)) (i_var (pv 8))) i_pa_nil))) (by decide)) i_pa_nil))))) s_nil)))
    (s_one (s_expr (c_append b.hX (i_var (pv 4)) (i_pa_cons (i_tup (i_pa_cons (c_ix b.hX (i_var (pv 6)) i_int) (i_pa_cons (c_ix b.hX (i_var (pv 6)) i_int) (i_pa_cons (c_call b (s__law_one T) (g__law_one T) (kp__law_one T) (i_pa_cons (i_var (pv 0)) (i_pa_cons (i_lst (i_pa_cons i_str (i_pa_cons i_str (i_pa_cons i_str (i_pa_cons i_str i_pa_nil))))) i_pa_nil))) i_pa_nil)))) i_pa_nil)))))))
    (s_one (s_ret (i_tup (i_pa_cons (i_var (pv 2)) (i_pa_cons (i_var (pv 3)) (i_pa_cons (c_tuple b.hX (g_tuple T) (i_pa_cons (i_var (pv 4)) i_pa_nil)) i_pa_nil))))))))))
def m_law : S → OS :=
  (seqS (setS 1 (callE (callV d__law_pool) [(varE 0)]))
  (seqS (forS (itA rng1V [(cE (.int 4))]) (nameT 2) (seqS (setS 3 (callE (callV d__law_wb_world) [(varE 1), (cE (.int 8))]))
  (seqS (forS (itE (callE (callV d__law_a1_things) [(varE 1), (varE 3)])) (nameT 4) (seqS (ifS (notE (callE (callV d__law_a1_right) [(varE 4)])) (retS (cE (.bl false))) nextS)
  (seqS (setS 5 (ifE (andE (callE isiV [(varE 4), (cE (.ty "tuple"))]) (bin2 (eqV false) (callE lenV [(varE 4)]) (cE (.int 3)))) (bin2 ixV (varE 4) (cE (.int 2))) (varE 4)))
  (ifS (notE (callE (callV d__law_a1_ties_right) [(bin2 ixV (varE 3) (cE (.int 0))), (varE 5)])) (retS (cE (.bl false))) nextS))))
  (forS (itE (lstE [(cE (.int 0)), (cE (.int 41)), (un1 negV (cE (.int 1))), (cE (.bl true)), (cE .non), (cE (.str "1")), (tupE [(cE (.int 1))]), (bin2 powV (cE (.int 10)) (cE (.int 20)))])) (nameT 6) (ifS (notE (callE (callV d__law_wb_same) [(lamE d__law_a1_heard [6] (callE (callV d_made_ties) [(varE 6), (cE .non)]) []), (tupE [(cE (.str "BadMany")), (varE 6)])])) (retS (cE (.bl false))) nextS)))))
  (seqS (forS (itE (callE (callV d__law_a1_hand) [])) (tupT 2 (consT (nameT 4) (consT (nameT 7) nilT))) (ifS (orE (bin2 (eqV true) (callE (callV d__law_wb_world_fault) [(varE 4)]) (varE 7)) (notE (callE (callV d__law_a1_right) [(varE 4)]))) (retS (cE (.bl false))) nextS))
  (retS (cE (.bl true))))))
theorem sc_law : FnScope ["script", "jar", "go", "world", "thing", "ties_now", "odd", "fault"] ["script"] (defScope (top 47)) := ⟨rfl, rfl, rfl, by decide +kernel, rfl, by decide +kernel, by decide +kernel⟩
def d_law (as : List Ar) : RD := runD 1 8 m_law as
set_option maxHeartbeats 0 in
theorem s_law (T : Txt c) {fd : FuncData} (F : L2.FunD c.K "law" "law" (defArgs (top 47)) (defBody (top 47)) (defScope (top 47)) [] [] (He.ga c.K "law") fd) : FnOk c.P c.w c.K c.mg c.base (L2N.CX c.P c.w) 63 (He.ga c.K "law") fd ["script"] (spL c.T c.K 8 m_law) :=
  fnOk_law (N := ["script", "jar", "go", "world", "thing", "ties_now", "odd", "fault"]) (k := 62) (G := m_law) F sc_law fun cdv A outer s H Fz io E hcd b hM =>
    (s_cons (s_set (i := 1) b.nd (c_call b (s__law_pool T) (g__law_pool T) (kp__law_pool T) (i_pa_cons (i_var (pv 0)) i_pa_nil)))
    (s_cons (s_for PassesOwn.leaving b.calm (w_rng1 (hm := (by rw [(b.hX).mg]; exact g_range T)) (ha := (i_pa_cons i_int i_pa_nil))) (g_name (i := 2) b.nd) (s_cons (s_set (i := 3) b.nd (c_call b (s__law_wb_world T) (g__law_wb_world T) (kp__law_wb_world T) (i_pa_cons (i_var (pv 1)) (i_pa_cons i_int i_pa_nil))))
    (s_cons (s_for PassesOwn.leaving b.calm (w_seq b.hX.K (c_call b (s__law_a1_things T) (g__law_a1_things T) (kp__law_a1_things T) (i_pa_cons (i_var (pv 1)) (i_pa_cons (i_var (pv 3)) i_pa_nil)))) (g_name (i := 4) b.nd) (s_cons (s_if (t_not (i_test (c_call b (s__law_a1_right T) (g__law_a1_right T) (kp__law_a1_right T) (i_pa_cons (i_var (pv 4)) i_pa_nil)))) (s_one (s_ret i_bl)) s_nil)
    (s_cons (s_set (i := 5) b.nd (i_ifx (w_and (i_test (c_isi b.hX (g_isinstance T) (i_pa_cons (i_var (pv 4)) (i_pa_cons (i_kind b.hX (g_tuple T) (by rfl)) i_pa_nil)))) (w_and1 (q_eq b.room.units b.hX (c_len b.hX (g_len T) (i_pa_cons (i_var (pv 4)) i_pa_nil)) i_int))).pt (c_ix b.hX (i_var (pv 4)) i_int) (i_var (pv 4))))
    (s_one (s_if (t_not (i_test (c_call b (s__law_a1_ties_right T) (g__law_a1_ties_right T) (kp__law_a1_ties_right T) (i_pa_cons (c_ix b.hX (i_var (pv 3)) i_int) (i_pa_cons (i_var (pv 5)) i_pa_nil))))) (s_one (s_ret i_bl)) s_nil)))))
    (s_one (s_for PassesOwn.leaving b.calm (w_seq b.hX.K (i_lst (i_pa_cons i_int (i_pa_cons i_int (i_pa_cons (c_neg i_int) (i_pa_cons i_bl (i_pa_cons i_non (i_pa_cons i_str (i_pa_cons (i_tup (i_pa_cons i_int i_pa_nil)) (i_pa_cons (c_pow b.hX i_int i_int) i_pa_nil)))))))))) (g_name (i := 6) b.nd) (s_one (s_if (t_not (i_test (c_call b (s__law_wb_same T) (g__law_wb_same T) (kp__law_wb_same T) (i_pa_cons (i_lam (caps := [6]) b.hX (fun _ => rfl) (s__law_a1_heard T) (g__law_a1_heard T) (b.room.mono (by decide)) b.tk (T.tb ("law", none) (by decide +kernel)) (hcd rfl) (T.inT ("law", none) (by decide +kernel)) (T.uniq ("law", none) (by decide +kernel)) (LamX.lamS_by (by rfl)) (fun A outer s H F E f c' hr tk => have bl : Bd c ⟨s, H, outer, F, [], none⟩ (WD E) _ 59 := b.lam hr tk; (c_call bl (s_made_ties T) (g_made_ties T) (kp_made_ties T) (i_pa_cons (i_var (pv 6)) (i_pa_cons i_non i_pa_nil)))) i_pa_nil (hk := kp__law_a1_heard T)) (i_pa_cons (i_tup (i_pa_cons i_str (i_pa_cons (i_var (pv 6)) i_pa_nil))) i_pa_nil))))) (s_one (s_ret i_bl)) s_nil)))))))
    (s_cons (s_for PassesOwn.leaving b.calm (w_seq b.hX.K (i_call0 b.hX (s__law_a1_hand T) (g__law_a1_hand T) (b.room.mono (by decide)) b.tk (kp__law_a1_hand T))) (g_tup b.hX.K b.calm (g_cons (g_name (i := 4) b.nd) (g_cons (g_name (i := 7) b.nd) g_nil))) (s_one (s_if (w_or (q_ne b.room.units b.hX (c_call b (s__law_wb_world_fault T) (g__law_wb_world_fault T) (kp__law_wb_world_fault T) (i_pa_cons (i_var (pv 4)) i_pa_nil)) (i_var (pv 7))) (w_or1 (t_not (i_test (c_call b (s__law_a1_right T) (g__law_a1_right T) (kp__law_a1_right T) (i_pa_cons (i_var (pv 4)) i_pa_nil)))))).pt (s_one (s_ret i_bl)) s_nil)))
    (s_one (s_ret i_bl)))))
theorem tab_glo : ∀ nm ∈ tab.map (·.1), nm ∈ glos := by decide +kernel
end
end Law
end
section
set_option Elab.async false
set_option linter.all false
set_option maxRecDepth 100000
set_option maxHeartbeats 4000000
namespace Law
open PySem PySem.Spec PyProof.Rows Sh
open L2 hiding St
def Plain : Prop := ∀ ns : List Int, ns.length ≤ 63 → (∀ z ∈ ns, Builtin.Int.intBits z ≤ 1048576) → ∀ y, (y = D.lst (ns.map D.int) ∨ y = D.klst (ns.map D.int)) → ∃ cs, runD 1 8 m_law [.d y] = .ok (.d (.bl true)) cs
def TT (K : PySem.W.Frag) : List (Addr × Str) := tf.map fun x => ((He.cT K x).2, (x.1 ++ ".<locals>.") ++ "<lambda>")
theorem sc_ini : FnScope ["self", "what"] ["self", "what"] (defScope (inClass (top 1) 0)) := ⟨rfl, rfl, rfl, by decide +kernel, rfl, by decide +kernel, by decide +kernel⟩
theorem ini_ok {c : Cn} (d : He.SaysD fa fn c.K) (hx : iniB c.K (fI c.K) = true) (hm : c.mg "ValueError" = none) : IniOk c (fI c.K) := by
  obtain ⟨h1, h2⟩ := iniB_ok hx
  have hF : ∃ fd, L2.FunD c.K "__init__" "Refused.__init__" (defArgs (inClass (top 1) 0)) (defBody (inClass (top 1) 0)) (defScope (inClass (top 1) 0)) [] [] (fI c.K) fd := d.def_ 29 rfl
  obtain ⟨fd, F⟩ := hF
  refine ⟨⟨fd, ?_, F.bindsN fun _ _ _ _ _ _ us hl => match us, hl with | [_, _], _ => rfl⟩, h1⟩
  exact F.ok (N := ["self", "what"]) sc_ini spI_len fun cdv A outer s H vs Q E hr h => ⟨_, pss_cons (ps_expr (pe_veinit rfl hm h2 (pa_cons (pv 0) (pa_cons (pv 1) pa_nil)))) (pss_one (ps_ost (pv 0) (pv 1))), ini_pure h⟩
theorem txt_of {P : Program} {w : World} {K : PySem.W.Frag} {mg : Str → Option Value} {base h : Heap} (X : K.In h) (G : h.Ns mainGlobals mg) (d : He.SaysD fa fn K) (ex : exA K = true) (tb : ∀ x, x ∈ tf → LamX.TabB base mg (He.cT K x).1 (He.cT K x).2) : Txt ⟨P, w, K, mg, base, fun k => (glos[k]?).map (He.ga K), TT K⟩ := by
  unfold exA at ex
  simp only [Bool.and_eq_true] at ex
  have glo : ∀ x, x ∈ glos → mg x = some (.ref (He.ga K x)) := fun x hx => He.glo_ok X G (d.facts (f := .glo x) (List.mem_append_left _ (List.mem_map.mpr ⟨x, hx, rfl⟩)))
  have fre : ∀ x, x ∈ fres → mg x = none := fun x hx => He.free_ok X G (d.facts (f := .free x) (List.mem_append_right _ (List.mem_map.mpr ⟨x, hx, rfl⟩)))
  have ex_cls := ex.1.1.1.1.1.1.1.1.1.1.1
  have ex_ini := ex.1.1.1.1.1.1.1.1.1.1.2
  have ex_uniq := ex.1.1.1.1.1.1.1.1.1.2
  have ex_MOST_QUANTITIES := ex.1.1.1.1.1.1.1.1.2
  have ex_MOST_ENTRY := ex.1.1.1.1.1.1.1.2
  have ex_FIRM := ex.1.1.1.1.1.1.2
  have ex_OPEN := ex.1.1.1.1.1.2
  have ex_MANNERS := ex.1.1.1.1.2
  have ex_MOST_TIES := ex.1.1.1.2
  have ex_TIE_PARTS := ex.1.1.2
  have ex_MOST_EQUATIONS := ex.1.2
  have ex_WORLD_PARTS := ex.2
  refine { d := d, mgG := fun x h => He.glo_ok X G h, mgF := fun x h => He.free_ok X G h, cls := cls_of ex_cls (fun nm hn => glo nm (tab_glo nm hn)), ini := ini_ok d ex_ini (fre _ (by decide +kernel)), G_ok := fun k x h => by show (glos[k]?).map (He.ga K) = _; rw [h]; rfl, tb := tb, inT := fun x hx => List.mem_map.mpr ⟨x, hx, rfl⟩, uniq := uniq_ok ex_uniq, k_MOST_QUANTITIES := He.int_ok X G ex_MOST_QUANTITIES, k_MOST_ENTRY := He.int_ok X G ex_MOST_ENTRY, k_FIRM := He.str_ok X G ex_FIRM, k_OPEN := He.str_ok X G ex_OPEN, k_MANNERS := ⟨PySem.W.mg_of X G (He.eqO_ok ex_MANNERS.1), rfl, fun F H => .tup (He.tupB_ok ex_MANNERS.2 H) (by exact .cons .str (.cons .str (.nil)))⟩, k_MOST_TIES := He.int_ok X G ex_MOST_TIES, k_TIE_PARTS := He.int_ok X G ex_TIE_PARTS, k_MOST_EQUATIONS := He.int_ok X G ex_MOST_EQUATIONS, k_WORLD_PARTS := He.int_ok X G ex_WORLD_PARTS }
end Law
open PySem PySem.W PySem.Calls PyProof.Rows in
set_option maxHeartbeats 0 in
theorem Law.ends (plain : Law.Plain) : PySem.Challenge.rw_anystrength_k01_worlds_by_form.Holds := by
  refine Law.head ?_
  refine LamX.walk_ofTsE (l := PySem.Challenge.rw_anystrength_k01_worlds_by_form) (n := 63) (k := 63) (x := "script") (CX := fun w => L2N.CX (PySem.Challenge.rw_anystrength_k01_worlds_by_form).prog w) rfl (by decide) (by kernel_rfl) ⟨rfl, by decide, by decide⟩ ?F ?C
  case C =>
    intro w H s e s' z
    obtain ⟨_, _, _, _, _, _, _, _, _, _, _, _, z⟩ := z
    exact z
  case F =>
    intro w mg fa h Y G hmg0
    obtain ⟨K, KX, sx⟩ := Y
    have hmg : mg ("law" : PySem.Str) = some (.ref fa) := by
      have e : (HandSHeadRun.topDef (OpenLaw.row PySem.Challenge.rw_anystrength_k01_worlds_by_form).prog 47).name = ("law" : PySem.Str) := by kernel_rfl
      rw [← e]
      exact hmg0
    have d := sx.t.d
    have hF : ∃ fd, L2.FunD K "law" "law" (L2.defArgs (Law.top 47)) (L2.defBody (Law.top 47)) (L2.defScope (Law.top 47)) [] [] (He.ga K "law") fd := d.def_ 28 rfl
    obtain ⟨fd, F⟩ := hF
    have efa := hmg.symm.trans (He.glo_ok KX G (d.facts (f := .glo "law") (List.mem_append_left _ (List.mem_map.mpr ⟨_, by decide +kernel, rfl⟩))))
    cases efa
    refine ⟨K, KX, fd, Law.tf.map (He.cT K), Sh.spL (Law.TT K) K 8 Law.m_law, fun p hp => ?_, fun p hp => ?_, fun p hp => ?_, fun s u => L2.FunD.bindsA (ps := ["script"]) F (fun _ _ _ _ _ _ us hl => match us, hl with | [_], _ => rfl) s [u] rfl, fun H a ns hl hb hT hS => ⟨a, ns, rfl, fun p hp => ?_, hS, fun _ => rfl, plain ns hl hb⟩, fun base hK hG hTB => ?_⟩
    · obtain ⟨x, hx, rfl⟩ := List.mem_map.mp hp
      exact sx.empty x hx
    · obtain ⟨x, hx, rfl⟩ := List.mem_map.mp hp
      exact sx.out x hx
    · obtain ⟨x, hx, rfl⟩ := List.mem_map.mp hp
      exact codeHd_of_K KX (sx.hd x hx)
    · obtain ⟨x, hx, rfl⟩ := List.mem_map.mp hp
      exact LamX.TabS.nil (hT _ (List.mem_map.mpr ⟨x, hx, rfl⟩))
    · exact Law.s_law (c := ⟨_, w, K, mg, base, fun k => (Law.glos[k]?).map (He.ga K), Law.TT K⟩) (Law.txt_of KX G d sx.more fun x hx => hTB _ (List.mem_map.mpr ⟨x, hx, rfl⟩)) F
end
section
set_option Elab.async false
set_option linter.all false
set_option maxRecDepth 100000
set_option maxHeartbeats 4000000
namespace Law
open PySem Sh
def isP : D → Bool
  | .obj _ => false
  | .ty _ => false
  | _ => true
def isI : D → Bool
  | .int _ => true
  | _ => false
mutual
def Pl : D → Bool
  | .obj _ => false
  | .ty _ => false
  | .klst _ => false
  | .str s => PyData.strOk s
  | .tup xs => Pls xs
  | .lst xs => Pls xs
  | .non => true
  | .bl _ => true
  | .int _ => true
def Pls : List D → Bool
  | [] => true
  | x :: xs => Pl x && Pls xs
end
theorem Pl.P {x : D} (h : Pl x = true) : isP x = true := by
  cases x <;> first | rfl | (simp [Pl] at h)
mutual
theorem Pl.wf : ∀ {x : D}, Pl x = true → Sh.wf x = true
  | .non, _ => rfl
  | .bl _, _ => rfl
  | .int _, _ => rfl
  | .str s, h => by simpa [Pl, Sh.wf] using h
  | .tup xs, h => by simp only [Sh.wf]; exact Pls.wf (by simpa [Pl] using h)
  | .lst xs, h => by simp only [Sh.wf]; exact Pls.wf (by simpa [Pl] using h)
  | .klst xs, h => by simp [Pl] at h
  | .obj _, h => by simp [Pl] at h
  | .ty _, h => by simp [Pl] at h
theorem Pls.wf : ∀ {xs : List D}, Pls xs = true → wfs xs = true
  | [], _ => rfl
  | x :: r, h => by
    have h : Pl x = true ∧ Pls r = true := by simpa [Pls] using h
    simp [wfs, Pl.wf h.1, Pls.wf h.2]
end
theorem okD_of {x : D} (h : Pl x = true) (d : dep x ≤ 60) : okD x = true := by
  unfold okD
  rw [Pl.wf h, Bool.true_and]; exact decide_eq_true d
theorem whole_ok {x : D} (h : isP x = true) : d__law_wb_is_whole [.d x] = .ok (.d (.bl (isI x))) [] := by
  cases x <;> first | rfl | cases h
/-- a whole number, no truth, of these bounds -/
def inB (lo hi : Int) : D → Bool
  | .int i => decide (lo ≤ i) && decide (i ≤ hi)
  | _ => false
theorem dwhole_ok {x : D} {lo hi : Int} (h : isP x = true) : d_whole [.d x, .d (.int lo), .d (.int hi)] = .ok (.d (.bl (inB lo hi x))) [] := by
  cases x with
  | int i =>
    rw [d_whole]
    unfold m_whole
    simp only [e_par, e_parK, e_asg, toD_d, e_nameT, e_consT, e_nilT, Option.bind_some, n_nx, n_ct, n_bk, n_ret, e_for, e_itE, e_itA, e_meth, ty_s, e_run1, e_run2, e_run3, e_run4, s_d1, s_d2, s_od, s_oo, s_o1, s_odd, s_t1, s_td, ic_d, ic_o, ic_t, ic_nil, e_argD, e_argDD, List.replicate, Nat.reduceSub, List.length_cons, List.length_nil, bind_ok, bind_exc, bind_bad, e_seq, th_nx, th_ret, th_exc, th_bk, th_ct, e_set, e_setK, e_ret, e_retK, e_drop, e_dropK, e_retN, e_next, e_brk, e_cnt, e_if, e_ifE, e_and, e_or, e_not, onB_t, onB_f, onB_b, e_var, e_varK, e_c, e_bin, e_un, e_call, e_nil, e_cons, e_tup, e_tupK, e_lst, e_lstK, e_newLst, toDs_nil, toDs_d, Option.map_some, e_callV, e_callVT, ar_nil, ar_cons, ar_d, ar_t, e_argKT, af_d, af_new, af_exc, up_nil, up_cons, end_ret, end_exc, end_nx, out_d, v_add, v_sub, v_neg, v_lt, v_le, v_gt, v_ge, v_eqI, v_neI, v_gcd, v_abs, v_max, v_int, v_lenT, v_lenL, List.getElem?_cons_zero, List.getElem?_cons_succ, List.set_cons_zero, List.set_cons_succ, List.take_zero, List.take_nil, Bool.false_eq_true, if_false, if_true, eq_self, decide_true, decide_false, Bool.not_true, Bool.not_false, Nat.reduceAdd, Nat.reduceLeDiff, Nat.reduceLT, List.nil_append, List.cons_append, i_non_int, i_non_bool, i_non_str, i_non_tuple, i_non_list, i_bl_int, i_bl_bool, i_bl_str, i_bl_tuple, i_bl_list, n_is_bl, n_no_bl, i_int_int, i_int_bool, i_int_str, i_int_tuple, i_int_list, n_is_int, n_no_int, i_str_int, i_str_bool, i_str_str, i_str_tuple, i_str_list, n_is_str, n_no_str, i_tup_int, i_tup_bool, i_tup_str, i_tup_tuple, i_tup_list, n_is_tup, n_no_tup, i_lst_int, i_lst_bool, i_lst_str, i_lst_tuple, i_lst_list, n_is_lst, n_no_lst, n_is_non, n_no_non, s_d3, s_d4, e_argD3, e_chain, v_toB, v_ix0, v_ix1, v_ix2, e_raise, e_raiseK, inB]
    cases decide (lo ≤ i) <;> simp only [e_par, e_parK, e_asg, toD_d, e_nameT, e_consT, e_nilT, Option.bind_some, n_nx, n_ct, n_bk, n_ret, e_for, e_itE, e_itA, e_meth, ty_s, e_run1, e_run2, e_run3, e_run4, s_d1, s_d2, s_od, s_oo, s_o1, s_odd, s_t1, s_td, ic_d, ic_o, ic_t, ic_nil, e_argD, e_argDD, List.replicate, Nat.reduceSub, List.length_cons, List.length_nil, bind_ok, bind_exc, bind_bad, e_seq, th_nx, th_ret, th_exc, th_bk, th_ct, e_set, e_setK, e_ret, e_retK, e_drop, e_dropK, e_retN, e_next, e_brk, e_cnt, e_if, e_ifE, e_and, e_or, e_not, onB_t, onB_f, onB_b, e_var, e_varK, e_c, e_bin, e_un, e_call, e_nil, e_cons, e_tup, e_tupK, e_lst, e_lstK, e_newLst, toDs_nil, toDs_d, Option.map_some, e_callV, e_callVT, ar_nil, ar_cons, ar_d, ar_t, e_argKT, af_d, af_new, af_exc, up_nil, up_cons, end_ret, end_exc, end_nx, out_d, v_add, v_sub, v_neg, v_lt, v_le, v_gt, v_ge, v_eqI, v_neI, v_gcd, v_abs, v_max, v_int, v_lenT, v_lenL, List.getElem?_cons_zero, List.getElem?_cons_succ, List.set_cons_zero, List.set_cons_succ, List.take_zero, List.take_nil, Bool.false_eq_true, if_false, if_true, eq_self, decide_true, decide_false, Bool.not_true, Bool.not_false, Nat.reduceAdd, Nat.reduceLeDiff, Nat.reduceLT, List.nil_append, List.cons_append, i_non_int, i_non_bool, i_non_str, i_non_tuple, i_non_list, i_bl_int, i_bl_bool, i_bl_str, i_bl_tuple, i_bl_list, n_is_bl, n_no_bl, i_int_int, i_int_bool, i_int_str, i_int_tuple, i_int_list, n_is_int, n_no_int, i_str_int, i_str_bool, i_str_str, i_str_tuple, i_str_list, n_is_str, n_no_str, i_tup_int, i_tup_bool, i_tup_str, i_tup_tuple, i_tup_list, n_is_tup, n_no_tup, i_lst_int, i_lst_bool, i_lst_str, i_lst_tuple, i_lst_list, n_is_lst, n_no_lst, n_is_non, n_no_non, s_d3, s_d4, e_argD3, e_chain, v_toB, v_ix0, v_ix1, v_ix2, e_raise, e_raiseK, if_true, if_false, Bool.false_eq_true, Bool.true_and, Bool.false_and] <;> rfl
  | bl b => rfl
  | non => rfl
  | str s => rfl
  | tup s => rfl
  | lst s => rfl
  | klst s => rfl
  | obj s => cases h
  | ty s => cases h
theorem isin_ok {x : D} {lo hi : Int} (h : isP x = true) : d__law_wb_is_in [.d x, .d (.int lo), .d (.int hi)] = .ok (.d (.bl (inB lo hi x))) [] := by
  cases x with
  | int i =>
    rw [d__law_wb_is_in]
    unfold m__law_wb_is_in
    have q := whole_ok (x := .int i) rfl
    simp only [e_par, e_parK, e_asg, toD_d, e_nameT, e_consT, e_nilT, Option.bind_some, n_nx, n_ct, n_bk, n_ret, e_for, e_itE, e_itA, e_meth, ty_s, e_run1, e_run2, e_run3, e_run4, s_d1, s_d2, s_od, s_oo, s_o1, s_odd, s_t1, s_td, ic_d, ic_o, ic_t, ic_nil, e_argD, e_argDD, List.replicate, Nat.reduceSub, List.length_cons, List.length_nil, bind_ok, bind_exc, bind_bad, e_seq, th_nx, th_ret, th_exc, th_bk, th_ct, e_set, e_setK, e_ret, e_retK, e_drop, e_dropK, e_retN, e_next, e_brk, e_cnt, e_if, e_ifE, e_and, e_or, e_not, onB_t, onB_f, onB_b, e_var, e_varK, e_c, e_bin, e_un, e_call, e_nil, e_cons, e_tup, e_tupK, e_lst, e_lstK, e_newLst, toDs_nil, toDs_d, Option.map_some, e_callV, e_callVT, ar_nil, ar_cons, ar_d, ar_t, e_argKT, af_d, af_new, af_exc, up_nil, up_cons, end_ret, end_exc, end_nx, out_d, v_add, v_sub, v_neg, v_lt, v_le, v_gt, v_ge, v_eqI, v_neI, v_gcd, v_abs, v_max, v_int, v_lenT, v_lenL, List.getElem?_cons_zero, List.getElem?_cons_succ, List.set_cons_zero, List.set_cons_succ, List.take_zero, List.take_nil, Bool.false_eq_true, if_false, if_true, eq_self, decide_true, decide_false, Bool.not_true, Bool.not_false, Nat.reduceAdd, Nat.reduceLeDiff, Nat.reduceLT, List.nil_append, List.cons_append, i_non_int, i_non_bool, i_non_str, i_non_tuple, i_non_list, i_bl_int, i_bl_bool, i_bl_str, i_bl_tuple, i_bl_list, n_is_bl, n_no_bl, i_int_int, i_int_bool, i_int_str, i_int_tuple, i_int_list, n_is_int, n_no_int, i_str_int, i_str_bool, i_str_str, i_str_tuple, i_str_list, n_is_str, n_no_str, i_tup_int, i_tup_bool, i_tup_str, i_tup_tuple, i_tup_list, n_is_tup, n_no_tup, i_lst_int, i_lst_bool, i_lst_str, i_lst_tuple, i_lst_list, n_is_lst, n_no_lst, n_is_non, n_no_non, s_d3, s_d4, e_argD3, e_chain, v_toB, v_ix0, v_ix1, v_ix2, e_raise, e_raiseK, inB, q, isI]
    cases decide (lo ≤ i) <;> simp only [e_par, e_parK, e_asg, toD_d, e_nameT, e_consT, e_nilT, Option.bind_some, n_nx, n_ct, n_bk, n_ret, e_for, e_itE, e_itA, e_meth, ty_s, e_run1, e_run2, e_run3, e_run4, s_d1, s_d2, s_od, s_oo, s_o1, s_odd, s_t1, s_td, ic_d, ic_o, ic_t, ic_nil, e_argD, e_argDD, List.replicate, Nat.reduceSub, List.length_cons, List.length_nil, bind_ok, bind_exc, bind_bad, e_seq, th_nx, th_ret, th_exc, th_bk, th_ct, e_set, e_setK, e_ret, e_retK, e_drop, e_dropK, e_retN, e_next, e_brk, e_cnt, e_if, e_ifE, e_and, e_or, e_not, onB_t, onB_f, onB_b, e_var, e_varK, e_c, e_bin, e_un, e_call, e_nil, e_cons, e_tup, e_tupK, e_lst, e_lstK, e_newLst, toDs_nil, toDs_d, Option.map_some, e_callV, e_callVT, ar_nil, ar_cons, ar_d, ar_t, e_argKT, af_d, af_new, af_exc, up_nil, up_cons, end_ret, end_exc, end_nx, out_d, v_add, v_sub, v_neg, v_lt, v_le, v_gt, v_ge, v_eqI, v_neI, v_gcd, v_abs, v_max, v_int, v_lenT, v_lenL, List.getElem?_cons_zero, List.getElem?_cons_succ, List.set_cons_zero, List.set_cons_succ, List.take_zero, List.take_nil, Bool.false_eq_true, if_false, if_true, eq_self, decide_true, decide_false, Bool.not_true, Bool.not_false, Nat.reduceAdd, Nat.reduceLeDiff, Nat.reduceLT, List.nil_append, List.cons_append, i_non_int, i_non_bool, i_non_str, i_non_tuple, i_non_list, i_bl_int, i_bl_bool, i_bl_str, i_bl_tuple, i_bl_list, n_is_bl, n_no_bl, i_int_int, i_int_bool, i_int_str, i_int_tuple, i_int_list, n_is_int, n_no_int, i_str_int, i_str_bool, i_str_str, i_str_tuple, i_str_list, n_is_str, n_no_str, i_tup_int, i_tup_bool, i_tup_str, i_tup_tuple, i_tup_list, n_is_tup, n_no_tup, i_lst_int, i_lst_bool, i_lst_str, i_lst_tuple, i_lst_list, n_is_lst, n_no_lst, n_is_non, n_no_non, s_d3, s_d4, e_argD3, e_chain, v_toB, v_ix0, v_ix1, v_ix2, e_raise, e_raiseK, if_true, if_false, Bool.false_eq_true, Bool.true_and, Bool.false_and] <;> rfl
  | bl b => rfl
  | non => rfl
  | str s => rfl
  | tup s => rfl
  | lst s => rfl
  | klst s => rfl
  | obj s => cases h
  | ty s => cases h
end Law
end
section
set_option Elab.async false
set_option linter.all false
set_option maxRecDepth 100000
set_option maxHeartbeats 4000000
namespace Law
open PySem Sh
/-! ### same(x, x) -/
def pairs (zs : List D) : List D := zs.map fun y => .tup [y, y]
def kids : D → List D
  | .tup ys => ys
  | .lst ys => ys
  | _ => []
def Gd (y : D) : Prop := Pl y = true ∧ dep y ≤ 50
def sTest : S → OE := bin2 (eqV true) (varE 2) (lstE [])
def sPop : S → OS := asgS (tupT 2 (consT (nameT 3) (consT (nameT 4) nilT))) (methE "list" popV (varE 2) [])
def sMid : S → OS := (ifS (bin2 (isNV false) (varE 4) (cE .non)) (setS 5 (bin2 (isNV false) (varE 3) (cE .non))) (ifS (callE isiV [(varE 4), (cE (.ty "bool"))]) (setS 5 (andE (callE isiV [(varE 3), (cE (.ty "bool"))]) (bin2 (eqV false) (varE 3) (varE 4)))) (ifS (callE isiV [(varE 4), (cE (.ty "int"))]) (setS 5 (andE (callE (callV d__law_wb_is_whole) [(varE 3)]) (bin2 (eqV false) (varE 3) (varE 4)))) (ifS (callE isiV [(varE 4), (cE (.ty "str"))]) (setS 5 (andE (callE isiV [(varE 3), (cE (.ty "str"))]) (bin2 (eqV false) (varE 3) (varE 4)))) (seqS (setS 5 (ifE (callE isiV [(varE 4), (cE (.ty "tuple"))]) (callE isiV [(varE 3), (cE (.ty "tuple"))]) (callE isiV [(varE 3), (cE (.ty "list"))])))
  (seqS (setS 5 (andE (varE 5) (bin2 (eqV false) (callE lenV [(varE 3)]) (callE lenV [(varE 4)]))))
  (dropS (methE "list" extV (varE 2) [(ifE (varE 5) (compE (itA rng1V [(callE lenV [(varE 4)])]) (nameT 6) (cE (.bl true)) (tupE [(bin2 ixV (varE 3) (varE 6)), (bin2 ixV (varE 4) (varE 6))]) [6]) (lstE []))]))))))))
def sEnd : S → OS := ifS (notE (varE 5)) (retS (cE (.bl false))) nextS
def sBody : S → OS := seqS sPop (seqS sMid sEnd)
theorem same_is (fu : Nat) : m__law_wb_same fu = seqS (setS 2 (lstE [(tupE [(varE 0), (varE 1)])])) (seqS (whileS sTest sBody fu) (retS (cE (.bl true)))) := rfl
theorem deps_le {zs : List D} {n : Nat} (h : ∀ y ∈ zs, dep y ≤ n) : deps zs ≤ n := by
  induction zs with
  | nil => exact Nat.zero_le _
  | cons x r ih =>
    have h1 := h x List.mem_cons_self
    have h2 := ih fun y hy => h y (List.mem_cons_of_mem _ hy)
    simp only [deps]; omega
theorem dep_mem {zs : List D} {y : D} (h : y ∈ zs) : dep y ≤ deps zs := by
  induction zs with
  | nil => cases h
  | cons x r ih =>
    simp only [deps]
    rcases List.mem_cons.mp h with rfl | h
    · omega
    · have := ih h; omega
theorem Pls_mem {zs : List D} (h : Pls zs = true) : ∀ y ∈ zs, Pl y = true := by
  induction zs with
  | nil => intro y hy; cases hy
  | cons x r ih =>
    have h : Pl x = true ∧ Pls r = true := by simpa [Pls] using h
    intro y hy
    rcases List.mem_cons.mp hy with rfl | hy
    · exact h.1
    · exact ih h.2 y hy
theorem Pls_of {zs : List D} (h : ∀ y ∈ zs, Pl y = true) : Pls zs = true := by
  induction zs with
  | nil => rfl
  | cons x r ih =>
    rw [Pls, h x List.mem_cons_self, ih fun y hy => h y (List.mem_cons_of_mem _ hy)]; rfl
theorem pairs_ok {zs : List D} (h : ∀ y ∈ zs, Gd y) : okD (.lst (pairs zs)) = true := by
  unfold okD
  rw [Bool.and_eq_true, decide_eq_true_eq]
  refine ⟨?_, ?_⟩
  · simp only [Sh.wf]
    refine Pls.wf (Pls_of fun y hy => ?_)
    obtain ⟨z, hz, rfl⟩ := List.mem_map.mp hy
    simp [Pl, Pls, (h z hz).1]
  · have : deps (pairs zs) ≤ 51 := deps_le fun y hy => by
      obtain ⟨z, hz, rfl⟩ := List.mem_map.mp hy
      have := (h z hz).2
      simp only [dep, deps]; omega
    simp only [dep]; omega
theorem s_test {zs : List D} {k : Nat} {h o s3 s4 s5 s6 : Option Val} {cs : List Cell} (hc : cs[k]? = some (.own (pairs zs))) (hz : ∀ y ∈ zs, Gd y) :
    sTest ⟨[h, o, some (.c k), s3, s4, s5, s6], cs⟩ = .ok (.d (.bl (!zs.isEmpty))) ⟨[h, o, some (.c k), s3, s4, s5, s6], cs ++ [.own []]⟩ := by
  have hk : k < cs.length := (List.getElem?_eq_some_iff.mp hc).1
  have e1 : (cs ++ [Cell.own []])[k]? = some (.own (pairs zs)) := by rw [List.getElem?_append_left hk]; exact hc
  have e2 : (cs ++ [Cell.own []])[cs.length]? = some (.own []) := by rw [List.getElem?_append_right (Nat.le_refl _), Nat.sub_self]; rfl
  unfold sTest
  simp only [e_par, e_parK, e_asg, toD_d, e_nameT, e_consT, e_nilT, Option.bind_some, n_nx, n_ct, n_bk, n_ret, e_for, e_itE, e_itA, e_meth, ty_s, e_run1, e_run2, e_run3, e_run4, s_d1, s_d2, s_od, s_oo, s_o1, s_odd, s_t1, s_td, ic_d, ic_o, ic_t, ic_nil, e_argD, e_argDD, List.replicate, Nat.reduceSub, List.length_cons, List.length_nil, bind_ok, bind_exc, bind_bad, e_seq, th_nx, th_ret, th_exc, th_bk, th_ct, e_set, e_setK, e_ret, e_retK, e_drop, e_dropK, e_retN, e_next, e_brk, e_cnt, e_if, e_ifE, e_and, e_or, e_not, onB_t, onB_f, onB_b, e_var, e_varK, e_c, e_bin, e_un, e_call, e_nil, e_cons, e_tup, e_tupK, e_lst, e_lstK, e_newLst, toDs_nil, toDs_d, Option.map_some, e_callV, e_callVT, ar_nil, ar_cons, ar_d, ar_t, e_argKT, af_d, af_new, af_exc, up_nil, up_cons, end_ret, end_exc, end_nx, out_d, v_add, v_sub, v_neg, v_lt, v_le, v_gt, v_ge, v_eqI, v_neI, v_gcd, v_abs, v_max, v_int, v_lenT, v_lenL, List.getElem?_cons_zero, List.getElem?_cons_succ, List.set_cons_zero, List.set_cons_succ, List.take_zero, List.take_nil, Bool.false_eq_true, if_false, if_true, eq_self, decide_true, decide_false, Bool.not_true, Bool.not_false, Nat.reduceAdd, Nat.reduceLeDiff, Nat.reduceLT, List.nil_append, List.cons_append]
  rw [v_eq (dOf_c e1) (dOf_c e2) (pairs_ok hz) rfl]
  cases zs <;> rfl
theorem s_pop {zs : List D} {x : D} {k : Nat} {h o s3 s4 s5 s6 : Option Val} {cs : List Cell} (hc : cs[k]? = some (.own (pairs (zs ++ [x])))) :
    sPop ⟨[h, o, some (.c k), s3, s4, s5, s6], cs⟩ = .ok .nx ⟨[h, o, some (.c k), some (.d x), some (.d x), s5, s6], cs.set k (.own (pairs zs))⟩ := by
  have hc2 : cs[k]? = some (.own (pairs zs ++ [.tup [x, x]])) := by rw [hc]; simp [pairs]
  unfold sPop
  simp only [e_par, e_parK, e_asg, toD_d, e_nameT, e_consT, e_nilT, Option.bind_some, n_nx, n_ct, n_bk, n_ret, e_for, e_itE, e_itA, e_meth, ty_s, e_run1, e_run2, e_run3, e_run4, s_d1, s_d2, s_od, s_oo, s_o1, s_odd, s_t1, s_td, ic_d, ic_o, ic_t, ic_nil, e_argD, e_argDD, List.replicate, Nat.reduceSub, List.length_cons, List.length_nil, bind_ok, bind_exc, bind_bad, e_seq, th_nx, th_ret, th_exc, th_bk, th_ct, e_set, e_setK, e_ret, e_retK, e_drop, e_dropK, e_retN, e_next, e_brk, e_cnt, e_if, e_ifE, e_and, e_or, e_not, onB_t, onB_f, onB_b, e_var, e_varK, e_c, e_bin, e_un, e_call, e_nil, e_cons, e_tup, e_tupK, e_lst, e_lstK, e_newLst, toDs_nil, toDs_d, Option.map_some, e_callV, e_callVT, ar_nil, ar_cons, ar_d, ar_t, e_argKT, af_d, af_new, af_exc, up_nil, up_cons, end_ret, end_exc, end_nx, out_d, v_add, v_sub, v_neg, v_lt, v_le, v_gt, v_ge, v_eqI, v_neI, v_gcd, v_abs, v_max, v_int, v_lenT, v_lenL, List.getElem?_cons_zero, List.getElem?_cons_succ, List.set_cons_zero, List.set_cons_succ, List.take_zero, List.take_nil, Bool.false_eq_true, if_false, if_true, eq_self, decide_true, decide_false, Bool.not_true, Bool.not_false, Nat.reduceAdd, Nat.reduceLeDiff, Nat.reduceLT, List.nil_append, List.cons_append, ty_c, hc2, Option.isSome_some, v_pop hc2]
  rfl
theorem rng_get {n j : Nat} (h : j < n) : (rngL 0 n)[j]? = some (D.int j) := by
  unfold rngL
  rw [List.getElem?_map, List.getElem?_range h]
  simp
theorem rng_len {n : Nat} : (rngL 0 n).length = n := by unfold rngL; rw [List.length_map, List.length_range]
theorem rng_drop {n j : Nat} (h : j < n) : (rngL 0 n).drop j = .int j :: (rngL 0 n).drop (j + 1) := by
  have hl : j < (rngL 0 n).length := by rw [rng_len]; exact h
  rw [List.drop_eq_getElem_cons hl]
  congr 1
  have := rng_get h
  rw [List.getElem?_eq_getElem hl] at this
  exact Option.some.inj this
theorem rng_end {n : Nat} : (rngL 0 n).drop n = [] := by
  apply List.drop_eq_nil_of_le
  unfold rngL; rw [List.length_map, List.length_range]; exact Nat.le_refl _
theorem atI_nat {ys : List D} {j : Nat} (h : j < ys.length) : L2.atI ys (j : Int) = some ys[j] := by
  unfold L2.atI L2.ixN
  have h1 : (0 : Int) ≤ (j : Int) := by omega
  have h2 : (j : Int) < (ys.length : Int) := by omega
  simp [h1, h2, h]
theorem mk_pairs {ys : List D} (y0 : D) (hy : y0 = .tup ys ∨ y0 = .lst ys) (s0 s1 s2 s5 s6 : Option Val) (cs : List Cell) (all : List D) : ∀ (n j : Nat), j + n = ys.length →
    compL (nameT 6) (cE (.bl true)) (tupE [(bin2 ixV (varE 3) (varE 6)), (bin2 ixV (varE 4) (varE 6))]) [6] [s0, s1, s2, some (.d y0), some (.d y0), s5, s6] none all ((rngL 0 ys.length).drop j) ⟨[s0, s1, s2, some (.d y0), some (.d y0), s5, s6], cs⟩ = .ok (pairs (ys.drop j)) ⟨[s0, s1, s2, some (.d y0), some (.d y0), s5, s6], cs⟩
  | 0, j, h => by
    have e : j = ys.length := by omega
    subst e
    rw [rng_end, List.drop_eq_nil_of_le (Nat.le_refl _), c_nil gd_none]; rfl
  | n + 1, j, h => by
    have hj : j < ys.length := by omega
    have ih := mk_pairs y0 hy s0 s1 s2 s5 s6 cs all n (j + 1) (by omega)
    have ix : ∀ st, ixV (.d y0) (.d (.int j)) st = .ok (.d ys[j]) st := fun st => by
      rcases hy with rfl | rfl
      · exact Sh.v_ixT (atI_nat hj)
      · unfold ixV seqOf; simp only [atI_nat hj]
    rw [rng_drop hj, List.drop_eq_getElem_cons hj]
    rw [c_yes (v := .d (.tup [ys[j], ys[j]])) (st3 := ⟨[s0, s1, s2, some (.d y0), some (.d y0), s5, some (.d (.int j))], cs⟩) gd_none e_nameT (st2 := ⟨[s0, s1, s2, some (.d y0), some (.d y0), s5, some (.d (.int j))], cs⟩) (by simp only [wipeV, e_par, e_parK, e_asg, toD_d, e_nameT, e_consT, e_nilT, Option.bind_some, n_nx, n_ct, n_bk, n_ret, e_for, e_itE, e_itA, e_meth, ty_s, e_run1, e_run2, e_run3, e_run4, s_d1, s_d2, s_od, s_oo, s_o1, s_odd, s_t1, s_td, ic_d, ic_o, ic_t, ic_nil, e_argD, e_argDD, List.replicate, Nat.reduceSub, List.length_cons, List.length_nil, bind_ok, bind_exc, bind_bad, e_seq, th_nx, th_ret, th_exc, th_bk, th_ct, e_set, e_setK, e_ret, e_retK, e_drop, e_dropK, e_retN, e_next, e_brk, e_cnt, e_if, e_ifE, e_and, e_or, e_not, onB_t, onB_f, onB_b, e_var, e_varK, e_c, e_bin, e_un, e_call, e_nil, e_cons, e_tup, e_tupK, e_lst, e_lstK, e_newLst, toDs_nil, toDs_d, Option.map_some, e_callV, e_callVT, ar_nil, ar_cons, ar_d, ar_t, e_argKT, af_d, af_new, af_exc, up_nil, up_cons, end_ret, end_exc, end_nx, out_d, v_add, v_sub, v_neg, v_lt, v_le, v_gt, v_ge, v_eqI, v_neI, v_gcd, v_abs, v_max, v_int, v_lenT, v_lenL, List.getElem?_cons_zero, List.getElem?_cons_succ, List.set_cons_zero, List.set_cons_succ, List.take_zero, List.take_nil, Bool.false_eq_true, if_false, if_true, eq_self, decide_true, decide_false, Bool.not_true, Bool.not_false, Nat.reduceAdd, Nat.reduceLeDiff, Nat.reduceLT, List.nil_append, List.cons_append]) (by simp only [e_par, e_parK, e_asg, toD_d, e_nameT, e_consT, e_nilT, Option.bind_some, n_nx, n_ct, n_bk, n_ret, e_for, e_itE, e_itA, e_meth, ty_s, e_run1, e_run2, e_run3, e_run4, s_d1, s_d2, s_od, s_oo, s_o1, s_odd, s_t1, s_td, ic_d, ic_o, ic_t, ic_nil, e_argD, e_argDD, List.replicate, Nat.reduceSub, List.length_cons, List.length_nil, bind_ok, bind_exc, bind_bad, e_seq, th_nx, th_ret, th_exc, th_bk, th_ct, e_set, e_setK, e_ret, e_retK, e_drop, e_dropK, e_retN, e_next, e_brk, e_cnt, e_if, e_ifE, e_and, e_or, e_not, onB_t, onB_f, onB_b, e_var, e_varK, e_c, e_bin, e_un, e_call, e_nil, e_cons, e_tup, e_tupK, e_lst, e_lstK, e_newLst, toDs_nil, toDs_d, Option.map_some, e_callV, e_callVT, ar_nil, ar_cons, ar_d, ar_t, e_argKT, af_d, af_new, af_exc, up_nil, up_cons, end_ret, end_exc, end_nx, out_d, v_add, v_sub, v_neg, v_lt, v_le, v_gt, v_ge, v_eqI, v_neI, v_gcd, v_abs, v_max, v_int, v_lenT, v_lenL, List.getElem?_cons_zero, List.getElem?_cons_succ, List.set_cons_zero, List.set_cons_succ, List.take_zero, List.take_nil, Bool.false_eq_true, if_false, if_true, eq_self, decide_true, decide_false, Bool.not_true, Bool.not_false, Nat.reduceAdd, Nat.reduceLeDiff, Nat.reduceLT, List.nil_append, List.cons_append, ix]) toD_d]
    rw [ih, bind_ok]
    rfl
theorem take_set {cs : List Cell} {k : Nat} {cl : Cell} : (cs.set k cl).take k = cs.take k := by
  apply List.ext_getElem?
  intro i
  simp only [List.getElem?_take, List.getElem?_set]
  split
  · rw [if_neg (by omega)]
  · rfl
theorem take_app {cs ds : List Cell} {k : Nat} (h : k ≤ cs.length) : (cs ++ ds).take k = cs.take k := by
  rw [List.take_append_of_le_length h]
theorem bgl {n : Nat} (h : n ≤ 1000000) : bigI ((n : Nat) : Int) = true := by
  unfold bigI
  rw [Bool.and_eq_true, decide_eq_true_eq, decide_eq_true_eq]
  have : (2 : Int) ^ 62 = 4611686018427387904 := by decide
  constructor
  · omega
  · omega
theorem e_compK {it : S → IO} {gt : D → S → Option S} {t f : S → OE} {us : List Nat} {L : List D} {ck : Option Nat} {st st1 : S} (h : it st = .ok (L, ck) st1) (hl : L.length ≤ 1000000) : compE it gt t f us st = (compL gt t f us st1.v ck L L st1).bind newLst := by
  unfold compE
  rw [h]
  exact if_pos hl
theorem e_rngL {f : S → OE} {n : Nat} {st st1 : S} (h : f st = .ok (.d (.int n)) st1) (hb : bigI n = true) : itA rng1V [f] st = .ok (rngL 0 n, none) st1 := by
  rw [e_itA, e_cons, h, bind_ok, e_nil, bind_ok, bind_ok]; exact Sh.e_rng1 hb
theorem if_f {t : S → OE} {f g : S → OS} {st st1 : S} (h : t st = .ok (.d (.bl false)) st1) : ifS t f g st = g st1 := by
  rw [e_if, h, bind_ok]; rfl
theorem if_t {t : S → OE} {f g : S → OS} {st st1 : S} (h : t st = .ok (.d (.bl true)) st1) : ifS t f g st = f st1 := by
  rw [e_if, h, bind_ok]; rfl
theorem ifE_t {t f g : S → OE} {st st1 : S} (h : t st = .ok (.d (.bl true)) st1) : ifE t f g st = f st1 := by
  rw [e_ifE, h, bind_ok]; rfl
theorem seq_nx {f g : S → OS} {st st1 : S} (h : f st = .ok .nx st1) : seqS f g st = g st1 := by
  rw [e_seq, h]; rfl
theorem drop_m {g : Val → List Val → S → OE} {f fo : S → OE} {k : Nat} {v w : Val} {st st1 st2 st3 : S} (h : fo st = .ok (.c k) st1) (ht : (st1.c[k]?).isSome = true) (h2 : f st1 = .ok v st2) (h3 : g (.c k) [v] st2 = .ok w st3) : dropS (methE "list" g fo [f]) st = .ok .nx st3 := by
  rw [e_drop, e_meth, h, bind_ok, if_pos (by obtain ⟨vs, cs⟩ := st1; rw [ty_c]; exact ht), e_cons, h2, bind_ok, e_nil, bind_ok, bind_ok, h3, bind_ok]
  rfl
theorem s_comp {ys : List D} (y0 : D) (hy : y0 = .tup ys ∨ y0 = .lst ys) (s0 s1 s2 s5 s6 : Option Val) (cs : List Cell) (hl : ys.length ≤ 1000000) :
    compE (itA rng1V [(callE lenV [(varE 4)])]) (nameT 6) (cE (.bl true)) (tupE [(bin2 ixV (varE 3) (varE 6)), (bin2 ixV (varE 4) (varE 6))]) [6] ⟨[s0, s1, s2, some (.d y0), some (.d y0), s5, s6], cs⟩ =
      .ok (.c cs.length) ⟨[s0, s1, s2, some (.d y0), some (.d y0), s5, s6], cs ++ [.own (pairs ys)]⟩ := by
  have mk := mk_pairs y0 hy s0 s1 s2 s5 s6 cs (rngL 0 ys.length) ys.length 0 (by omega)
  rw [List.drop_zero, List.drop_zero] at mk
  have rl : (rngL 0 ys.length).length ≤ 1000000 := by rw [rng_len]; exact hl
  have ln : ∀ st, lenV [.d y0] st = .ok (.d (.int ys.length)) st := fun st => by
    rcases hy with rfl | rfl <;> rfl
  have e1 : itA rng1V [(callE lenV [(varE 4)])] ⟨[s0, s1, s2, some (.d y0), some (.d y0), s5, s6], cs⟩ = .ok (rngL 0 ys.length, none) ⟨[s0, s1, s2, some (.d y0), some (.d y0), s5, s6], cs⟩ :=
    e_rngL (by simp only [e_par, e_parK, e_asg, toD_d, e_nameT, e_consT, e_nilT, Option.bind_some, n_nx, n_ct, n_bk, n_ret, e_for, e_itE, e_itA, e_meth, ty_s, e_run1, e_run2, e_run3, e_run4, s_d1, s_d2, s_od, s_oo, s_o1, s_odd, s_t1, s_td, ic_d, ic_o, ic_t, ic_nil, e_argD, e_argDD, List.replicate, Nat.reduceSub, List.length_cons, List.length_nil, bind_ok, bind_exc, bind_bad, e_seq, th_nx, th_ret, th_exc, th_bk, th_ct, e_set, e_setK, e_ret, e_retK, e_drop, e_dropK, e_retN, e_next, e_brk, e_cnt, e_if, e_ifE, e_and, e_or, e_not, onB_t, onB_f, onB_b, e_var, e_varK, e_c, e_bin, e_un, e_call, e_nil, e_cons, e_tup, e_tupK, e_lst, e_lstK, e_newLst, toDs_nil, toDs_d, Option.map_some, e_callV, e_callVT, ar_nil, ar_cons, ar_d, ar_t, e_argKT, af_d, af_new, af_exc, up_nil, up_cons, end_ret, end_exc, end_nx, out_d, v_add, v_sub, v_neg, v_lt, v_le, v_gt, v_ge, v_eqI, v_neI, v_gcd, v_abs, v_max, v_int, v_lenT, v_lenL, List.getElem?_cons_zero, List.getElem?_cons_succ, List.set_cons_zero, List.set_cons_succ, List.take_zero, List.take_nil, Bool.false_eq_true, if_false, if_true, eq_self, decide_true, decide_false, Bool.not_true, Bool.not_false, Nat.reduceAdd, Nat.reduceLeDiff, Nat.reduceLT, List.nil_append, List.cons_append, ln]) (bgl hl)
  generalize rngL 0 ys.length = L at mk rl e1
  rw [e_compK e1 rl, mk, bind_ok, e_newLst]
theorem s_ext {zs ys : List D} {k : Nat} {cs : List Cell} {vs : List (Option Val)} (hc : cs[k]? = some (.own (pairs zs))) (hl : zs.length + ys.length ≤ 1000000) :
    extV (.c k) [.c cs.length] ⟨vs, cs ++ [.own (pairs ys)]⟩ = .ok (.d .non) ⟨vs, (cs ++ [Cell.own (pairs ys)]).set k (.own (pairs (zs ++ ys)))⟩ := by
  have hk : k < cs.length := (List.getElem?_eq_some_iff.mp hc).1
  have c1 : (cs ++ [Cell.own (pairs ys)])[k]? = some (.own (pairs zs)) := by rw [List.getElem?_append_left hk]; exact hc
  have c2 : (cs ++ [Cell.own (pairs ys)])[cs.length]? = some (.own (pairs ys)) := by rw [List.getElem?_append_right (Nat.le_refl _), Nat.sub_self]; rfl
  have e : pairs (zs ++ ys) = pairs zs ++ pairs ys := List.map_append
  have hl2 : (pairs zs).length + (Cell.own (pairs ys)).xs.length ≤ 1000000 := by
    show (pairs zs).length + (pairs ys).length ≤ _
    unfold pairs; rw [List.length_map, List.length_map]; exact hl
  rw [v_extC c1 c2 hl2, e]
  rfl
theorem s_mid_non {zs : List D} {k : Nat} {h o s5 s6 : Option Val} {cs : List Cell} (hc : cs[k]? = some (.own (pairs zs))) (hx : Gd .non) (hl : zs.length + (kids .non).length ≤ 1000000) :
    ∃ cs', sMid ⟨[h, o, some (.c k), some (.d .non), some (.d .non), s5, s6], cs⟩ = .ok .nx ⟨[h, o, some (.c k), some (.d .non), some (.d .non), some (.d (.bl true)), s6], cs'⟩ ∧ cs'[k]? = some (.own (pairs (zs ++ kids .non))) ∧ cs'.take k = cs.take k := by
  have hk : k < cs.length := (List.getElem?_eq_some_iff.mp hc).1
  unfold sMid
  have q : ∀ st, isNV false (.d .non) (.d .non) st = .ok (.d (.bl true)) st := fun _ => rfl
  exact ⟨cs, by simp only [e_par, e_parK, e_asg, toD_d, e_nameT, e_consT, e_nilT, Option.bind_some, n_nx, n_ct, n_bk, n_ret, e_for, e_itE, e_itA, e_meth, ty_s, e_run1, e_run2, e_run3, e_run4, s_d1, s_d2, s_od, s_oo, s_o1, s_odd, s_t1, s_td, ic_d, ic_o, ic_t, ic_nil, e_argD, e_argDD, List.replicate, Nat.reduceSub, List.length_cons, List.length_nil, bind_ok, bind_exc, bind_bad, e_seq, th_nx, th_ret, th_exc, th_bk, th_ct, e_set, e_setK, e_ret, e_retK, e_drop, e_dropK, e_retN, e_next, e_brk, e_cnt, e_if, e_ifE, e_and, e_or, e_not, onB_t, onB_f, onB_b, e_var, e_varK, e_c, e_bin, e_un, e_call, e_nil, e_cons, e_tup, e_tupK, e_lst, e_lstK, e_newLst, toDs_nil, toDs_d, Option.map_some, e_callV, e_callVT, ar_nil, ar_cons, ar_d, ar_t, e_argKT, af_d, af_new, af_exc, up_nil, up_cons, end_ret, end_exc, end_nx, out_d, v_add, v_sub, v_neg, v_lt, v_le, v_gt, v_ge, v_eqI, v_neI, v_gcd, v_abs, v_max, v_int, v_lenT, v_lenL, List.getElem?_cons_zero, List.getElem?_cons_succ, List.set_cons_zero, List.set_cons_succ, List.take_zero, List.take_nil, Bool.false_eq_true, if_false, if_true, eq_self, decide_true, decide_false, Bool.not_true, Bool.not_false, Nat.reduceAdd, Nat.reduceLeDiff, Nat.reduceLT, List.nil_append, List.cons_append, q], by simpa [kids] using hc, rfl⟩
theorem s_mid_bl {b : Bool} {zs : List D} {k : Nat} {h o s5 s6 : Option Val} {cs : List Cell} (hc : cs[k]? = some (.own (pairs zs))) (hx : Gd (.bl b)) (hl : zs.length + (kids (.bl b)).length ≤ 1000000) :
    ∃ cs', sMid ⟨[h, o, some (.c k), some (.d (.bl b)), some (.d (.bl b)), s5, s6], cs⟩ = .ok .nx ⟨[h, o, some (.c k), some (.d (.bl b)), some (.d (.bl b)), some (.d (.bl true)), s6], cs'⟩ ∧ cs'[k]? = some (.own (pairs (zs ++ kids (.bl b)))) ∧ cs'.take k = cs.take k := by
  have hk : k < cs.length := (List.getElem?_eq_some_iff.mp hc).1
  unfold sMid
  have q : ∀ st, isNV false (.d (.bl b)) (.d .non) st = .ok (.d (.bl false)) st := fun _ => rfl
  have q1 : ∀ st, isiV [.d (.bl b), .d (.ty "bool")] st = .ok (.d (.bl true)) st := fun _ => rfl
  have q2 : ∀ st, eqV false (.d (.bl b)) (.d (.bl b)) st = .ok (.d (.bl true)) st := fun _ => by rw [v_eq dOf_d dOf_d rfl rfl]; cases b <;> rfl
  exact ⟨cs, by simp only [e_par, e_parK, e_asg, toD_d, e_nameT, e_consT, e_nilT, Option.bind_some, n_nx, n_ct, n_bk, n_ret, e_for, e_itE, e_itA, e_meth, ty_s, e_run1, e_run2, e_run3, e_run4, s_d1, s_d2, s_od, s_oo, s_o1, s_odd, s_t1, s_td, ic_d, ic_o, ic_t, ic_nil, e_argD, e_argDD, List.replicate, Nat.reduceSub, List.length_cons, List.length_nil, bind_ok, bind_exc, bind_bad, e_seq, th_nx, th_ret, th_exc, th_bk, th_ct, e_set, e_setK, e_ret, e_retK, e_drop, e_dropK, e_retN, e_next, e_brk, e_cnt, e_if, e_ifE, e_and, e_or, e_not, onB_t, onB_f, onB_b, e_var, e_varK, e_c, e_bin, e_un, e_call, e_nil, e_cons, e_tup, e_tupK, e_lst, e_lstK, e_newLst, toDs_nil, toDs_d, Option.map_some, e_callV, e_callVT, ar_nil, ar_cons, ar_d, ar_t, e_argKT, af_d, af_new, af_exc, up_nil, up_cons, end_ret, end_exc, end_nx, out_d, v_add, v_sub, v_neg, v_lt, v_le, v_gt, v_ge, v_eqI, v_neI, v_gcd, v_abs, v_max, v_int, v_lenT, v_lenL, List.getElem?_cons_zero, List.getElem?_cons_succ, List.set_cons_zero, List.set_cons_succ, List.take_zero, List.take_nil, Bool.false_eq_true, if_false, if_true, eq_self, decide_true, decide_false, Bool.not_true, Bool.not_false, Nat.reduceAdd, Nat.reduceLeDiff, Nat.reduceLT, List.nil_append, List.cons_append, q, q1, q2], by simpa [kids] using hc, rfl⟩
theorem s_mid_int {b : Int} {zs : List D} {k : Nat} {h o s5 s6 : Option Val} {cs : List Cell} (hc : cs[k]? = some (.own (pairs zs))) (hx : Gd (.int b)) (hl : zs.length + (kids (.int b)).length ≤ 1000000) :
    ∃ cs', sMid ⟨[h, o, some (.c k), some (.d (.int b)), some (.d (.int b)), s5, s6], cs⟩ = .ok .nx ⟨[h, o, some (.c k), some (.d (.int b)), some (.d (.int b)), some (.d (.bl true)), s6], cs'⟩ ∧ cs'[k]? = some (.own (pairs (zs ++ kids (.int b)))) ∧ cs'.take k = cs.take k := by
  have hk : k < cs.length := (List.getElem?_eq_some_iff.mp hc).1
  unfold sMid
  have q : ∀ st, isNV false (.d (.int b)) (.d .non) st = .ok (.d (.bl false)) st := fun _ => rfl
  have q1 : ∀ st, isiV [.d (.int b), .d (.ty "bool")] st = .ok (.d (.bl false)) st := fun _ => rfl
  have q3 : ∀ st, isiV [.d (.int b), .d (.ty "int")] st = .ok (.d (.bl true)) st := fun _ => rfl
  have q2 : d__law_wb_is_whole [.d (.int b)] = .ok (.d (.bl true)) [] := rfl
  exact ⟨cs, by simp only [e_par, e_parK, e_asg, toD_d, e_nameT, e_consT, e_nilT, Option.bind_some, n_nx, n_ct, n_bk, n_ret, e_for, e_itE, e_itA, e_meth, ty_s, e_run1, e_run2, e_run3, e_run4, s_d1, s_d2, s_od, s_oo, s_o1, s_odd, s_t1, s_td, ic_d, ic_o, ic_t, ic_nil, e_argD, e_argDD, List.replicate, Nat.reduceSub, List.length_cons, List.length_nil, bind_ok, bind_exc, bind_bad, e_seq, th_nx, th_ret, th_exc, th_bk, th_ct, e_set, e_setK, e_ret, e_retK, e_drop, e_dropK, e_retN, e_next, e_brk, e_cnt, e_if, e_ifE, e_and, e_or, e_not, onB_t, onB_f, onB_b, e_var, e_varK, e_c, e_bin, e_un, e_call, e_nil, e_cons, e_tup, e_tupK, e_lst, e_lstK, e_newLst, toDs_nil, toDs_d, Option.map_some, e_callV, e_callVT, ar_nil, ar_cons, ar_d, ar_t, e_argKT, af_d, af_new, af_exc, up_nil, up_cons, end_ret, end_exc, end_nx, out_d, v_add, v_sub, v_neg, v_lt, v_le, v_gt, v_ge, v_eqI, v_neI, v_gcd, v_abs, v_max, v_int, v_lenT, v_lenL, List.getElem?_cons_zero, List.getElem?_cons_succ, List.set_cons_zero, List.set_cons_succ, List.take_zero, List.take_nil, Bool.false_eq_true, if_false, if_true, eq_self, decide_true, decide_false, Bool.not_true, Bool.not_false, Nat.reduceAdd, Nat.reduceLeDiff, Nat.reduceLT, List.nil_append, List.cons_append, q, q1, q2, q3, beq_self_eq_true], by simpa [kids] using hc, rfl⟩
theorem s_mid_str {b : Str} {zs : List D} {k : Nat} {h o s5 s6 : Option Val} {cs : List Cell} (hc : cs[k]? = some (.own (pairs zs))) (hx : Gd (.str b)) (hl : zs.length + (kids (.str b)).length ≤ 1000000) :
    ∃ cs', sMid ⟨[h, o, some (.c k), some (.d (.str b)), some (.d (.str b)), s5, s6], cs⟩ = .ok .nx ⟨[h, o, some (.c k), some (.d (.str b)), some (.d (.str b)), some (.d (.bl true)), s6], cs'⟩ ∧ cs'[k]? = some (.own (pairs (zs ++ kids (.str b)))) ∧ cs'.take k = cs.take k := by
  have hk : k < cs.length := (List.getElem?_eq_some_iff.mp hc).1
  unfold sMid
  have q : ∀ st, isNV false (.d (.str b)) (.d .non) st = .ok (.d (.bl false)) st := fun _ => rfl
  have q1 : ∀ st, isiV [.d (.str b), .d (.ty "bool")] st = .ok (.d (.bl false)) st := fun _ => rfl
  have q3 : ∀ st, isiV [.d (.str b), .d (.ty "int")] st = .ok (.d (.bl false)) st := fun _ => rfl
  have q4 : ∀ st, isiV [.d (.str b), .d (.ty "str")] st = .ok (.d (.bl true)) st := fun _ => rfl
  have ob : okD (.str b) = true := okD_of hx.1 (by simp [dep])
  have q2 : ∀ st, eqV false (.d (.str b)) (.d (.str b)) st = .ok (.d (.bl true)) st := fun _ => by rw [v_eq dOf_d dOf_d ob ob]; simp [eqD]
  exact ⟨cs, by simp only [e_par, e_parK, e_asg, toD_d, e_nameT, e_consT, e_nilT, Option.bind_some, n_nx, n_ct, n_bk, n_ret, e_for, e_itE, e_itA, e_meth, ty_s, e_run1, e_run2, e_run3, e_run4, s_d1, s_d2, s_od, s_oo, s_o1, s_odd, s_t1, s_td, ic_d, ic_o, ic_t, ic_nil, e_argD, e_argDD, List.replicate, Nat.reduceSub, List.length_cons, List.length_nil, bind_ok, bind_exc, bind_bad, e_seq, th_nx, th_ret, th_exc, th_bk, th_ct, e_set, e_setK, e_ret, e_retK, e_drop, e_dropK, e_retN, e_next, e_brk, e_cnt, e_if, e_ifE, e_and, e_or, e_not, onB_t, onB_f, onB_b, e_var, e_varK, e_c, e_bin, e_un, e_call, e_nil, e_cons, e_tup, e_tupK, e_lst, e_lstK, e_newLst, toDs_nil, toDs_d, Option.map_some, e_callV, e_callVT, ar_nil, ar_cons, ar_d, ar_t, e_argKT, af_d, af_new, af_exc, up_nil, up_cons, end_ret, end_exc, end_nx, out_d, v_add, v_sub, v_neg, v_lt, v_le, v_gt, v_ge, v_eqI, v_neI, v_gcd, v_abs, v_max, v_int, v_lenT, v_lenL, List.getElem?_cons_zero, List.getElem?_cons_succ, List.set_cons_zero, List.set_cons_succ, List.take_zero, List.take_nil, Bool.false_eq_true, if_false, if_true, eq_self, decide_true, decide_false, Bool.not_true, Bool.not_false, Nat.reduceAdd, Nat.reduceLeDiff, Nat.reduceLT, List.nil_append, List.cons_append, q, q1, q2, q3, q4], by simpa [kids] using hc, rfl⟩
theorem s_mid_tup {ys : List D} {zs : List D} {k : Nat} {h o s5 s6 : Option Val} {cs : List Cell} (hc : cs[k]? = some (.own (pairs zs))) (hx : Gd (.tup ys)) (hl : zs.length + (kids (.tup ys)).length ≤ 1000000) :
    ∃ cs', sMid ⟨[h, o, some (.c k), some (.d (.tup ys)), some (.d (.tup ys)), s5, s6], cs⟩ = .ok .nx ⟨[h, o, some (.c k), some (.d (.tup ys)), some (.d (.tup ys)), some (.d (.bl true)), s6], cs'⟩ ∧ cs'[k]? = some (.own (pairs (zs ++ kids (.tup ys)))) ∧ cs'.take k = cs.take k := by
  have hk : k < cs.length := (List.getElem?_eq_some_iff.mp hc).1
  unfold sMid
  have hl2 : zs.length + ys.length ≤ 1000000 := hl
  have q : ∀ st, isNV false (.d (.tup ys)) (.d .non) st = .ok (.d (.bl false)) st := fun _ => rfl
  have q1 : ∀ st, isiV [.d (.tup ys), .d (.ty "bool")] st = .ok (.d (.bl false)) st := fun _ => rfl
  have q3 : ∀ st, isiV [.d (.tup ys), .d (.ty "int")] st = .ok (.d (.bl false)) st := fun _ => rfl
  have q4 : ∀ st, isiV [.d (.tup ys), .d (.ty "str")] st = .ok (.d (.bl false)) st := fun _ => rfl
  have q5 : ∀ st, isiV [.d (.tup ys), .d (.ty "tuple")] st = .ok (.d (.bl true)) st := fun _ => rfl
  have mk := s_comp (.tup ys) (.inl rfl) h o (some (.c k)) (some (.d (.bl true))) s6 cs (show ys.length ≤ 1000000 by omega)
  refine ⟨(cs ++ [Cell.own (pairs ys)]).set k (.own (pairs (zs ++ ys))), ?_, ?_, ?_⟩
  · rw [if_f (st1 := ⟨[h, o, some (.c k), some (.d (.tup ys)), some (.d (.tup ys)), s5, s6], cs⟩) (by simp only [e_par, e_parK, e_asg, toD_d, e_nameT, e_consT, e_nilT, Option.bind_some, n_nx, n_ct, n_bk, n_ret, e_for, e_itE, e_itA, e_meth, ty_s, e_run1, e_run2, e_run3, e_run4, s_d1, s_d2, s_od, s_oo, s_o1, s_odd, s_t1, s_td, ic_d, ic_o, ic_t, ic_nil, e_argD, e_argDD, List.replicate, Nat.reduceSub, List.length_cons, List.length_nil, bind_ok, bind_exc, bind_bad, e_seq, th_nx, th_ret, th_exc, th_bk, th_ct, e_set, e_setK, e_ret, e_retK, e_drop, e_dropK, e_retN, e_next, e_brk, e_cnt, e_if, e_ifE, e_and, e_or, e_not, onB_t, onB_f, onB_b, e_var, e_varK, e_c, e_bin, e_un, e_call, e_nil, e_cons, e_tup, e_tupK, e_lst, e_lstK, e_newLst, toDs_nil, toDs_d, Option.map_some, e_callV, e_callVT, ar_nil, ar_cons, ar_d, ar_t, e_argKT, af_d, af_new, af_exc, up_nil, up_cons, end_ret, end_exc, end_nx, out_d, v_add, v_sub, v_neg, v_lt, v_le, v_gt, v_ge, v_eqI, v_neI, v_gcd, v_abs, v_max, v_int, v_lenT, v_lenL, List.getElem?_cons_zero, List.getElem?_cons_succ, List.set_cons_zero, List.set_cons_succ, List.take_zero, List.take_nil, Bool.false_eq_true, if_false, if_true, eq_self, decide_true, decide_false, Bool.not_true, Bool.not_false, Nat.reduceAdd, Nat.reduceLeDiff, Nat.reduceLT, List.nil_append, List.cons_append, q]), if_f (st1 := ⟨[h, o, some (.c k), some (.d (.tup ys)), some (.d (.tup ys)), s5, s6], cs⟩) (by simp only [e_par, e_parK, e_asg, toD_d, e_nameT, e_consT, e_nilT, Option.bind_some, n_nx, n_ct, n_bk, n_ret, e_for, e_itE, e_itA, e_meth, ty_s, e_run1, e_run2, e_run3, e_run4, s_d1, s_d2, s_od, s_oo, s_o1, s_odd, s_t1, s_td, ic_d, ic_o, ic_t, ic_nil, e_argD, e_argDD, List.replicate, Nat.reduceSub, List.length_cons, List.length_nil, bind_ok, bind_exc, bind_bad, e_seq, th_nx, th_ret, th_exc, th_bk, th_ct, e_set, e_setK, e_ret, e_retK, e_drop, e_dropK, e_retN, e_next, e_brk, e_cnt, e_if, e_ifE, e_and, e_or, e_not, onB_t, onB_f, onB_b, e_var, e_varK, e_c, e_bin, e_un, e_call, e_nil, e_cons, e_tup, e_tupK, e_lst, e_lstK, e_newLst, toDs_nil, toDs_d, Option.map_some, e_callV, e_callVT, ar_nil, ar_cons, ar_d, ar_t, e_argKT, af_d, af_new, af_exc, up_nil, up_cons, end_ret, end_exc, end_nx, out_d, v_add, v_sub, v_neg, v_lt, v_le, v_gt, v_ge, v_eqI, v_neI, v_gcd, v_abs, v_max, v_int, v_lenT, v_lenL, List.getElem?_cons_zero, List.getElem?_cons_succ, List.set_cons_zero, List.set_cons_succ, List.take_zero, List.take_nil, Bool.false_eq_true, if_false, if_true, eq_self, decide_true, decide_false, Bool.not_true, Bool.not_false, Nat.reduceAdd, Nat.reduceLeDiff, Nat.reduceLT, List.nil_append, List.cons_append, q1]), if_f (st1 := ⟨[h, o, some (.c k), some (.d (.tup ys)), some (.d (.tup ys)), s5, s6], cs⟩) (by simp only [e_par, e_parK, e_asg, toD_d, e_nameT, e_consT, e_nilT, Option.bind_some, n_nx, n_ct, n_bk, n_ret, e_for, e_itE, e_itA, e_meth, ty_s, e_run1, e_run2, e_run3, e_run4, s_d1, s_d2, s_od, s_oo, s_o1, s_odd, s_t1, s_td, ic_d, ic_o, ic_t, ic_nil, e_argD, e_argDD, List.replicate, Nat.reduceSub, List.length_cons, List.length_nil, bind_ok, bind_exc, bind_bad, e_seq, th_nx, th_ret, th_exc, th_bk, th_ct, e_set, e_setK, e_ret, e_retK, e_drop, e_dropK, e_retN, e_next, e_brk, e_cnt, e_if, e_ifE, e_and, e_or, e_not, onB_t, onB_f, onB_b, e_var, e_varK, e_c, e_bin, e_un, e_call, e_nil, e_cons, e_tup, e_tupK, e_lst, e_lstK, e_newLst, toDs_nil, toDs_d, Option.map_some, e_callV, e_callVT, ar_nil, ar_cons, ar_d, ar_t, e_argKT, af_d, af_new, af_exc, up_nil, up_cons, end_ret, end_exc, end_nx, out_d, v_add, v_sub, v_neg, v_lt, v_le, v_gt, v_ge, v_eqI, v_neI, v_gcd, v_abs, v_max, v_int, v_lenT, v_lenL, List.getElem?_cons_zero, List.getElem?_cons_succ, List.set_cons_zero, List.set_cons_succ, List.take_zero, List.take_nil, Bool.false_eq_true, if_false, if_true, eq_self, decide_true, decide_false, Bool.not_true, Bool.not_false, Nat.reduceAdd, Nat.reduceLeDiff, Nat.reduceLT, List.nil_append, List.cons_append, q3]), if_f (st1 := ⟨[h, o, some (.c k), some (.d (.tup ys)), some (.d (.tup ys)), s5, s6], cs⟩) (by simp only [e_par, e_parK, e_asg, toD_d, e_nameT, e_consT, e_nilT, Option.bind_some, n_nx, n_ct, n_bk, n_ret, e_for, e_itE, e_itA, e_meth, ty_s, e_run1, e_run2, e_run3, e_run4, s_d1, s_d2, s_od, s_oo, s_o1, s_odd, s_t1, s_td, ic_d, ic_o, ic_t, ic_nil, e_argD, e_argDD, List.replicate, Nat.reduceSub, List.length_cons, List.length_nil, bind_ok, bind_exc, bind_bad, e_seq, th_nx, th_ret, th_exc, th_bk, th_ct, e_set, e_setK, e_ret, e_retK, e_drop, e_dropK, e_retN, e_next, e_brk, e_cnt, e_if, e_ifE, e_and, e_or, e_not, onB_t, onB_f, onB_b, e_var, e_varK, e_c, e_bin, e_un, e_call, e_nil, e_cons, e_tup, e_tupK, e_lst, e_lstK, e_newLst, toDs_nil, toDs_d, Option.map_some, e_callV, e_callVT, ar_nil, ar_cons, ar_d, ar_t, e_argKT, af_d, af_new, af_exc, up_nil, up_cons, end_ret, end_exc, end_nx, out_d, v_add, v_sub, v_neg, v_lt, v_le, v_gt, v_ge, v_eqI, v_neI, v_gcd, v_abs, v_max, v_int, v_lenT, v_lenL, List.getElem?_cons_zero, List.getElem?_cons_succ, List.set_cons_zero, List.set_cons_succ, List.take_zero, List.take_nil, Bool.false_eq_true, if_false, if_true, eq_self, decide_true, decide_false, Bool.not_true, Bool.not_false, Nat.reduceAdd, Nat.reduceLeDiff, Nat.reduceLT, List.nil_append, List.cons_append, q4]),
      seq_nx (st1 := ⟨[h, o, some (.c k), some (.d (.tup ys)), some (.d (.tup ys)), some (.d (.bl true)), s6], cs⟩) (by simp only [e_par, e_parK, e_asg, toD_d, e_nameT, e_consT, e_nilT, Option.bind_some, n_nx, n_ct, n_bk, n_ret, e_for, e_itE, e_itA, e_meth, ty_s, e_run1, e_run2, e_run3, e_run4, s_d1, s_d2, s_od, s_oo, s_o1, s_odd, s_t1, s_td, ic_d, ic_o, ic_t, ic_nil, e_argD, e_argDD, List.replicate, Nat.reduceSub, List.length_cons, List.length_nil, bind_ok, bind_exc, bind_bad, e_seq, th_nx, th_ret, th_exc, th_bk, th_ct, e_set, e_setK, e_ret, e_retK, e_drop, e_dropK, e_retN, e_next, e_brk, e_cnt, e_if, e_ifE, e_and, e_or, e_not, onB_t, onB_f, onB_b, e_var, e_varK, e_c, e_bin, e_un, e_call, e_nil, e_cons, e_tup, e_tupK, e_lst, e_lstK, e_newLst, toDs_nil, toDs_d, Option.map_some, e_callV, e_callVT, ar_nil, ar_cons, ar_d, ar_t, e_argKT, af_d, af_new, af_exc, up_nil, up_cons, end_ret, end_exc, end_nx, out_d, v_add, v_sub, v_neg, v_lt, v_le, v_gt, v_ge, v_eqI, v_neI, v_gcd, v_abs, v_max, v_int, v_lenT, v_lenL, List.getElem?_cons_zero, List.getElem?_cons_succ, List.set_cons_zero, List.set_cons_succ, List.take_zero, List.take_nil, Bool.false_eq_true, if_false, if_true, eq_self, decide_true, decide_false, Bool.not_true, Bool.not_false, Nat.reduceAdd, Nat.reduceLeDiff, Nat.reduceLT, List.nil_append, List.cons_append, q5]), seq_nx (st1 := ⟨[h, o, some (.c k), some (.d (.tup ys)), some (.d (.tup ys)), some (.d (.bl true)), s6], cs⟩) (by simp only [e_par, e_parK, e_asg, toD_d, e_nameT, e_consT, e_nilT, Option.bind_some, n_nx, n_ct, n_bk, n_ret, e_for, e_itE, e_itA, e_meth, ty_s, e_run1, e_run2, e_run3, e_run4, s_d1, s_d2, s_od, s_oo, s_o1, s_odd, s_t1, s_td, ic_d, ic_o, ic_t, ic_nil, e_argD, e_argDD, List.replicate, Nat.reduceSub, List.length_cons, List.length_nil, bind_ok, bind_exc, bind_bad, e_seq, th_nx, th_ret, th_exc, th_bk, th_ct, e_set, e_setK, e_ret, e_retK, e_drop, e_dropK, e_retN, e_next, e_brk, e_cnt, e_if, e_ifE, e_and, e_or, e_not, onB_t, onB_f, onB_b, e_var, e_varK, e_c, e_bin, e_un, e_call, e_nil, e_cons, e_tup, e_tupK, e_lst, e_lstK, e_newLst, toDs_nil, toDs_d, Option.map_some, e_callV, e_callVT, ar_nil, ar_cons, ar_d, ar_t, e_argKT, af_d, af_new, af_exc, up_nil, up_cons, end_ret, end_exc, end_nx, out_d, v_add, v_sub, v_neg, v_lt, v_le, v_gt, v_ge, v_eqI, v_neI, v_gcd, v_abs, v_max, v_int, v_lenT, v_lenL, List.getElem?_cons_zero, List.getElem?_cons_succ, List.set_cons_zero, List.set_cons_succ, List.take_zero, List.take_nil, Bool.false_eq_true, if_false, if_true, eq_self, decide_true, decide_false, Bool.not_true, Bool.not_false, Nat.reduceAdd, Nat.reduceLeDiff, Nat.reduceLT, List.nil_append, List.cons_append, beq_self_eq_true])]
    exact drop_m (st1 := ⟨[h, o, some (.c k), some (.d (.tup ys)), some (.d (.tup ys)), some (.d (.bl true)), s6], cs⟩) (by simp only [e_par, e_parK, e_asg, toD_d, e_nameT, e_consT, e_nilT, Option.bind_some, n_nx, n_ct, n_bk, n_ret, e_for, e_itE, e_itA, e_meth, ty_s, e_run1, e_run2, e_run3, e_run4, s_d1, s_d2, s_od, s_oo, s_o1, s_odd, s_t1, s_td, ic_d, ic_o, ic_t, ic_nil, e_argD, e_argDD, List.replicate, Nat.reduceSub, List.length_cons, List.length_nil, bind_ok, bind_exc, bind_bad, e_seq, th_nx, th_ret, th_exc, th_bk, th_ct, e_set, e_setK, e_ret, e_retK, e_drop, e_dropK, e_retN, e_next, e_brk, e_cnt, e_if, e_ifE, e_and, e_or, e_not, onB_t, onB_f, onB_b, e_var, e_varK, e_c, e_bin, e_un, e_call, e_nil, e_cons, e_tup, e_tupK, e_lst, e_lstK, e_newLst, toDs_nil, toDs_d, Option.map_some, e_callV, e_callVT, ar_nil, ar_cons, ar_d, ar_t, e_argKT, af_d, af_new, af_exc, up_nil, up_cons, end_ret, end_exc, end_nx, out_d, v_add, v_sub, v_neg, v_lt, v_le, v_gt, v_ge, v_eqI, v_neI, v_gcd, v_abs, v_max, v_int, v_lenT, v_lenL, List.getElem?_cons_zero, List.getElem?_cons_succ, List.set_cons_zero, List.set_cons_succ, List.take_zero, List.take_nil, Bool.false_eq_true, if_false, if_true, eq_self, decide_true, decide_false, Bool.not_true, Bool.not_false, Nat.reduceAdd, Nat.reduceLeDiff, Nat.reduceLT, List.nil_append, List.cons_append]) (by show (cs[k]?).isSome = true; rw [hc]; rfl) ((ifE_t (by simp only [e_par, e_parK, e_asg, toD_d, e_nameT, e_consT, e_nilT, Option.bind_some, n_nx, n_ct, n_bk, n_ret, e_for, e_itE, e_itA, e_meth, ty_s, e_run1, e_run2, e_run3, e_run4, s_d1, s_d2, s_od, s_oo, s_o1, s_odd, s_t1, s_td, ic_d, ic_o, ic_t, ic_nil, e_argD, e_argDD, List.replicate, Nat.reduceSub, List.length_cons, List.length_nil, bind_ok, bind_exc, bind_bad, e_seq, th_nx, th_ret, th_exc, th_bk, th_ct, e_set, e_setK, e_ret, e_retK, e_drop, e_dropK, e_retN, e_next, e_brk, e_cnt, e_if, e_ifE, e_and, e_or, e_not, onB_t, onB_f, onB_b, e_var, e_varK, e_c, e_bin, e_un, e_call, e_nil, e_cons, e_tup, e_tupK, e_lst, e_lstK, e_newLst, toDs_nil, toDs_d, Option.map_some, e_callV, e_callVT, ar_nil, ar_cons, ar_d, ar_t, e_argKT, af_d, af_new, af_exc, up_nil, up_cons, end_ret, end_exc, end_nx, out_d, v_add, v_sub, v_neg, v_lt, v_le, v_gt, v_ge, v_eqI, v_neI, v_gcd, v_abs, v_max, v_int, v_lenT, v_lenL, List.getElem?_cons_zero, List.getElem?_cons_succ, List.set_cons_zero, List.set_cons_succ, List.take_zero, List.take_nil, Bool.false_eq_true, if_false, if_true, eq_self, decide_true, decide_false, Bool.not_true, Bool.not_false, Nat.reduceAdd, Nat.reduceLeDiff, Nat.reduceLT, List.nil_append, List.cons_append])).trans mk) (s_ext hc hl2)
  · rw [List.getElem?_set_self (by rw [List.length_append]; omega)]; rfl
  · rw [take_set, take_app (by omega)]
theorem s_mid_lst {ys : List D} {zs : List D} {k : Nat} {h o s5 s6 : Option Val} {cs : List Cell} (hc : cs[k]? = some (.own (pairs zs))) (hx : Gd (.lst ys)) (hl : zs.length + (kids (.lst ys)).length ≤ 1000000) :
    ∃ cs', sMid ⟨[h, o, some (.c k), some (.d (.lst ys)), some (.d (.lst ys)), s5, s6], cs⟩ = .ok .nx ⟨[h, o, some (.c k), some (.d (.lst ys)), some (.d (.lst ys)), some (.d (.bl true)), s6], cs'⟩ ∧ cs'[k]? = some (.own (pairs (zs ++ kids (.lst ys)))) ∧ cs'.take k = cs.take k := by
  have hk : k < cs.length := (List.getElem?_eq_some_iff.mp hc).1
  unfold sMid
  have hl2 : zs.length + ys.length ≤ 1000000 := hl
  have q : ∀ st, isNV false (.d (.lst ys)) (.d .non) st = .ok (.d (.bl false)) st := fun _ => rfl
  have q1 : ∀ st, isiV [.d (.lst ys), .d (.ty "bool")] st = .ok (.d (.bl false)) st := fun _ => rfl
  have q3 : ∀ st, isiV [.d (.lst ys), .d (.ty "int")] st = .ok (.d (.bl false)) st := fun _ => rfl
  have q4 : ∀ st, isiV [.d (.lst ys), .d (.ty "str")] st = .ok (.d (.bl false)) st := fun _ => rfl
  have q5 : ∀ st, isiV [.d (.lst ys), .d (.ty "tuple")] st = .ok (.d (.bl false)) st := fun _ => rfl
  have q6 : ∀ st, isiV [.d (.lst ys), .d (.ty "list")] st = .ok (.d (.bl true)) st := fun _ => rfl
  have mk := s_comp (.lst ys) (.inr rfl) h o (some (.c k)) (some (.d (.bl true))) s6 cs (show ys.length ≤ 1000000 by omega)
  refine ⟨(cs ++ [Cell.own (pairs ys)]).set k (.own (pairs (zs ++ ys))), ?_, ?_, ?_⟩
  · rw [if_f (st1 := ⟨[h, o, some (.c k), some (.d (.lst ys)), some (.d (.lst ys)), s5, s6], cs⟩) (by simp only [e_par, e_parK, e_asg, toD_d, e_nameT, e_consT, e_nilT, Option.bind_some, n_nx, n_ct, n_bk, n_ret, e_for, e_itE, e_itA, e_meth, ty_s, e_run1, e_run2, e_run3, e_run4, s_d1, s_d2, s_od, s_oo, s_o1, s_odd, s_t1, s_td, ic_d, ic_o, ic_t, ic_nil, e_argD, e_argDD, List.replicate, Nat.reduceSub, List.length_cons, List.length_nil, bind_ok, bind_exc, bind_bad, e_seq, th_nx, th_ret, th_exc, th_bk, th_ct, e_set, e_setK, e_ret, e_retK, e_drop, e_dropK, e_retN, e_next, e_brk, e_cnt, e_if, e_ifE, e_and, e_or, e_not, onB_t, onB_f, onB_b, e_var, e_varK, e_c, e_bin, e_un, e_call, e_nil, e_cons, e_tup, e_tupK, e_lst, e_lstK, e_newLst, toDs_nil, toDs_d, Option.map_some, e_callV, e_callVT, ar_nil, ar_cons, ar_d, ar_t, e_argKT, af_d, af_new, af_exc, up_nil, up_cons, end_ret, end_exc, end_nx, out_d, v_add, v_sub, v_neg, v_lt, v_le, v_gt, v_ge, v_eqI, v_neI, v_gcd, v_abs, v_max, v_int, v_lenT, v_lenL, List.getElem?_cons_zero, List.getElem?_cons_succ, List.set_cons_zero, List.set_cons_succ, List.take_zero, List.take_nil, Bool.false_eq_true, if_false, if_true, eq_self, decide_true, decide_false, Bool.not_true, Bool.not_false, Nat.reduceAdd, Nat.reduceLeDiff, Nat.reduceLT, List.nil_append, List.cons_append, q]), if_f (st1 := ⟨[h, o, some (.c k), some (.d (.lst ys)), some (.d (.lst ys)), s5, s6], cs⟩) (by simp only [e_par, e_parK, e_asg, toD_d, e_nameT, e_consT, e_nilT, Option.bind_some, n_nx, n_ct, n_bk, n_ret, e_for, e_itE, e_itA, e_meth, ty_s, e_run1, e_run2, e_run3, e_run4, s_d1, s_d2, s_od, s_oo, s_o1, s_odd, s_t1, s_td, ic_d, ic_o, ic_t, ic_nil, e_argD, e_argDD, List.replicate, Nat.reduceSub, List.length_cons, List.length_nil, bind_ok, bind_exc, bind_bad, e_seq, th_nx, th_ret, th_exc, th_bk, th_ct, e_set, e_setK, e_ret, e_retK, e_drop, e_dropK, e_retN, e_next, e_brk, e_cnt, e_if, e_ifE, e_and, e_or, e_not, onB_t, onB_f, onB_b, e_var, e_varK, e_c, e_bin, e_un, e_call, e_nil, e_cons, e_tup, e_tupK, e_lst, e_lstK, e_newLst, toDs_nil, toDs_d, Option.map_some, e_callV, e_callVT, ar_nil, ar_cons, ar_d, ar_t, e_argKT, af_d, af_new, af_exc, up_nil, up_cons, end_ret, end_exc, end_nx, out_d, v_add, v_sub, v_neg, v_lt, v_le, v_gt, v_ge, v_eqI, v_neI, v_gcd, v_abs, v_max, v_int, v_lenT, v_lenL, List.getElem?_cons_zero, List.getElem?_cons_succ, List.set_cons_zero, List.set_cons_succ, List.take_zero, List.take_nil, Bool.false_eq_true, if_false, if_true, eq_self, decide_true, decide_false, Bool.not_true, Bool.not_false, Nat.reduceAdd, Nat.reduceLeDiff, Nat.reduceLT, List.nil_append, List.cons_append, q1]), if_f (st1 := ⟨[h, o, some (.c k), some (.d (.lst ys)), some (.d (.lst ys)), s5, s6], cs⟩) (by simp only [e_par, e_parK, e_asg, toD_d, e_nameT, e_consT, e_nilT, Option.bind_some, n_nx, n_ct, n_bk, n_ret, e_for, e_itE, e_itA, e_meth, ty_s, e_run1, e_run2, e_run3, e_run4, s_d1, s_d2, s_od, s_oo, s_o1, s_odd, s_t1, s_td, ic_d, ic_o, ic_t, ic_nil, e_argD, e_argDD, List.replicate, Nat.reduceSub, List.length_cons, List.length_nil, bind_ok, bind_exc, bind_bad, e_seq, th_nx, th_ret, th_exc, th_bk, th_ct, e_set, e_setK, e_ret, e_retK, e_drop, e_dropK, e_retN, e_next, e_brk, e_cnt, e_if, e_ifE, e_and, e_or, e_not, onB_t, onB_f, onB_b, e_var, e_varK, e_c, e_bin, e_un, e_call, e_nil, e_cons, e_tup, e_tupK, e_lst, e_lstK, e_newLst, toDs_nil, toDs_d, Option.map_some, e_callV, e_callVT, ar_nil, ar_cons, ar_d, ar_t, e_argKT, af_d, af_new, af_exc, up_nil, up_cons, end_ret, end_exc, end_nx, out_d, v_add, v_sub, v_neg, v_lt, v_le, v_gt, v_ge, v_eqI, v_neI, v_gcd, v_abs, v_max, v_int, v_lenT, v_lenL, List.getElem?_cons_zero, List.getElem?_cons_succ, List.set_cons_zero, List.set_cons_succ, List.take_zero, List.take_nil, Bool.false_eq_true, if_false, if_true, eq_self, decide_true, decide_false, Bool.not_true, Bool.not_false, Nat.reduceAdd, Nat.reduceLeDiff, Nat.reduceLT, List.nil_append, List.cons_append, q3]), if_f (st1 := ⟨[h, o, some (.c k), some (.d (.lst ys)), some (.d (.lst ys)), s5, s6], cs⟩) (by simp only [e_par, e_parK, e_asg, toD_d, e_nameT, e_consT, e_nilT, Option.bind_some, n_nx, n_ct, n_bk, n_ret, e_for, e_itE, e_itA, e_meth, ty_s, e_run1, e_run2, e_run3, e_run4, s_d1, s_d2, s_od, s_oo, s_o1, s_odd, s_t1, s_td, ic_d, ic_o, ic_t, ic_nil, e_argD, e_argDD, List.replicate, Nat.reduceSub, List.length_cons, List.length_nil, bind_ok, bind_exc, bind_bad, e_seq, th_nx, th_ret, th_exc, th_bk, th_ct, e_set, e_setK, e_ret, e_retK, e_drop, e_dropK, e_retN, e_next, e_brk, e_cnt, e_if, e_ifE, e_and, e_or, e_not, onB_t, onB_f, onB_b, e_var, e_varK, e_c, e_bin, e_un, e_call, e_nil, e_cons, e_tup, e_tupK, e_lst, e_lstK, e_newLst, toDs_nil, toDs_d, Option.map_some, e_callV, e_callVT, ar_nil, ar_cons, ar_d, ar_t, e_argKT, af_d, af_new, af_exc, up_nil, up_cons, end_ret, end_exc, end_nx, out_d, v_add, v_sub, v_neg, v_lt, v_le, v_gt, v_ge, v_eqI, v_neI, v_gcd, v_abs, v_max, v_int, v_lenT, v_lenL, List.getElem?_cons_zero, List.getElem?_cons_succ, List.set_cons_zero, List.set_cons_succ, List.take_zero, List.take_nil, Bool.false_eq_true, if_false, if_true, eq_self, decide_true, decide_false, Bool.not_true, Bool.not_false, Nat.reduceAdd, Nat.reduceLeDiff, Nat.reduceLT, List.nil_append, List.cons_append, q4]),
      seq_nx (st1 := ⟨[h, o, some (.c k), some (.d (.lst ys)), some (.d (.lst ys)), some (.d (.bl true)), s6], cs⟩) (by simp only [e_par, e_parK, e_asg, toD_d, e_nameT, e_consT, e_nilT, Option.bind_some, n_nx, n_ct, n_bk, n_ret, e_for, e_itE, e_itA, e_meth, ty_s, e_run1, e_run2, e_run3, e_run4, s_d1, s_d2, s_od, s_oo, s_o1, s_odd, s_t1, s_td, ic_d, ic_o, ic_t, ic_nil, e_argD, e_argDD, List.replicate, Nat.reduceSub, List.length_cons, List.length_nil, bind_ok, bind_exc, bind_bad, e_seq, th_nx, th_ret, th_exc, th_bk, th_ct, e_set, e_setK, e_ret, e_retK, e_drop, e_dropK, e_retN, e_next, e_brk, e_cnt, e_if, e_ifE, e_and, e_or, e_not, onB_t, onB_f, onB_b, e_var, e_varK, e_c, e_bin, e_un, e_call, e_nil, e_cons, e_tup, e_tupK, e_lst, e_lstK, e_newLst, toDs_nil, toDs_d, Option.map_some, e_callV, e_callVT, ar_nil, ar_cons, ar_d, ar_t, e_argKT, af_d, af_new, af_exc, up_nil, up_cons, end_ret, end_exc, end_nx, out_d, v_add, v_sub, v_neg, v_lt, v_le, v_gt, v_ge, v_eqI, v_neI, v_gcd, v_abs, v_max, v_int, v_lenT, v_lenL, List.getElem?_cons_zero, List.getElem?_cons_succ, List.set_cons_zero, List.set_cons_succ, List.take_zero, List.take_nil, Bool.false_eq_true, if_false, if_true, eq_self, decide_true, decide_false, Bool.not_true, Bool.not_false, Nat.reduceAdd, Nat.reduceLeDiff, Nat.reduceLT, List.nil_append, List.cons_append, q5, q6]), seq_nx (st1 := ⟨[h, o, some (.c k), some (.d (.lst ys)), some (.d (.lst ys)), some (.d (.bl true)), s6], cs⟩) (by simp only [e_par, e_parK, e_asg, toD_d, e_nameT, e_consT, e_nilT, Option.bind_some, n_nx, n_ct, n_bk, n_ret, e_for, e_itE, e_itA, e_meth, ty_s, e_run1, e_run2, e_run3, e_run4, s_d1, s_d2, s_od, s_oo, s_o1, s_odd, s_t1, s_td, ic_d, ic_o, ic_t, ic_nil, e_argD, e_argDD, List.replicate, Nat.reduceSub, List.length_cons, List.length_nil, bind_ok, bind_exc, bind_bad, e_seq, th_nx, th_ret, th_exc, th_bk, th_ct, e_set, e_setK, e_ret, e_retK, e_drop, e_dropK, e_retN, e_next, e_brk, e_cnt, e_if, e_ifE, e_and, e_or, e_not, onB_t, onB_f, onB_b, e_var, e_varK, e_c, e_bin, e_un, e_call, e_nil, e_cons, e_tup, e_tupK, e_lst, e_lstK, e_newLst, toDs_nil, toDs_d, Option.map_some, e_callV, e_callVT, ar_nil, ar_cons, ar_d, ar_t, e_argKT, af_d, af_new, af_exc, up_nil, up_cons, end_ret, end_exc, end_nx, out_d, v_add, v_sub, v_neg, v_lt, v_le, v_gt, v_ge, v_eqI, v_neI, v_gcd, v_abs, v_max, v_int, v_lenT, v_lenL, List.getElem?_cons_zero, List.getElem?_cons_succ, List.set_cons_zero, List.set_cons_succ, List.take_zero, List.take_nil, Bool.false_eq_true, if_false, if_true, eq_self, decide_true, decide_false, Bool.not_true, Bool.not_false, Nat.reduceAdd, Nat.reduceLeDiff, Nat.reduceLT, List.nil_append, List.cons_append, beq_self_eq_true])]
    exact drop_m (st1 := ⟨[h, o, some (.c k), some (.d (.lst ys)), some (.d (.lst ys)), some (.d (.bl true)), s6], cs⟩) (by simp only [e_par, e_parK, e_asg, toD_d, e_nameT, e_consT, e_nilT, Option.bind_some, n_nx, n_ct, n_bk, n_ret, e_for, e_itE, e_itA, e_meth, ty_s, e_run1, e_run2, e_run3, e_run4, s_d1, s_d2, s_od, s_oo, s_o1, s_odd, s_t1, s_td, ic_d, ic_o, ic_t, ic_nil, e_argD, e_argDD, List.replicate, Nat.reduceSub, List.length_cons, List.length_nil, bind_ok, bind_exc, bind_bad, e_seq, th_nx, th_ret, th_exc, th_bk, th_ct, e_set, e_setK, e_ret, e_retK, e_drop, e_dropK, e_retN, e_next, e_brk, e_cnt, e_if, e_ifE, e_and, e_or, e_not, onB_t, onB_f, onB_b, e_var, e_varK, e_c, e_bin, e_un, e_call, e_nil, e_cons, e_tup, e_tupK, e_lst, e_lstK, e_newLst, toDs_nil, toDs_d, Option.map_some, e_callV, e_callVT, ar_nil, ar_cons, ar_d, ar_t, e_argKT, af_d, af_new, af_exc, up_nil, up_cons, end_ret, end_exc, end_nx, out_d, v_add, v_sub, v_neg, v_lt, v_le, v_gt, v_ge, v_eqI, v_neI, v_gcd, v_abs, v_max, v_int, v_lenT, v_lenL, List.getElem?_cons_zero, List.getElem?_cons_succ, List.set_cons_zero, List.set_cons_succ, List.take_zero, List.take_nil, Bool.false_eq_true, if_false, if_true, eq_self, decide_true, decide_false, Bool.not_true, Bool.not_false, Nat.reduceAdd, Nat.reduceLeDiff, Nat.reduceLT, List.nil_append, List.cons_append]) (by show (cs[k]?).isSome = true; rw [hc]; rfl) ((ifE_t (by simp only [e_par, e_parK, e_asg, toD_d, e_nameT, e_consT, e_nilT, Option.bind_some, n_nx, n_ct, n_bk, n_ret, e_for, e_itE, e_itA, e_meth, ty_s, e_run1, e_run2, e_run3, e_run4, s_d1, s_d2, s_od, s_oo, s_o1, s_odd, s_t1, s_td, ic_d, ic_o, ic_t, ic_nil, e_argD, e_argDD, List.replicate, Nat.reduceSub, List.length_cons, List.length_nil, bind_ok, bind_exc, bind_bad, e_seq, th_nx, th_ret, th_exc, th_bk, th_ct, e_set, e_setK, e_ret, e_retK, e_drop, e_dropK, e_retN, e_next, e_brk, e_cnt, e_if, e_ifE, e_and, e_or, e_not, onB_t, onB_f, onB_b, e_var, e_varK, e_c, e_bin, e_un, e_call, e_nil, e_cons, e_tup, e_tupK, e_lst, e_lstK, e_newLst, toDs_nil, toDs_d, Option.map_some, e_callV, e_callVT, ar_nil, ar_cons, ar_d, ar_t, e_argKT, af_d, af_new, af_exc, up_nil, up_cons, end_ret, end_exc, end_nx, out_d, v_add, v_sub, v_neg, v_lt, v_le, v_gt, v_ge, v_eqI, v_neI, v_gcd, v_abs, v_max, v_int, v_lenT, v_lenL, List.getElem?_cons_zero, List.getElem?_cons_succ, List.set_cons_zero, List.set_cons_succ, List.take_zero, List.take_nil, Bool.false_eq_true, if_false, if_true, eq_self, decide_true, decide_false, Bool.not_true, Bool.not_false, Nat.reduceAdd, Nat.reduceLeDiff, Nat.reduceLT, List.nil_append, List.cons_append])).trans mk) (s_ext hc hl2)
  · rw [List.getElem?_set_self (by rw [List.length_append]; omega)]; rfl
  · rw [take_set, take_app (by omega)]
theorem s_mid {zs : List D} {x : D} {k : Nat} {h o s5 s6 : Option Val} {cs : List Cell} (hc : cs[k]? = some (.own (pairs zs))) (hx : Gd x) (hl : zs.length + (kids x).length ≤ 1000000) :
    ∃ cs', sMid ⟨[h, o, some (.c k), some (.d x), some (.d x), s5, s6], cs⟩ = .ok .nx ⟨[h, o, some (.c k), some (.d x), some (.d x), some (.d (.bl true)), s6], cs'⟩ ∧ cs'[k]? = some (.own (pairs (zs ++ kids x))) ∧ cs'.take k = cs.take k := by
  cases x with
  | non  => exact s_mid_non hc hx hl
  | bl b => exact s_mid_bl hc hx hl
  | int b => exact s_mid_int hc hx hl
  | str b => exact s_mid_str hc hx hl
  | tup ys => exact s_mid_tup hc hx hl
  | lst ys => exact s_mid_lst hc hx hl
  | klst ys => simp [Gd, Pl] at hx
  | obj n => simp [Gd, Pl] at hx
  | ty n => simp [Gd, Pl] at hx
end Law
end
section
set_option Elab.async false
set_option linter.all false
set_option maxRecDepth 100000
set_option maxHeartbeats 4000000
namespace Law
open PySem Sh
theorem w_step {t : S → OE} {g : S → OS} {n : Nat} {st st1 st2 : S} (h : t st = .ok (.d (.bl true)) st1) (h2 : g st1 = .ok .nx st2) : whileS t g (n + 1) st = whileS t g n st2 := by
  rw [whileS, h, bind_ok, onB_t, h2]
theorem w_stop {t : S → OE} {g : S → OS} {n : Nat} {st st1 : S} (h : t st = .ok (.d (.bl false)) st1) : whileS t g (n + 1) st = .ok .nx st1 := by
  rw [whileS, h, bind_ok, onB_f]; rfl
theorem szD_pos (x : D) : 1 ≤ szD x := by cases x <;> simp [szD]
theorem szDs_len : ∀ zs : List D, zs.length ≤ szDs zs
  | [] => Nat.le_refl _
  | x :: r => by
    have := szDs_len r
    have := szD_pos x
    simp only [szDs, List.length_cons]; omega
theorem szDs_app : ∀ (zs ys : List D), szDs (zs ++ ys) = szDs zs + szDs ys
  | [], ys => by simp [szDs]
  | x :: r, ys => by simp only [List.cons_append, szDs, szDs_app r ys]; omega
theorem kids_sz (x : D) : szDs (kids x) + 1 ≤ szD x := by cases x <;> simp [kids, szD, szDs]
theorem kids_Gd {x : D} (h : Gd x) : ∀ y ∈ kids x, Gd y := by
  intro y hy
  cases x with
  | tup ys =>
    have h1 : Pls ys = true := by simpa [Pl] using h.1
    have h2 : deps ys + 1 ≤ 50 := by simpa [dep] using h.2
    have := dep_mem (show y ∈ ys from hy)
    exact ⟨Pls_mem h1 y hy, by omega⟩
  | lst ys =>
    have h1 : Pls ys = true := by simpa [Pl] using h.1
    have h2 : deps ys + 1 ≤ 50 := by simpa [dep] using h.2
    have := dep_mem (show y ∈ ys from hy)
    exact ⟨Pls_mem h1 y hy, by omega⟩
  | _ => cases hy
theorem s_body {zs : List D} {x : D} {k : Nat} {h o s3 s4 s5 s6 : Option Val} {cs : List Cell} (hc : cs[k]? = some (.own (pairs (zs ++ [x])))) (hx : Gd x) (hl : zs.length + (kids x).length ≤ 1000000) :
    ∃ cs', sBody ⟨[h, o, some (.c k), s3, s4, s5, s6], cs⟩ = .ok .nx ⟨[h, o, some (.c k), some (.d x), some (.d x), some (.d (.bl true)), s6], cs'⟩ ∧ cs'[k]? = some (.own (pairs (zs ++ kids x))) ∧ cs'.take k = cs.take k := by
  have hk : k < cs.length := (List.getElem?_eq_some_iff.mp hc).1
  obtain ⟨cs', h1, h2, h3⟩ := s_mid (h := h) (o := o) (s5 := s5) (s6 := s6) (cs := cs.set k (.own (pairs zs))) (List.getElem?_set_self hk) hx hl
  refine ⟨cs', ?_, h2, by rw [h3, take_set]⟩
  unfold sBody
  rw [seq_nx (s_pop hc), seq_nx h1]
  unfold sEnd
  simp only [e_par, e_parK, e_asg, toD_d, e_nameT, e_consT, e_nilT, Option.bind_some, n_nx, n_ct, n_bk, n_ret, e_for, e_itE, e_itA, e_meth, ty_s, e_run1, e_run2, e_run3, e_run4, s_d1, s_d2, s_od, s_oo, s_o1, s_odd, s_t1, s_td, ic_d, ic_o, ic_t, ic_nil, e_argD, e_argDD, List.replicate, Nat.reduceSub, List.length_cons, List.length_nil, bind_ok, bind_exc, bind_bad, e_seq, th_nx, th_ret, th_exc, th_bk, th_ct, e_set, e_setK, e_ret, e_retK, e_drop, e_dropK, e_retN, e_next, e_brk, e_cnt, e_if, e_ifE, e_and, e_or, e_not, onB_t, onB_f, onB_b, e_var, e_varK, e_c, e_bin, e_un, e_call, e_nil, e_cons, e_tup, e_tupK, e_lst, e_lstK, e_newLst, toDs_nil, toDs_d, Option.map_some, e_callV, e_callVT, ar_nil, ar_cons, ar_d, ar_t, e_argKT, af_d, af_new, af_exc, up_nil, up_cons, end_ret, end_exc, end_nx, out_d, v_add, v_sub, v_neg, v_lt, v_le, v_gt, v_ge, v_eqI, v_neI, v_gcd, v_abs, v_max, v_int, v_lenT, v_lenL, List.getElem?_cons_zero, List.getElem?_cons_succ, List.set_cons_zero, List.set_cons_succ, List.take_zero, List.take_nil, Bool.false_eq_true, if_false, if_true, eq_self, decide_true, decide_false, Bool.not_true, Bool.not_false, Nat.reduceAdd, Nat.reduceLeDiff, Nat.reduceLT, List.nil_append, List.cons_append]
theorem same_loop {h o s6 : Option Val} {k : Nat} : ∀ (n : Nat) (zs : List D) (s3 s4 s5 : Option Val) (cs : List Cell), szDs zs < n → szDs zs ≤ 1000000 → (∀ y ∈ zs, Gd y) → cs[k]? = some (.own (pairs zs)) →
    ∃ s3' s4' s5' cs', whileS sTest sBody n ⟨[h, o, some (.c k), s3, s4, s5, s6], cs⟩ = .ok .nx ⟨[h, o, some (.c k), s3', s4', s5', s6], cs'⟩ ∧ cs'.take k = cs.take k
  | 0, zs, _, _, _, _, hn, _, _, _ => absurd hn (by omega)
  | n + 1, zs, s3, s4, s5, cs, hn, hm, hg, hc => by
    have hk : k < cs.length := (List.getElem?_eq_some_iff.mp hc).1
    have ht := s_test (h := h) (o := o) (s3 := s3) (s4 := s4) (s5 := s5) (s6 := s6) hc hg
    rcases List.eq_nil_or_concat zs with rfl | ⟨zs', x, rfl⟩
    · exact ⟨s3, s4, s5, _, w_stop ht, take_app (by omega)⟩
    · rw [List.concat_eq_append] at *
      have e : (!(zs' ++ [x]).isEmpty) = true := by simp
      rw [e] at ht
      have sz : szDs (zs' ++ [x]) = szDs zs' + szD x := by rw [szDs_app]; simp [szDs]
      have kz := kids_sz x
      have l1 := szDs_len zs'
      have l2 := szDs_len (kids x)
      have hx : Gd x := hg x (by simp)
      have hc2 : (cs ++ [Cell.own []])[k]? = some (.own (pairs (zs' ++ [x]))) := by rw [List.getElem?_append_left hk]; exact hc
      obtain ⟨cs', h1, h2, h3⟩ := s_body (h := h) (o := o) (s3 := s3) (s4 := s4) (s5 := s5) (s6 := s6) hc2 hx (by omega)
      obtain ⟨a, b, c, cs2, h4, h5⟩ := same_loop (h := h) (o := o) (s6 := s6) (k := k) n (zs' ++ kids x) (some (.d x)) (some (.d x)) (some (.d (.bl true))) cs' (by rw [szDs_app]; omega) (by rw [szDs_app]; omega)
        (fun y hy => by
          rcases List.mem_append.mp hy with hy | hy
          · exact hg y (List.mem_append.mpr (.inl hy))
          · exact kids_Gd hx y hy) h2
      exact ⟨a, b, c, cs2, by rw [w_step ht h1, h4], by rw [h5, h3, take_app (by omega)]⟩
theorem same_d {x : D} (hx : Gd x) (hs : szD x ≤ 1000000) : d__law_wb_same [.d x, .d x] = .ok (.d (.bl true)) [] := by
  have hf : szDs [x] < fuelA [.d x, .d x] := by simp only [szDs, fuelA]; omega
  have hm : szDs [x] ≤ 1000000 := by simp only [szDs]; omega
  have hg : ∀ y ∈ [x], Gd y := fun y hy => by rw [List.mem_singleton.mp hy]; exact hx
  rw [d__law_wb_same]
  generalize fuelA [.d x, .d x] = n at hf
  rw [same_is]
  rw [e_run2, s_d2]
  obtain ⟨a, b, c, cs', h1, h2⟩ := same_loop (h := some (.d x)) (o := some (.d x)) (s6 := none) (k := 0) n [x] none none none [.own (pairs [x])] hf hm hg rfl
  have h0 : setS 2 (lstE [(tupE [(varE 0), (varE 1)])]) ⟨some (.d x) :: some (.d x) :: List.replicate (7 - 2) none, []⟩ = .ok .nx ⟨[some (.d x), some (.d x), some (.c 0), none, none, none, none], [.own (pairs [x])]⟩ := by
    simp only [e_par, e_parK, e_asg, toD_d, e_nameT, e_consT, e_nilT, Option.bind_some, n_nx, n_ct, n_bk, n_ret, e_for, e_itE, e_itA, e_meth, ty_s, e_run1, e_run2, e_run3, e_run4, s_d1, s_d2, s_od, s_oo, s_o1, s_odd, s_t1, s_td, ic_d, ic_o, ic_t, ic_nil, e_argD, e_argDD, List.replicate, Nat.reduceSub, List.length_cons, List.length_nil, bind_ok, bind_exc, bind_bad, e_seq, th_nx, th_ret, th_exc, th_bk, th_ct, e_set, e_setK, e_ret, e_retK, e_drop, e_dropK, e_retN, e_next, e_brk, e_cnt, e_if, e_ifE, e_and, e_or, e_not, onB_t, onB_f, onB_b, e_var, e_varK, e_c, e_bin, e_un, e_call, e_nil, e_cons, e_tup, e_tupK, e_lst, e_lstK, e_newLst, toDs_nil, toDs_d, Option.map_some, e_callV, e_callVT, ar_nil, ar_cons, ar_d, ar_t, e_argKT, af_d, af_new, af_exc, up_nil, up_cons, end_ret, end_exc, end_nx, out_d, v_add, v_sub, v_neg, v_lt, v_le, v_gt, v_ge, v_eqI, v_neI, v_gcd, v_abs, v_max, v_int, v_lenT, v_lenL, List.getElem?_cons_zero, List.getElem?_cons_succ, List.set_cons_zero, List.set_cons_succ, List.take_zero, List.take_nil, Bool.false_eq_true, if_false, if_true, eq_self, decide_true, decide_false, Bool.not_true, Bool.not_false, Nat.reduceAdd, Nat.reduceLeDiff, Nat.reduceLT, List.nil_append, List.cons_append]; rfl
  rw [seq_nx h0, seq_nx h1]
  rfl
theorem same_o {xs : List D} (hx : Gd (.lst xs)) (hs : szDs xs ≤ 999999) : d__law_wb_same [.o xs, .o xs] = .ok (.d (.bl true)) [.frz xs, .frz xs] := by
  have hf : szDs [.lst xs] < fuelA [.o xs, .o xs] := by simp only [szDs, szD, fuelA]; omega
  have hm : szDs [.lst xs] ≤ 1000000 := by simp only [szDs, szD]; omega
  have hg : ∀ y ∈ [D.lst xs], Gd y := fun y hy => by rw [List.mem_singleton.mp hy]; exact hx
  rw [d__law_wb_same]
  generalize fuelA [.o xs, .o xs] = n at hf
  rw [same_is]
  rw [e_run2, s_oo]
  obtain ⟨a, b, c, cs', h1, h2⟩ := same_loop (h := some (.c 0)) (o := some (.c 1)) (s6 := none) (k := 2) n [.lst xs] none none none [.frz xs, .frz xs, .own (pairs [.lst xs])] hf hm hg rfl
  have h0 : setS 2 (lstE [(tupE [(varE 0), (varE 1)])]) ⟨some (.c 0) :: some (.c 1) :: List.replicate (7 - 2) none, [.own xs, .own xs]⟩ = .ok .nx ⟨[some (.c 0), some (.c 1), some (.c 2), none, none, none, none], [.frz xs, .frz xs, .own (pairs [.lst xs])]⟩ := rfl
  rw [seq_nx h0, seq_nx h1]
  show RD.ok _ (cs'.take 2) = _
  rw [h2]
  rfl
end Law
end
section
set_option Elab.async false
set_option linter.all false
set_option maxRecDepth 100000
set_option maxHeartbeats 4000000
namespace Law
open PySem Sh
theorem Pls_get {xs : List D} (h : Pls xs = true) : ∀ y ∈ xs, Pl y = true := Pls_mem h
theorem plt {xs : List D} (h : Pl (.tup xs) = true) : ∀ y ∈ xs, Pl y = true := Pls_mem (by simpa [Pl] using h)
/-! ### sums -/
def sumB (n : Int) : D → Bool
  | .tup xs => ((xs.length : Int) == n) && xs.all (inB (-1000) 1000)
  | _ => false
theorem issum_ok {n : Int} {x : D} (h : Pl x = true) (hl : ∀ xs, x = .tup xs → xs.length ≤ 1000000) : d_is_sum [.d (.int n), .d x] = .ok (.d (.bl (sumB n x))) [] := by
  cases x with
  | tup xs =>
    have hp := plt h
    rw [d_is_sum, e_run2, s_d2]
    unfold m_is_sum
    by_cases hn : (xs.length : Int) = n
    · have hb : ((xs.length : Int) == n) = true := by rw [hn]; exact beq_self_eq_true n
      have hc := comp_map (it := itE (varE 1)) (g := nameT 2) (f := callE (callV d_whole) [(varE 2), (un1 negV k_MOST_ENTRY), k_MOST_ENTRY]) (us := [2]) (v0 := [some (.d (.int n)), some (.d (.tup xs)), none]) (cs := []) (ck := none) (L := xs) (st := ⟨[some (.d (.int n)), some (.d (.tup xs)), none], []⟩)
        (fun y => .bl (inB (-1000) 1000 y)) (fun y => [some (.d (.int n)), some (.d (.tup xs)), some (.d y)]) (by simp only [e_par, e_parK, e_asg, toD_d, e_nameT, e_consT, e_nilT, Option.bind_some, n_nx, n_ct, n_bk, n_ret, e_for, e_itE, e_itA, e_meth, ty_s, e_run1, e_run2, e_run3, e_run4, s_d1, s_d2, s_od, s_oo, s_o1, s_odd, s_t1, s_td, ic_d, ic_o, ic_t, ic_nil, e_argD, e_argDD, List.replicate, Nat.reduceSub, List.length_cons, List.length_nil, bind_ok, bind_exc, bind_bad, e_seq, th_nx, th_ret, th_exc, th_bk, th_ct, e_set, e_setK, e_ret, e_retK, e_drop, e_dropK, e_retN, e_next, e_brk, e_cnt, e_if, e_ifE, e_and, e_or, e_not, onB_t, onB_f, onB_b, e_var, e_varK, e_c, e_bin, e_un, e_call, e_nil, e_cons, e_tup, e_tupK, e_lst, e_lstK, e_newLst, toDs_nil, toDs_d, Option.map_some, e_callV, e_callVT, ar_nil, ar_cons, ar_d, ar_t, e_argKT, af_d, af_new, af_exc, up_nil, up_cons, end_ret, end_exc, end_nx, out_d, v_add, v_sub, v_neg, v_lt, v_le, v_gt, v_ge, v_eqI, v_neI, v_gcd, v_abs, v_max, v_int, v_lenT, v_lenL, List.getElem?_cons_zero, List.getElem?_cons_succ, List.set_cons_zero, List.set_cons_succ, List.take_zero, List.take_nil, Bool.false_eq_true, if_false, if_true, eq_self, decide_true, decide_false, Bool.not_true, Bool.not_false, Nat.reduceAdd, Nat.reduceLeDiff, Nat.reduceLT, List.nil_append, List.cons_append, i_non_int, i_non_bool, i_non_str, i_non_tuple, i_non_list, i_bl_int, i_bl_bool, i_bl_str, i_bl_tuple, i_bl_list, n_is_bl, n_no_bl, i_int_int, i_int_bool, i_int_str, i_int_tuple, i_int_list, n_is_int, n_no_int, i_str_int, i_str_bool, i_str_str, i_str_tuple, i_str_list, n_is_str, n_no_str, i_tup_int, i_tup_bool, i_tup_str, i_tup_tuple, i_tup_list, n_is_tup, n_no_tup, i_lst_int, i_lst_bool, i_lst_str, i_lst_tuple, i_lst_list, n_is_lst, n_no_lst, n_is_non, n_no_non, s_d3, s_d4, e_argD3, e_chain, v_toB, v_ix0, v_ix1, v_ix2, e_raise, e_raiseK, v_itT]) gd_none (hl xs rfl) fun y hy => ⟨rfl, by
          have q := dwhole_ok (lo := -1000) (hi := 1000) (Pl.P (hp y hy))
          simp only [e_par, e_parK, e_asg, toD_d, e_nameT, e_consT, e_nilT, Option.bind_some, n_nx, n_ct, n_bk, n_ret, e_for, e_itE, e_itA, e_meth, ty_s, e_run1, e_run2, e_run3, e_run4, s_d1, s_d2, s_od, s_oo, s_o1, s_odd, s_t1, s_td, ic_d, ic_o, ic_t, ic_nil, e_argD, e_argDD, List.replicate, Nat.reduceSub, List.length_cons, List.length_nil, bind_ok, bind_exc, bind_bad, e_seq, th_nx, th_ret, th_exc, th_bk, th_ct, e_set, e_setK, e_ret, e_retK, e_drop, e_dropK, e_retN, e_next, e_brk, e_cnt, e_if, e_ifE, e_and, e_or, e_not, onB_t, onB_f, onB_b, e_var, e_varK, e_c, e_bin, e_un, e_call, e_nil, e_cons, e_tup, e_tupK, e_lst, e_lstK, e_newLst, toDs_nil, toDs_d, Option.map_some, e_callV, e_callVT, ar_nil, ar_cons, ar_d, ar_t, e_argKT, af_d, af_new, af_exc, up_nil, up_cons, end_ret, end_exc, end_nx, out_d, v_add, v_sub, v_neg, v_lt, v_le, v_gt, v_ge, v_eqI, v_neI, v_gcd, v_abs, v_max, v_int, v_lenT, v_lenL, List.getElem?_cons_zero, List.getElem?_cons_succ, List.set_cons_zero, List.set_cons_succ, List.take_zero, List.take_nil, Bool.false_eq_true, if_false, if_true, eq_self, decide_true, decide_false, Bool.not_true, Bool.not_false, Nat.reduceAdd, Nat.reduceLeDiff, Nat.reduceLT, List.nil_append, List.cons_append, i_non_int, i_non_bool, i_non_str, i_non_tuple, i_non_list, i_bl_int, i_bl_bool, i_bl_str, i_bl_tuple, i_bl_list, n_is_bl, n_no_bl, i_int_int, i_int_bool, i_int_str, i_int_tuple, i_int_list, n_is_int, n_no_int, i_str_int, i_str_bool, i_str_str, i_str_tuple, i_str_list, n_is_str, n_no_str, i_tup_int, i_tup_bool, i_tup_str, i_tup_tuple, i_tup_list, n_is_tup, n_no_tup, i_lst_int, i_lst_bool, i_lst_str, i_lst_tuple, i_lst_list, n_is_lst, n_no_lst, n_is_non, n_no_non, s_d3, s_d4, e_argD3, e_chain, v_toB, v_ix0, v_ix1, v_ix2, e_raise, e_raiseK, k_MOST_ENTRY]
          show afterD [] _ (d_whole [.d y, .d (.int (-1000)), .d (.int 1000)]) = _
          rw [q, af_d, up_nil]⟩
      simp only [e_par, e_parK, e_asg, toD_d, e_nameT, e_consT, e_nilT, Option.bind_some, n_nx, n_ct, n_bk, n_ret, e_for, e_itE, e_itA, e_meth, ty_s, e_run1, e_run2, e_run3, e_run4, s_d1, s_d2, s_od, s_oo, s_o1, s_odd, s_t1, s_td, ic_d, ic_o, ic_t, ic_nil, e_argD, e_argDD, List.replicate, Nat.reduceSub, List.length_cons, List.length_nil, bind_ok, bind_exc, bind_bad, e_seq, th_nx, th_ret, th_exc, th_bk, th_ct, e_set, e_setK, e_ret, e_retK, e_drop, e_dropK, e_retN, e_next, e_brk, e_cnt, e_if, e_ifE, e_and, e_or, e_not, onB_t, onB_f, onB_b, e_var, e_varK, e_c, e_bin, e_un, e_call, e_nil, e_cons, e_tup, e_tupK, e_lst, e_lstK, e_newLst, toDs_nil, toDs_d, Option.map_some, e_callV, e_callVT, ar_nil, ar_cons, ar_d, ar_t, e_argKT, af_d, af_new, af_exc, up_nil, up_cons, end_ret, end_exc, end_nx, out_d, v_add, v_sub, v_neg, v_lt, v_le, v_gt, v_ge, v_eqI, v_neI, v_gcd, v_abs, v_max, v_int, v_lenT, v_lenL, List.getElem?_cons_zero, List.getElem?_cons_succ, List.set_cons_zero, List.set_cons_succ, List.take_zero, List.take_nil, Bool.false_eq_true, if_false, if_true, eq_self, decide_true, decide_false, Bool.not_true, Bool.not_false, Nat.reduceAdd, Nat.reduceLeDiff, Nat.reduceLT, List.nil_append, List.cons_append, i_non_int, i_non_bool, i_non_str, i_non_tuple, i_non_list, i_bl_int, i_bl_bool, i_bl_str, i_bl_tuple, i_bl_list, n_is_bl, n_no_bl, i_int_int, i_int_bool, i_int_str, i_int_tuple, i_int_list, n_is_int, n_no_int, i_str_int, i_str_bool, i_str_str, i_str_tuple, i_str_list, n_is_str, n_no_str, i_tup_int, i_tup_bool, i_tup_str, i_tup_tuple, i_tup_list, n_is_tup, n_no_tup, i_lst_int, i_lst_bool, i_lst_str, i_lst_tuple, i_lst_list, n_is_lst, n_no_lst, n_is_non, n_no_non, s_d3, s_d4, e_argD3, e_chain, v_toB, v_ix0, v_ix1, v_ix2, e_raise, e_raiseK, hb]
      rw [hc]
      simp only [e_par, e_parK, e_asg, toD_d, e_nameT, e_consT, e_nilT, Option.bind_some, n_nx, n_ct, n_bk, n_ret, e_for, e_itE, e_itA, e_meth, ty_s, e_run1, e_run2, e_run3, e_run4, s_d1, s_d2, s_od, s_oo, s_o1, s_odd, s_t1, s_td, ic_d, ic_o, ic_t, ic_nil, e_argD, e_argDD, List.replicate, Nat.reduceSub, List.length_cons, List.length_nil, bind_ok, bind_exc, bind_bad, e_seq, th_nx, th_ret, th_exc, th_bk, th_ct, e_set, e_setK, e_ret, e_retK, e_drop, e_dropK, e_retN, e_next, e_brk, e_cnt, e_if, e_ifE, e_and, e_or, e_not, onB_t, onB_f, onB_b, e_var, e_varK, e_c, e_bin, e_un, e_call, e_nil, e_cons, e_tup, e_tupK, e_lst, e_lstK, e_newLst, toDs_nil, toDs_d, Option.map_some, e_callV, e_callVT, ar_nil, ar_cons, ar_d, ar_t, e_argKT, af_d, af_new, af_exc, up_nil, up_cons, end_ret, end_exc, end_nx, out_d, v_add, v_sub, v_neg, v_lt, v_le, v_gt, v_ge, v_eqI, v_neI, v_gcd, v_abs, v_max, v_int, v_lenT, v_lenL, List.getElem?_cons_zero, List.getElem?_cons_succ, List.set_cons_zero, List.set_cons_succ, List.take_zero, List.take_nil, Bool.false_eq_true, if_false, if_true, eq_self, decide_true, decide_false, Bool.not_true, Bool.not_false, Nat.reduceAdd, Nat.reduceLeDiff, Nat.reduceLT, List.nil_append, List.cons_append, i_non_int, i_non_bool, i_non_str, i_non_tuple, i_non_list, i_bl_int, i_bl_bool, i_bl_str, i_bl_tuple, i_bl_list, n_is_bl, n_no_bl, i_int_int, i_int_bool, i_int_str, i_int_tuple, i_int_list, n_is_int, n_no_int, i_str_int, i_str_bool, i_str_str, i_str_tuple, i_str_list, n_is_str, n_no_str, i_tup_int, i_tup_bool, i_tup_str, i_tup_tuple, i_tup_list, n_is_tup, n_no_tup, i_lst_int, i_lst_bool, i_lst_str, i_lst_tuple, i_lst_list, n_is_lst, n_no_lst, n_is_non, n_no_non, s_d3, s_d4, e_argD3, e_chain, v_toB, v_ix0, v_ix1, v_ix2, e_raise, e_raiseK]
      rw [v_all (L := xs) (p := inB (-1000) 1000) (by simp)]
      simp only [sumB, hb, Bool.true_and]
      all_goals rfl
    · have hb : ((xs.length : Int) == n) = false := beq_eq_false_iff_ne.mpr hn
      simp only [e_par, e_parK, e_asg, toD_d, e_nameT, e_consT, e_nilT, Option.bind_some, n_nx, n_ct, n_bk, n_ret, e_for, e_itE, e_itA, e_meth, ty_s, e_run1, e_run2, e_run3, e_run4, s_d1, s_d2, s_od, s_oo, s_o1, s_odd, s_t1, s_td, ic_d, ic_o, ic_t, ic_nil, e_argD, e_argDD, List.replicate, Nat.reduceSub, List.length_cons, List.length_nil, bind_ok, bind_exc, bind_bad, e_seq, th_nx, th_ret, th_exc, th_bk, th_ct, e_set, e_setK, e_ret, e_retK, e_drop, e_dropK, e_retN, e_next, e_brk, e_cnt, e_if, e_ifE, e_and, e_or, e_not, onB_t, onB_f, onB_b, e_var, e_varK, e_c, e_bin, e_un, e_call, e_nil, e_cons, e_tup, e_tupK, e_lst, e_lstK, e_newLst, toDs_nil, toDs_d, Option.map_some, e_callV, e_callVT, ar_nil, ar_cons, ar_d, ar_t, e_argKT, af_d, af_new, af_exc, up_nil, up_cons, end_ret, end_exc, end_nx, out_d, v_add, v_sub, v_neg, v_lt, v_le, v_gt, v_ge, v_eqI, v_neI, v_gcd, v_abs, v_max, v_int, v_lenT, v_lenL, List.getElem?_cons_zero, List.getElem?_cons_succ, List.set_cons_zero, List.set_cons_succ, List.take_zero, List.take_nil, Bool.false_eq_true, if_false, if_true, eq_self, decide_true, decide_false, Bool.not_true, Bool.not_false, Nat.reduceAdd, Nat.reduceLeDiff, Nat.reduceLT, List.nil_append, List.cons_append, i_non_int, i_non_bool, i_non_str, i_non_tuple, i_non_list, i_bl_int, i_bl_bool, i_bl_str, i_bl_tuple, i_bl_list, n_is_bl, n_no_bl, i_int_int, i_int_bool, i_int_str, i_int_tuple, i_int_list, n_is_int, n_no_int, i_str_int, i_str_bool, i_str_str, i_str_tuple, i_str_list, n_is_str, n_no_str, i_tup_int, i_tup_bool, i_tup_str, i_tup_tuple, i_tup_list, n_is_tup, n_no_tup, i_lst_int, i_lst_bool, i_lst_str, i_lst_tuple, i_lst_list, n_is_lst, n_no_lst, n_is_non, n_no_non, s_d3, s_d4, e_argD3, e_chain, v_toB, v_ix0, v_ix1, v_ix2, e_raise, e_raiseK, hb, sumB, Bool.false_and]
      all_goals rfl
  | non => rfl
  | bl b => rfl
  | int b => rfl
  | str b => rfl
  | lst b => rfl
  | klst b => simp [Pl] at h
  | obj b => simp [Pl] at h
  | ty b => simp [Pl] at h
theorem fs_ix {xs : List D} {i : Nat} (hi : i < xs.length) (st : S) : ixV (.d (.tup xs)) (.d (.int i)) st = .ok (.d xs[i]) st := v_ixT (atI_nat hi)
/-- the law's own -/
def faultB (n : Int) (x : D) : D := if sumB n x then .non else match x with
  | .tup xs => if (xs.length : Int) == n then oD (fo (inB (-1000) 1000) 0 xs) else .int (-1)
  | _ => .int (-1)
theorem fo_all {p : D → Bool} : ∀ (xs : List D) (n : Nat), xs.all p = true ↔ fo p n xs = none
  | [], n => by simp [fo]
  | x :: r, n => by
    rw [List.all_cons, Bool.and_eq_true, fo_all r (n + 1)]
    simp only [fo]
    cases p x <;> simp
theorem sumfault_ok {n : Int} {x : D} (h : Pl x = true) (hl : ∀ xs, x = .tup xs → xs.length ≤ 1000000) : ∃ y, d__law_wb_sum_fault [.d (.int n), .d x] = .ok (.d y) [] ∧ (sumB n x = true → y = .non) ∧ (sumB n x = false → ∃ i, y = .int i) := by
  cases x with
  | tup xs =>
    have hp := plt h
    rw [d__law_wb_sum_fault, e_run2, s_d2]
    simp only [List.replicate, Nat.reduceSub]
    unfold m__law_wb_sum_fault
    by_cases hn : (xs.length : Int) = n
    · have hb : ((xs.length : Int) == n) = true := by rw [hn]; exact beq_self_eq_true n
      have hll := hl xs rfl
      have hc := comp_pure (it := itA rng1V [(varE 0)]) (g := nameT 3) (t := notE (callE (callV d__law_wb_is_in) [(bin2 ixV (varE 1) (varE 3)), (un1 negV (cE (.int 1000))), (cE (.int 1000))])) (f := varE 3) (us := [3]) (v0 := [some (.d (.int n)), some (.d (.tup xs)), none, none]) (cs := []) (ck := none) (L := rngL 0 xs.length) (st := ⟨[some (.d (.int n)), some (.d (.tup xs)), none, none], []⟩)
        (fun y => match y with | .int i => !((xs[i.toNat]?).all (inB (-1000) 1000)) | _ => false) (fun y => y) (fun y => [some (.d (.int n)), some (.d (.tup xs)), none, some (.d y)]) (e_rngL (by rw [← hn]; simp only [e_par, e_parK, e_asg, toD_d, e_nameT, e_consT, e_nilT, Option.bind_some, n_nx, n_ct, n_bk, n_ret, e_for, e_itE, e_itA, e_meth, ty_s, e_run1, e_run2, e_run3, e_run4, s_d1, s_d2, s_od, s_oo, s_o1, s_odd, s_t1, s_td, ic_d, ic_o, ic_t, ic_nil, e_argD, e_argDD, List.replicate, Nat.reduceSub, List.length_cons, List.length_nil, bind_ok, bind_exc, bind_bad, e_seq, th_nx, th_ret, th_exc, th_bk, th_ct, e_set, e_setK, e_ret, e_retK, e_drop, e_dropK, e_retN, e_next, e_brk, e_cnt, e_if, e_ifE, e_and, e_or, e_not, onB_t, onB_f, onB_b, e_var, e_varK, e_c, e_bin, e_un, e_call, e_nil, e_cons, e_tup, e_tupK, e_lst, e_lstK, e_newLst, toDs_nil, toDs_d, Option.map_some, e_callV, e_callVT, ar_nil, ar_cons, ar_d, ar_t, e_argKT, af_d, af_new, af_exc, up_nil, up_cons, end_ret, end_exc, end_nx, out_d, v_add, v_sub, v_neg, v_lt, v_le, v_gt, v_ge, v_eqI, v_neI, v_gcd, v_abs, v_max, v_int, v_lenT, v_lenL, List.getElem?_cons_zero, List.getElem?_cons_succ, List.set_cons_zero, List.set_cons_succ, List.take_zero, List.take_nil, Bool.false_eq_true, if_false, if_true, eq_self, decide_true, decide_false, Bool.not_true, Bool.not_false, Nat.reduceAdd, Nat.reduceLeDiff, Nat.reduceLT, List.nil_append, List.cons_append, i_non_int, i_non_bool, i_non_str, i_non_tuple, i_non_list, i_bl_int, i_bl_bool, i_bl_str, i_bl_tuple, i_bl_list, n_is_bl, n_no_bl, i_int_int, i_int_bool, i_int_str, i_int_tuple, i_int_list, n_is_int, n_no_int, i_str_int, i_str_bool, i_str_str, i_str_tuple, i_str_list, n_is_str, n_no_str, i_tup_int, i_tup_bool, i_tup_str, i_tup_tuple, i_tup_list, n_is_tup, n_no_tup, i_lst_int, i_lst_bool, i_lst_str, i_lst_tuple, i_lst_list, n_is_lst, n_no_lst, n_is_non, n_no_non, s_d3, s_d4, e_argD3, e_chain, v_toB, v_ix0, v_ix1, v_ix2, e_raise, e_raiseK]) (bgl hll)) gd_none (by rw [rng_len]; exact hll) fun y hy => by
          obtain ⟨i, hi, rfl⟩ := rng_lt y hy
          have q := isin_ok (x := xs[i]) (lo := -1000) (hi := 1000) (Pl.P (hp _ (List.getElem_mem hi)))
          refine ⟨rfl, ?_, fun _ => rfl⟩
          have e2 : seqE [(bin2 ixV (varE 1) (varE 3)), (un1 negV (cE (.int 1000))), (cE (.int 1000))] ⟨[some (.d (.int n)), some (.d (.tup xs)), none, some (.d (.int i))], []⟩ = .ok [.d xs[i], .d (.int (-1000)), .d (.int 1000)] ⟨[some (.d (.int n)), some (.d (.tup xs)), none, some (.d (.int i))], []⟩ := by
            simp only [e_par, e_parK, e_asg, toD_d, e_nameT, e_consT, e_nilT, Option.bind_some, n_nx, n_ct, n_bk, n_ret, e_for, e_itE, e_itA, e_meth, ty_s, e_run1, e_run2, e_run3, e_run4, s_d1, s_d2, s_od, s_oo, s_o1, s_odd, s_t1, s_td, ic_d, ic_o, ic_t, ic_nil, e_argD, e_argDD, List.replicate, Nat.reduceSub, List.length_cons, List.length_nil, bind_ok, bind_exc, bind_bad, e_seq, th_nx, th_ret, th_exc, th_bk, th_ct, e_set, e_setK, e_ret, e_retK, e_drop, e_dropK, e_retN, e_next, e_brk, e_cnt, e_if, e_ifE, e_and, e_or, e_not, onB_t, onB_f, onB_b, e_var, e_varK, e_c, e_bin, e_un, e_call, e_nil, e_cons, e_tup, e_tupK, e_lst, e_lstK, e_newLst, toDs_nil, toDs_d, Option.map_some, e_callV, e_callVT, ar_nil, ar_cons, ar_d, ar_t, e_argKT, af_d, af_new, af_exc, up_nil, up_cons, end_ret, end_exc, end_nx, out_d, v_add, v_sub, v_neg, v_lt, v_le, v_gt, v_ge, v_eqI, v_neI, v_gcd, v_abs, v_max, v_int, v_lenT, v_lenL, List.getElem?_cons_zero, List.getElem?_cons_succ, List.set_cons_zero, List.set_cons_succ, List.take_zero, List.take_nil, Bool.false_eq_true, if_false, if_true, eq_self, decide_true, decide_false, Bool.not_true, Bool.not_false, Nat.reduceAdd, Nat.reduceLeDiff, Nat.reduceLT, List.nil_append, List.cons_append, i_non_int, i_non_bool, i_non_str, i_non_tuple, i_non_list, i_bl_int, i_bl_bool, i_bl_str, i_bl_tuple, i_bl_list, n_is_bl, n_no_bl, i_int_int, i_int_bool, i_int_str, i_int_tuple, i_int_list, n_is_int, n_no_int, i_str_int, i_str_bool, i_str_str, i_str_tuple, i_str_list, n_is_str, n_no_str, i_tup_int, i_tup_bool, i_tup_str, i_tup_tuple, i_tup_list, n_is_tup, n_no_tup, i_lst_int, i_lst_bool, i_lst_str, i_lst_tuple, i_lst_list, n_is_lst, n_no_lst, n_is_non, n_no_non, s_d3, s_d4, e_argD3, e_chain, v_toB, v_ix0, v_ix1, v_ix2, e_raise, e_raiseK, fs_ix hi]
          rw [e_not, e_call, e2, bind_ok]
          show (afterD [] _ (d__law_wb_is_in [.d xs[i], .d (.int (-1000)), .d (.int 1000)])).bind _ = _
          rw [q, af_d, up_nil, bind_ok]
          simp only [Int.toNat_natCast, List.getElem?_eq_getElem hi, Option.all_some]
          cases inB (-1000) 1000 xs[i] <;> rfl
      have hz : (List.map (fun y => y) ((rngL 0 xs.length).filter (fun y => match y with | .int i => !((xs[i.toNat]?).all (inB (-1000) 1000)) | _ => false))) = (rngL 0 xs.length).filter (fun y => match y with | .int i => !((xs[i.toNat]?).all (inB (-1000) 1000)) | _ => false) := List.map_id' _
      rw [hz] at hc
      have hf := fo_rng (p := inB (-1000) 1000) (q := fun y => match y with | .int i => !((xs[i.toNat]?).all (inB (-1000) 1000)) | _ => false) (xs := xs) xs.length 0 (by omega) (fun i hi => by simp only [Int.toNat_natCast, List.getElem?_eq_getElem hi, Option.all_some])
      rw [List.drop_zero, List.drop_zero] at hf
      have hi : ∀ y ∈ (rngL 0 xs.length).filter (fun y => match y with | .int i => !((xs[i.toNat]?).all (inB (-1000) 1000)) | _ => false), ∃ i, y = D.int i := fun y hy => rng_int y (List.mem_filter.mp hy).1
      generalize (rngL 0 xs.length).filter (fun y => match y with | .int i => !((xs[i.toNat]?).all (inB (-1000) 1000)) | _ => false) = L at hc hf hi
      have h1 : ifS (orE (notE (callE isiV [(varE 1), (cE (.ty "tuple"))])) (bin2 (eqV true) (callE lenV [(varE 1)]) (varE 0))) (retS (un1 negV (cE (.int 1)))) nextS ⟨[some (.d (.int n)), some (.d (.tup xs)), none, none], []⟩ = .ok .nx ⟨[some (.d (.int n)), some (.d (.tup xs)), none, none], []⟩ := by
        simp only [e_par, e_parK, e_asg, toD_d, e_nameT, e_consT, e_nilT, Option.bind_some, n_nx, n_ct, n_bk, n_ret, e_for, e_itE, e_itA, e_meth, ty_s, e_run1, e_run2, e_run3, e_run4, s_d1, s_d2, s_od, s_oo, s_o1, s_odd, s_t1, s_td, ic_d, ic_o, ic_t, ic_nil, e_argD, e_argDD, List.replicate, Nat.reduceSub, List.length_cons, List.length_nil, bind_ok, bind_exc, bind_bad, e_seq, th_nx, th_ret, th_exc, th_bk, th_ct, e_set, e_setK, e_ret, e_retK, e_drop, e_dropK, e_retN, e_next, e_brk, e_cnt, e_if, e_ifE, e_and, e_or, e_not, onB_t, onB_f, onB_b, e_var, e_varK, e_c, e_bin, e_un, e_call, e_nil, e_cons, e_tup, e_tupK, e_lst, e_lstK, e_newLst, toDs_nil, toDs_d, Option.map_some, e_callV, e_callVT, ar_nil, ar_cons, ar_d, ar_t, e_argKT, af_d, af_new, af_exc, up_nil, up_cons, end_ret, end_exc, end_nx, out_d, v_add, v_sub, v_neg, v_lt, v_le, v_gt, v_ge, v_eqI, v_neI, v_gcd, v_abs, v_max, v_int, v_lenT, v_lenL, List.getElem?_cons_zero, List.getElem?_cons_succ, List.set_cons_zero, List.set_cons_succ, List.take_zero, List.take_nil, Bool.false_eq_true, if_false, if_true, eq_self, decide_true, decide_false, Bool.not_true, Bool.not_false, Nat.reduceAdd, Nat.reduceLeDiff, Nat.reduceLT, List.nil_append, List.cons_append, i_non_int, i_non_bool, i_non_str, i_non_tuple, i_non_list, i_bl_int, i_bl_bool, i_bl_str, i_bl_tuple, i_bl_list, n_is_bl, n_no_bl, i_int_int, i_int_bool, i_int_str, i_int_tuple, i_int_list, n_is_int, n_no_int, i_str_int, i_str_bool, i_str_str, i_str_tuple, i_str_list, n_is_str, n_no_str, i_tup_int, i_tup_bool, i_tup_str, i_tup_tuple, i_tup_list, n_is_tup, n_no_tup, i_lst_int, i_lst_bool, i_lst_str, i_lst_tuple, i_lst_list, n_is_lst, n_no_lst, n_is_non, n_no_non, s_d3, s_d4, e_argD3, e_chain, v_toB, v_ix0, v_ix1, v_ix2, e_raise, e_raiseK, hb]
      have h2 : setS 2 (compE (itA rng1V [(varE 0)]) (nameT 3) (notE (callE (callV d__law_wb_is_in) [(bin2 ixV (varE 1) (varE 3)), (un1 negV (cE (.int 1000))), (cE (.int 1000))])) (varE 3) [3]) ⟨[some (.d (.int n)), some (.d (.tup xs)), none, none], []⟩ = .ok .nx ⟨[some (.d (.int n)), some (.d (.tup xs)), some (.c 0), none], [.own L]⟩ := by
        rw [e_set, hc, bind_ok]; rfl
      have h3 : bin2 (eqV true) (varE 2) (lstE []) ⟨[some (.d (.int n)), some (.d (.tup xs)), some (.c 0), none], [.own L]⟩ = .ok (.d (.bl (!L.isEmpty))) ⟨[some (.d (.int n)), some (.d (.tup xs)), some (.c 0), none], [.own L, .own []]⟩ := by
        simp only [e_par, e_parK, e_asg, toD_d, e_nameT, e_consT, e_nilT, Option.bind_some, n_nx, n_ct, n_bk, n_ret, e_for, e_itE, e_itA, e_meth, ty_s, e_run1, e_run2, e_run3, e_run4, s_d1, s_d2, s_od, s_oo, s_o1, s_odd, s_t1, s_td, ic_d, ic_o, ic_t, ic_nil, e_argD, e_argDD, List.replicate, Nat.reduceSub, List.length_cons, List.length_nil, bind_ok, bind_exc, bind_bad, e_seq, th_nx, th_ret, th_exc, th_bk, th_ct, e_set, e_setK, e_ret, e_retK, e_drop, e_dropK, e_retN, e_next, e_brk, e_cnt, e_if, e_ifE, e_and, e_or, e_not, onB_t, onB_f, onB_b, e_var, e_varK, e_c, e_bin, e_un, e_call, e_nil, e_cons, e_tup, e_tupK, e_lst, e_lstK, e_newLst, toDs_nil, toDs_d, Option.map_some, e_callV, e_callVT, ar_nil, ar_cons, ar_d, ar_t, e_argKT, af_d, af_new, af_exc, up_nil, up_cons, end_ret, end_exc, end_nx, out_d, v_add, v_sub, v_neg, v_lt, v_le, v_gt, v_ge, v_eqI, v_neI, v_gcd, v_abs, v_max, v_int, v_lenT, v_lenL, List.getElem?_cons_zero, List.getElem?_cons_succ, List.set_cons_zero, List.set_cons_succ, List.take_zero, List.take_nil, Bool.false_eq_true, if_false, if_true, eq_self, decide_true, decide_false, Bool.not_true, Bool.not_false, Nat.reduceAdd, Nat.reduceLeDiff, Nat.reduceLT, List.nil_append, List.cons_append, i_non_int, i_non_bool, i_non_str, i_non_tuple, i_non_list, i_bl_int, i_bl_bool, i_bl_str, i_bl_tuple, i_bl_list, n_is_bl, n_no_bl, i_int_int, i_int_bool, i_int_str, i_int_tuple, i_int_list, n_is_int, n_no_int, i_str_int, i_str_bool, i_str_str, i_str_tuple, i_str_list, n_is_str, n_no_str, i_tup_int, i_tup_bool, i_tup_str, i_tup_tuple, i_tup_list, n_is_tup, n_no_tup, i_lst_int, i_lst_bool, i_lst_str, i_lst_tuple, i_lst_list, n_is_lst, n_no_lst, n_is_non, n_no_non, s_d3, s_d4, e_argD3, e_chain, v_toB, v_ix0, v_ix1, v_ix2, e_raise, e_raiseK]
        exact v_eqNil rfl rfl (ok_ints hi).1
      rw [seq_nx h1, seq_nx h2]
      rcases hf with ⟨f1, rfl⟩ | ⟨k, r, hk, f1, rfl⟩
      · refine ⟨.non, ?_, fun _ => rfl, fun z => ?_⟩
        · rw [e_ret, e_ifE, h3, bind_ok]; rfl
        · have := (fo_all xs 0).mpr f1
          simp only [sumB, hb, this] at z
          cases z
      · refine ⟨.int k, ?_, fun z => ?_, fun _ => ⟨_, rfl⟩⟩
        · rw [e_ret, e_ifE, h3, bind_ok]
          show endD 0 ((bin2 ixV (varE 2) (cE (.int 0)) ⟨[some (.d (.int n)), some (.d (.tup xs)), some (.c 0), none], [.own (.int k :: r), .own []]⟩).bind retK) = _
          simp only [e_par, e_parK, e_asg, toD_d, e_nameT, e_consT, e_nilT, Option.bind_some, n_nx, n_ct, n_bk, n_ret, e_for, e_itE, e_itA, e_meth, ty_s, e_run1, e_run2, e_run3, e_run4, s_d1, s_d2, s_od, s_oo, s_o1, s_odd, s_t1, s_td, ic_d, ic_o, ic_t, ic_nil, e_argD, e_argDD, List.replicate, Nat.reduceSub, List.length_cons, List.length_nil, bind_ok, bind_exc, bind_bad, e_seq, th_nx, th_ret, th_exc, th_bk, th_ct, e_set, e_setK, e_ret, e_retK, e_drop, e_dropK, e_retN, e_next, e_brk, e_cnt, e_if, e_ifE, e_and, e_or, e_not, onB_t, onB_f, onB_b, e_var, e_varK, e_c, e_bin, e_un, e_call, e_nil, e_cons, e_tup, e_tupK, e_lst, e_lstK, e_newLst, toDs_nil, toDs_d, Option.map_some, e_callV, e_callVT, ar_nil, ar_cons, ar_d, ar_t, e_argKT, af_d, af_new, af_exc, up_nil, up_cons, end_ret, end_exc, end_nx, out_d, v_add, v_sub, v_neg, v_lt, v_le, v_gt, v_ge, v_eqI, v_neI, v_gcd, v_abs, v_max, v_int, v_lenT, v_lenL, List.getElem?_cons_zero, List.getElem?_cons_succ, List.set_cons_zero, List.set_cons_succ, List.take_zero, List.take_nil, Bool.false_eq_true, if_false, if_true, eq_self, decide_true, decide_false, Bool.not_true, Bool.not_false, Nat.reduceAdd, Nat.reduceLeDiff, Nat.reduceLT, List.nil_append, List.cons_append, i_non_int, i_non_bool, i_non_str, i_non_tuple, i_non_list, i_bl_int, i_bl_bool, i_bl_str, i_bl_tuple, i_bl_list, n_is_bl, n_no_bl, i_int_int, i_int_bool, i_int_str, i_int_tuple, i_int_list, n_is_int, n_no_int, i_str_int, i_str_bool, i_str_str, i_str_tuple, i_str_list, n_is_str, n_no_str, i_tup_int, i_tup_bool, i_tup_str, i_tup_tuple, i_tup_list, n_is_tup, n_no_tup, i_lst_int, i_lst_bool, i_lst_str, i_lst_tuple, i_lst_list, n_is_lst, n_no_lst, n_is_non, n_no_non, s_d3, s_d4, e_argD3, e_chain, v_toB, v_ix0, v_ix1, v_ix2, e_raise, e_raiseK]
          rw [v_ixC0 rfl]
          rfl
        · simp only [sumB, hb, Bool.true_and] at z
          have := (fo_all xs 0).mp z
          rw [this] at f1; cases f1
    · have hb : ((xs.length : Int) == n) = false := beq_eq_false_iff_ne.mpr hn
      refine ⟨.int (-1), ?_, fun z => ?_, fun _ => ⟨_, rfl⟩⟩
      · simp only [e_par, e_parK, e_asg, toD_d, e_nameT, e_consT, e_nilT, Option.bind_some, n_nx, n_ct, n_bk, n_ret, e_for, e_itE, e_itA, e_meth, ty_s, e_run1, e_run2, e_run3, e_run4, s_d1, s_d2, s_od, s_oo, s_o1, s_odd, s_t1, s_td, ic_d, ic_o, ic_t, ic_nil, e_argD, e_argDD, List.replicate, Nat.reduceSub, List.length_cons, List.length_nil, bind_ok, bind_exc, bind_bad, e_seq, th_nx, th_ret, th_exc, th_bk, th_ct, e_set, e_setK, e_ret, e_retK, e_drop, e_dropK, e_retN, e_next, e_brk, e_cnt, e_if, e_ifE, e_and, e_or, e_not, onB_t, onB_f, onB_b, e_var, e_varK, e_c, e_bin, e_un, e_call, e_nil, e_cons, e_tup, e_tupK, e_lst, e_lstK, e_newLst, toDs_nil, toDs_d, Option.map_some, e_callV, e_callVT, ar_nil, ar_cons, ar_d, ar_t, e_argKT, af_d, af_new, af_exc, up_nil, up_cons, end_ret, end_exc, end_nx, out_d, v_add, v_sub, v_neg, v_lt, v_le, v_gt, v_ge, v_eqI, v_neI, v_gcd, v_abs, v_max, v_int, v_lenT, v_lenL, List.getElem?_cons_zero, List.getElem?_cons_succ, List.set_cons_zero, List.set_cons_succ, List.take_zero, List.take_nil, Bool.false_eq_true, if_false, if_true, eq_self, decide_true, decide_false, Bool.not_true, Bool.not_false, Nat.reduceAdd, Nat.reduceLeDiff, Nat.reduceLT, List.nil_append, List.cons_append, i_non_int, i_non_bool, i_non_str, i_non_tuple, i_non_list, i_bl_int, i_bl_bool, i_bl_str, i_bl_tuple, i_bl_list, n_is_bl, n_no_bl, i_int_int, i_int_bool, i_int_str, i_int_tuple, i_int_list, n_is_int, n_no_int, i_str_int, i_str_bool, i_str_str, i_str_tuple, i_str_list, n_is_str, n_no_str, i_tup_int, i_tup_bool, i_tup_str, i_tup_tuple, i_tup_list, n_is_tup, n_no_tup, i_lst_int, i_lst_bool, i_lst_str, i_lst_tuple, i_lst_list, n_is_lst, n_no_lst, n_is_non, n_no_non, s_d3, s_d4, e_argD3, e_chain, v_toB, v_ix0, v_ix1, v_ix2, e_raise, e_raiseK, hb]; all_goals rfl
      · simp only [sumB, hb, Bool.false_and] at z; cases z
  | non => exact ⟨.int (-1), rfl, fun z => (by cases z), fun _ => ⟨_, rfl⟩⟩
  | bl b => exact ⟨.int (-1), rfl, fun z => (by cases z), fun _ => ⟨_, rfl⟩⟩
  | int b => exact ⟨.int (-1), rfl, fun z => (by cases z), fun _ => ⟨_, rfl⟩⟩
  | str b => exact ⟨.int (-1), rfl, fun z => (by cases z), fun _ => ⟨_, rfl⟩⟩
  | lst b => exact ⟨.int (-1), rfl, fun z => (by cases z), fun _ => ⟨_, rfl⟩⟩
  | klst b => simp [Pl] at h
  | obj b => simp [Pl] at h
  | ty b => simp [Pl] at h
end Law
end
section
set_option Elab.async false
set_option linter.all false
set_option maxRecDepth 100000
set_option maxHeartbeats 4000000
namespace Law
open PySem Sh
/-! ### first odd sums -/
def Small (x : D) : Prop := Pl x = true ∧ dep x ≤ 40 ∧ szD x ≤ 10000
theorem Small.len {xs : List D} (h : Small (.tup xs)) : xs.length ≤ 1000000 := by
  have := h.2.2
  have := szDs_len xs
  simp only [szD] at *; omega
theorem sz_mem {xs : List D} {y : D} (h : y ∈ xs) : szD y ≤ szDs xs := by
  induction xs with
  | nil => cases h
  | cons x r ih =>
    simp only [szDs]
    rcases List.mem_cons.mp h with rfl | h
    · omega
    · have := ih h; omega
theorem Small.mem {xs : List D} (h : Small (.tup xs)) : ∀ y ∈ xs, Small y := fun y hy => by
  refine ⟨plt h.1 y hy, ?_, ?_⟩
  · have := h.2.1; have := dep_mem hy; simp only [dep] at *; omega
  · have := h.2.2; have := sz_mem hy; simp only [szD] at *; omega
theorem issum_s {n : Int} {x : D} (h : Small x) : d_is_sum [.d (.int n), .d x] = .ok (.d (.bl (sumB n x))) [] :=
  issum_ok h.1 fun xs e => by subst e; exact h.len
theorem sumfault_s {n : Int} {x : D} (h : Small x) : ∃ y, d__law_wb_sum_fault [.d (.int n), .d x] = .ok (.d y) [] ∧ (sumB n x = true → y = .non) ∧ (sumB n x = false → ∃ i, y = .int i) :=
  sumfault_ok h.1 fun xs e => by subst e; exact h.len
theorem firstsum_ok {n : Int} {xs : List D} (h : ∀ x ∈ xs, Small x) : d_first_odd_sum [.d (.int n), .d (.tup xs)] = .ok (.d (oD (fo (sumB n) 0 xs))) [] := by
  rw [d_first_odd_sum, e_run2, s_d2]
  simp only [List.replicate, Nat.reduceSub]
  unfold m_first_odd_sum
  obtain ⟨st2, ⟨a, b, rfl⟩, h2⟩ := for_fo (g := tupT 2 (consT (nameT 2) (consT (nameT 3) nilT))) (b := ifS (notE (callE (callV d_is_sum) [(varE 0), (varE 3)])) (retS (varE 2)) nextS) (p := sumB n) (fun st => ∃ a b, st = ⟨[some (.d (.int n)), some (.d (.tup xs)), a, b], []⟩) (all := enuL 0 xs) xs 0 ⟨[some (.d (.int n)), some (.d (.tup xs)), none, none], []⟩ ⟨_, _, rfl⟩ fun x hx k st hI => by
    obtain ⟨a, b, rfl⟩ := hI
    refine ⟨_, rfl, ⟨[some (.d (.int n)), some (.d (.tup xs)), some (.d (.int k)), some (.d x)], []⟩, ⟨_, _, rfl⟩, ?_⟩
    have q := issum_s (n := n) (h x hx)
    show ifS _ _ _ ⟨[some (.d (.int n)), some (.d (.tup xs)), some (.d (.int k)), some (.d x)], []⟩ = _
    simp only [e_par, e_parK, e_asg, toD_d, e_nameT, e_consT, e_nilT, Option.bind_some, n_nx, n_ct, n_bk, n_ret, e_for, e_itE, e_itA, e_meth, ty_s, e_run1, e_run2, e_run3, e_run4, s_d1, s_d2, s_od, s_oo, s_o1, s_odd, s_t1, s_td, ic_d, ic_o, ic_t, ic_nil, e_argD, e_argDD, List.replicate, Nat.reduceSub, List.length_cons, List.length_nil, bind_ok, bind_exc, bind_bad, e_seq, th_nx, th_ret, th_exc, th_bk, th_ct, e_set, e_setK, e_ret, e_retK, e_drop, e_dropK, e_retN, e_next, e_brk, e_cnt, e_if, e_ifE, e_and, e_or, e_not, onB_t, onB_f, onB_b, e_var, e_varK, e_c, e_bin, e_un, e_call, e_nil, e_cons, e_tup, e_tupK, e_lst, e_lstK, e_newLst, toDs_nil, toDs_d, Option.map_some, e_callV, e_callVT, ar_nil, ar_cons, ar_d, ar_t, e_argKT, af_d, af_new, af_exc, up_nil, up_cons, end_ret, end_exc, end_nx, out_d, v_add, v_sub, v_neg, v_lt, v_le, v_gt, v_ge, v_eqI, v_neI, v_gcd, v_abs, v_max, v_int, v_lenT, v_lenL, List.getElem?_cons_zero, List.getElem?_cons_succ, List.set_cons_zero, List.set_cons_succ, List.take_zero, List.take_nil, Bool.false_eq_true, if_false, if_true, eq_self, decide_true, decide_false, Bool.not_true, Bool.not_false, Nat.reduceAdd, Nat.reduceLeDiff, Nat.reduceLT, List.nil_append, List.cons_append, i_non_int, i_non_bool, i_non_str, i_non_tuple, i_non_list, i_bl_int, i_bl_bool, i_bl_str, i_bl_tuple, i_bl_list, n_is_bl, n_no_bl, i_int_int, i_int_bool, i_int_str, i_int_tuple, i_int_list, n_is_int, n_no_int, i_str_int, i_str_bool, i_str_str, i_str_tuple, i_str_list, n_is_str, n_no_str, i_tup_int, i_tup_bool, i_tup_str, i_tup_tuple, i_tup_list, n_is_tup, n_no_tup, i_lst_int, i_lst_bool, i_lst_str, i_lst_tuple, i_lst_list, n_is_lst, n_no_lst, n_is_non, n_no_non, s_d3, s_d4, e_argD3, e_chain, v_toB, v_ix0, v_ix1, v_ix2, e_raise, e_raiseK, q]
    cases sumB n x <;> rfl
  have hs : forS (itA enuV [(varE 1)]) (tupT 2 (consT (nameT 2) (consT (nameT 3) nilT))) (ifS (notE (callE (callV d_is_sum) [(varE 0), (varE 3)])) (retS (varE 2)) nextS) ⟨[some (.d (.int n)), some (.d (.tup xs)), none, none], []⟩ = _ := h2
  rw [e_seq, hs]
  cases fo (sumB n) 0 xs <;> rfl
/-! ### ties -/
def nzI : D → Bool
  | .int i => !(i == 0)
  | _ => false
def nz (x : D) : Bool := match x with
  | .tup xs => xs.any nzI
  | _ => false
def manB : D → Bool
  | .str s => s == "firm" || s == "open"
  | _ => false
def tieB (n : Int) : D → Bool
  | .tup [a, b, s] => (sumB n a && nz a) && (sumB n b && nz b) && manB s
  | _ => false
theorem eqD_zeros : ∀ {xs : List D} (k : Nat), (∀ x ∈ xs, ∃ i, x = D.int i) → xs.length = k → eqDs xs (List.replicate k (.int 0)) = !(xs.any nzI)
  | [], 0, _, _ => rfl
  | x :: r, k + 1, h, e => by
    obtain ⟨i, rfl⟩ := h x List.mem_cons_self
    have ih := eqD_zeros (xs := r) k (fun y hy => h y (List.mem_cons_of_mem _ hy)) (by simpa using e)
    rw [List.replicate_succ, eqDs, ih, List.any_cons, eqD]
    show ((i == 0) && !(r.any nzI)) = !(!(i == 0) || r.any nzI)
    cases i == 0 <;> cases r.any nzI <;> rfl
theorem sum_ints {n : Int} {x : D} (h : sumB n x = true) : ∃ xs, x = .tup xs ∧ (xs.length : Int) = n ∧ ∀ y ∈ xs, ∃ i, y = D.int i := by
  unfold sumB at h
  split at h
  · rename_i xs
    rw [Bool.and_eq_true, beq_iff_eq] at h
    refine ⟨xs, rfl, h.1, fun y hy => ?_⟩
    have := List.all_eq_true.mp h.2 y hy
    unfold inB at this
    split at this
    · exact ⟨_, rfl⟩
    · cases this
  · cases h
theorem flat_one {k : Nat} {x : D} : (List.replicate k [x]).flatten = List.replicate k x := by
  induction k with
  | zero => rfl
  | succ k ih => rw [List.replicate_succ, List.flatten_cons, ih, List.replicate_succ]; rfl
theorem mul_zeros {n : Int} (h1 : 1 ≤ n) (h2 : n ≤ 1000) (st : S) : mulW (.d (.tup [.int 0])) (.d (.int n)) st = .ok (.d (.tup (List.replicate n.toNat (.int 0)))) st := by
  unfold mulW
  by_cases e : n = 1
  · subst e; rfl
  · have e1 : ((n == 1) = false) := beq_eq_false_iff_ne.mpr e
    simp only [List.isEmpty_cons, Bool.false_or, e1, Bool.false_and, Bool.false_eq_true, if_false]
    unfold mulV
    exact (if_pos ⟨by simp, by omega, h2, by simp⟩).trans (by rw [flat_one])
theorem ne_zeros {n : Int} {x : D} (h : sumB n x = true) (h1 : 1 ≤ n) (h2 : n ≤ 1000) (st : S) : eqV true (.d x) (.d (.tup (List.replicate n.toNat (.int 0)))) st = .ok (.d (.bl (nz x))) st := by
  obtain ⟨xs, rfl, hl, hi⟩ := sum_ints h
  have o2 : okD (.tup (List.replicate n.toNat (.int 0))) = true := (ok_ints fun y hy => ⟨0, (List.mem_replicate.mp hy).2⟩).2
  rw [v_eq dOf_d dOf_d (ok_ints hi).2 o2]
  simp only [eqD]
  rw [eqD_zeros n.toNat hi (by omega)]
  simp [nz]
theorem istie_ok {n : Int} {x : D} (h1 : 1 ≤ n) (h2 : n ≤ 1000) (h : Small x) : d_is_tie [.d (.int n), .d x] = .ok (.d (.bl (tieB n x))) [] := by
  cases x with
  | tup xs =>
    by_cases hn : xs.length = 3
    · match xs, hn with
      | [a, b, s], _ =>
        have ha := h.mem a (by simp)
        have hb := h.mem b (by simp)
        have hs := h.mem s (by simp)
        rw [d_is_tie, e_run2, s_d2]
        simp only [List.replicate, Nat.reduceSub]
        unfold m_is_tie
        have i1 : ifS (orE (notE (callE isiV [(varE 1), (cE (.ty "tuple"))])) (bin2 (eqV true) (callE lenV [(varE 1)]) k_TIE_PARTS)) (retS (cE (.bl false))) nextS ⟨[some (.d (.int n)), some (.d (.tup [a, b, s])), none], []⟩ = .ok .nx ⟨[some (.d (.int n)), some (.d (.tup [a, b, s])), none], []⟩ := rfl
        have hc := comp_map (it := itE (sliceE (varE 1) noP (atP (cE (.int 2))))) (g := nameT 2) (f := andE (callE (callV d_is_sum) [(varE 0), (varE 2)]) (bin2 (eqV true) (varE 2) (bin2 mulW (tupE [(cE (.int 0))]) (varE 0)))) (us := [2]) (v0 := [some (.d (.int n)), some (.d (.tup [a, b, s])), none]) (cs := []) (ck := none) (L := [a, b]) (st := ⟨[some (.d (.int n)), some (.d (.tup [a, b, s])), none], []⟩)
          (fun y => .bl (sumB n y && nz y)) (fun y => [some (.d (.int n)), some (.d (.tup [a, b, s])), some (.d y)]) rfl gd_none (by simp) fun y hy => ⟨rfl, by
            have hy' : Small y := by
              rcases List.mem_cons.mp hy with rfl | hy
              · exact ha
              · rw [List.mem_singleton.mp hy]; exact hb
            have q := issum_s (n := n) hy'
            simp only [e_par, e_parK, e_asg, toD_d, e_nameT, e_consT, e_nilT, Option.bind_some, n_nx, n_ct, n_bk, n_ret, e_for, e_itE, e_itA, e_meth, ty_s, e_run1, e_run2, e_run3, e_run4, s_d1, s_d2, s_od, s_oo, s_o1, s_odd, s_t1, s_td, ic_d, ic_o, ic_t, ic_nil, e_argD, e_argDD, List.replicate, Nat.reduceSub, List.length_cons, List.length_nil, bind_ok, bind_exc, bind_bad, e_seq, th_nx, th_ret, th_exc, th_bk, th_ct, e_set, e_setK, e_ret, e_retK, e_drop, e_dropK, e_retN, e_next, e_brk, e_cnt, e_if, e_ifE, e_and, e_or, e_not, onB_t, onB_f, onB_b, e_var, e_varK, e_c, e_bin, e_un, e_call, e_nil, e_cons, e_tup, e_tupK, e_lst, e_lstK, e_newLst, toDs_nil, toDs_d, Option.map_some, e_callV, e_callVT, ar_nil, ar_cons, ar_d, ar_t, e_argKT, af_d, af_new, af_exc, up_nil, up_cons, end_ret, end_exc, end_nx, out_d, v_add, v_sub, v_neg, v_lt, v_le, v_gt, v_ge, v_eqI, v_neI, v_gcd, v_abs, v_max, v_int, v_lenT, v_lenL, List.getElem?_cons_zero, List.getElem?_cons_succ, List.set_cons_zero, List.set_cons_succ, List.take_zero, List.take_nil, Bool.false_eq_true, if_false, if_true, eq_self, decide_true, decide_false, Bool.not_true, Bool.not_false, Nat.reduceAdd, Nat.reduceLeDiff, Nat.reduceLT, List.nil_append, List.cons_append, i_non_int, i_non_bool, i_non_str, i_non_tuple, i_non_list, i_bl_int, i_bl_bool, i_bl_str, i_bl_tuple, i_bl_list, n_is_bl, n_no_bl, i_int_int, i_int_bool, i_int_str, i_int_tuple, i_int_list, n_is_int, n_no_int, i_str_int, i_str_bool, i_str_str, i_str_tuple, i_str_list, n_is_str, n_no_str, i_tup_int, i_tup_bool, i_tup_str, i_tup_tuple, i_tup_list, n_is_tup, n_no_tup, i_lst_int, i_lst_bool, i_lst_str, i_lst_tuple, i_lst_list, n_is_lst, n_no_lst, n_is_non, n_no_non, s_d3, s_d4, e_argD3, e_chain, v_toB, v_ix0, v_ix1, v_ix2, e_raise, e_raiseK, q]
            cases e : sumB n y with
            | false => rfl
            | true => simp only [if_true, mul_zeros h1 h2, bind_ok, e_par, e_parK, e_asg, toD_d, e_nameT, e_consT, e_nilT, Option.bind_some, n_nx, n_ct, n_bk, n_ret, e_for, e_itE, e_itA, e_meth, ty_s, e_run1, e_run2, e_run3, e_run4, s_d1, s_d2, s_od, s_oo, s_o1, s_odd, s_t1, s_td, ic_d, ic_o, ic_t, ic_nil, e_argD, e_argDD, List.replicate, Nat.reduceSub, List.length_cons, List.length_nil, bind_ok, bind_exc, bind_bad, e_seq, th_nx, th_ret, th_exc, th_bk, th_ct, e_set, e_setK, e_ret, e_retK, e_drop, e_dropK, e_retN, e_next, e_brk, e_cnt, e_if, e_ifE, e_and, e_or, e_not, onB_t, onB_f, onB_b, e_var, e_varK, e_c, e_bin, e_un, e_call, e_nil, e_cons, e_tup, e_tupK, e_lst, e_lstK, e_newLst, toDs_nil, toDs_d, Option.map_some, e_callV, e_callVT, ar_nil, ar_cons, ar_d, ar_t, e_argKT, af_d, af_new, af_exc, up_nil, up_cons, end_ret, end_exc, end_nx, out_d, v_add, v_sub, v_neg, v_lt, v_le, v_gt, v_ge, v_eqI, v_neI, v_gcd, v_abs, v_max, v_int, v_lenT, v_lenL, List.getElem?_cons_zero, List.getElem?_cons_succ, List.set_cons_zero, List.set_cons_succ, List.take_zero, List.take_nil, Bool.false_eq_true, if_false, if_true, eq_self, decide_true, decide_false, Bool.not_true, Bool.not_false, Nat.reduceAdd, Nat.reduceLeDiff, Nat.reduceLT, List.nil_append, List.cons_append, i_non_int, i_non_bool, i_non_str, i_non_tuple, i_non_list, i_bl_int, i_bl_bool, i_bl_str, i_bl_tuple, i_bl_list, n_is_bl, n_no_bl, i_int_int, i_int_bool, i_int_str, i_int_tuple, i_int_list, n_is_int, n_no_int, i_str_int, i_str_bool, i_str_str, i_str_tuple, i_str_list, n_is_str, n_no_str, i_tup_int, i_tup_bool, i_tup_str, i_tup_tuple, i_tup_list, n_is_tup, n_no_tup, i_lst_int, i_lst_bool, i_lst_str, i_lst_tuple, i_lst_list, n_is_lst, n_no_lst, n_is_non, n_no_non, s_d3, s_d4, e_argD3, e_chain, v_toB, v_ix0, v_ix1, v_ix2, e_raise, e_raiseK, ne_zeros e h1 h2, Bool.true_and]⟩
        obtain ⟨cs', hc, hg⟩ : ∃ cs', compE (itE (sliceE (varE 1) noP (atP (cE (.int 2))))) (nameT 2) (cE (.bl true)) (andE (callE (callV d_is_sum) [(varE 0), (varE 2)]) (bin2 (eqV true) (varE 2) (bin2 mulW (tupE [(cE (.int 0))]) (varE 0)))) [2] ⟨[some (.d (.int n)), some (.d (.tup [a, b, s])), none], []⟩ = .ok (.c 0) ⟨[some (.d (.int n)), some (.d (.tup [a, b, s])), none], cs'⟩ ∧ cs'[0]? = some (.own ([a, b].map fun y => .bl (sumB n y && nz y))) := ⟨_, hc, rfl⟩
        have i2 : ifS (notE (callE allV [(compE (itE (sliceE (varE 1) noP (atP (cE (.int 2))))) (nameT 2) (cE (.bl true)) (andE (callE (callV d_is_sum) [(varE 0), (varE 2)]) (bin2 (eqV true) (varE 2) (bin2 mulW (tupE [(cE (.int 0))]) (varE 0)))) [2])])) (retS (cE (.bl false))) nextS ⟨[some (.d (.int n)), some (.d (.tup [a, b, s])), none], []⟩ =
            .ok (if (sumB n a && nz a) && (sumB n b && nz b) then .nx else .ret (.d (.bl false))) ⟨[some (.d (.int n)), some (.d (.tup [a, b, s])), none], cs'⟩ := by
          rw [e_if, e_not, e_call, e_cons, hc, bind_ok, e_nil, bind_ok, bind_ok]
          rw [v_all (L := [a, b]) (p := fun y => sumB n y && nz y) hg, bind_ok]
          simp only [List.all_cons, List.all_nil, Bool.and_true]
          cases (sumB n a && nz a) <;> cases (sumB n b && nz b) <;> rfl
        rw [seq_nx i1, e_seq, i2]
        have i3 : retS (andE (callE isiV [(bin2 ixV (varE 1) (cE (.int 2))), (cE (.ty "str"))]) (bin2 (memV false) (bin2 ixV (varE 1) (cE (.int 2))) k_MANNERS)) ⟨[some (.d (.int n)), some (.d (.tup [a, b, s])), none], cs'⟩ = .ok (.ret (.d (.bl (manB s)))) ⟨[some (.d (.int n)), some (.d (.tup [a, b, s])), none], cs'⟩ := by
          simp only [e_par, e_parK, e_asg, toD_d, e_nameT, e_consT, e_nilT, Option.bind_some, n_nx, n_ct, n_bk, n_ret, e_for, e_itE, e_itA, e_meth, ty_s, e_run1, e_run2, e_run3, e_run4, s_d1, s_d2, s_od, s_oo, s_o1, s_odd, s_t1, s_td, ic_d, ic_o, ic_t, ic_nil, e_argD, e_argDD, List.replicate, Nat.reduceSub, List.length_cons, List.length_nil, bind_ok, bind_exc, bind_bad, e_seq, th_nx, th_ret, th_exc, th_bk, th_ct, e_set, e_setK, e_ret, e_retK, e_drop, e_dropK, e_retN, e_next, e_brk, e_cnt, e_if, e_ifE, e_and, e_or, e_not, onB_t, onB_f, onB_b, e_var, e_varK, e_c, e_bin, e_un, e_call, e_nil, e_cons, e_tup, e_tupK, e_lst, e_lstK, e_newLst, toDs_nil, toDs_d, Option.map_some, e_callV, e_callVT, ar_nil, ar_cons, ar_d, ar_t, e_argKT, af_d, af_new, af_exc, up_nil, up_cons, end_ret, end_exc, end_nx, out_d, v_add, v_sub, v_neg, v_lt, v_le, v_gt, v_ge, v_eqI, v_neI, v_gcd, v_abs, v_max, v_int, v_lenT, v_lenL, List.getElem?_cons_zero, List.getElem?_cons_succ, List.set_cons_zero, List.set_cons_succ, List.take_zero, List.take_nil, Bool.false_eq_true, if_false, if_true, eq_self, decide_true, decide_false, Bool.not_true, Bool.not_false, Nat.reduceAdd, Nat.reduceLeDiff, Nat.reduceLT, List.nil_append, List.cons_append, i_non_int, i_non_bool, i_non_str, i_non_tuple, i_non_list, i_bl_int, i_bl_bool, i_bl_str, i_bl_tuple, i_bl_list, n_is_bl, n_no_bl, i_int_int, i_int_bool, i_int_str, i_int_tuple, i_int_list, n_is_int, n_no_int, i_str_int, i_str_bool, i_str_str, i_str_tuple, i_str_list, n_is_str, n_no_str, i_tup_int, i_tup_bool, i_tup_str, i_tup_tuple, i_tup_list, n_is_tup, n_no_tup, i_lst_int, i_lst_bool, i_lst_str, i_lst_tuple, i_lst_list, n_is_lst, n_no_lst, n_is_non, n_no_non, s_d3, s_d4, e_argD3, e_chain, v_toB, v_ix0, v_ix1, v_ix2, e_raise, e_raiseK, k_MANNERS]
          cases s with
          | str z =>
            have oz : okD (.str z) = true := okD_of hs.1 (by simp [dep])
            have ok2 : okD (.tup [.str "firm", .str "open"]) = true := by decide +kernel
            simp only [e_par, e_parK, e_asg, toD_d, e_nameT, e_consT, e_nilT, Option.bind_some, n_nx, n_ct, n_bk, n_ret, e_for, e_itE, e_itA, e_meth, ty_s, e_run1, e_run2, e_run3, e_run4, s_d1, s_d2, s_od, s_oo, s_o1, s_odd, s_t1, s_td, ic_d, ic_o, ic_t, ic_nil, e_argD, e_argDD, List.replicate, Nat.reduceSub, List.length_cons, List.length_nil, bind_ok, bind_exc, bind_bad, e_seq, th_nx, th_ret, th_exc, th_bk, th_ct, e_set, e_setK, e_ret, e_retK, e_drop, e_dropK, e_retN, e_next, e_brk, e_cnt, e_if, e_ifE, e_and, e_or, e_not, onB_t, onB_f, onB_b, e_var, e_varK, e_c, e_bin, e_un, e_call, e_nil, e_cons, e_tup, e_tupK, e_lst, e_lstK, e_newLst, toDs_nil, toDs_d, Option.map_some, e_callV, e_callVT, ar_nil, ar_cons, ar_d, ar_t, e_argKT, af_d, af_new, af_exc, up_nil, up_cons, end_ret, end_exc, end_nx, out_d, v_add, v_sub, v_neg, v_lt, v_le, v_gt, v_ge, v_eqI, v_neI, v_gcd, v_abs, v_max, v_int, v_lenT, v_lenL, List.getElem?_cons_zero, List.getElem?_cons_succ, List.set_cons_zero, List.set_cons_succ, List.take_zero, List.take_nil, Bool.false_eq_true, if_false, if_true, eq_self, decide_true, decide_false, Bool.not_true, Bool.not_false, Nat.reduceAdd, Nat.reduceLeDiff, Nat.reduceLT, List.nil_append, List.cons_append, i_non_int, i_non_bool, i_non_str, i_non_tuple, i_non_list, i_bl_int, i_bl_bool, i_bl_str, i_bl_tuple, i_bl_list, n_is_bl, n_no_bl, i_int_int, i_int_bool, i_int_str, i_int_tuple, i_int_list, n_is_int, n_no_int, i_str_int, i_str_bool, i_str_str, i_str_tuple, i_str_list, n_is_str, n_no_str, i_tup_int, i_tup_bool, i_tup_str, i_tup_tuple, i_tup_list, n_is_tup, n_no_tup, i_lst_int, i_lst_bool, i_lst_str, i_lst_tuple, i_lst_list, n_is_lst, n_no_lst, n_is_non, n_no_non, s_d3, s_d4, e_argD3, e_chain, v_toB, v_ix0, v_ix1, v_ix2, e_raise, e_raiseK]
            unfold memV
            simp only [dOf_d, itemsD, oz, ok2, Bool.and_self, if_true, Bool.false_eq_true, if_false, List.any_cons, List.any_nil, Bool.or_false, eqD, manB]
            rw [BEq.comm (a := ("firm" : Str)), BEq.comm (a := ("open" : Str))]
            rfl
          | non => rfl
          | bl b => rfl
          | int b => rfl
          | tup b => rfl
          | lst b => rfl
          | klst b => have := hs.1; simp [Pl] at this
          | obj b => have := hs.1; simp [Pl] at this
          | ty b => have := hs.1; simp [Pl] at this
        cases e : ((sumB n a && nz a) && (sumB n b && nz b)) with
        | false => simp only [tieB, e, Bool.false_and]; rfl
        | true => simp only [tieB, e, Bool.true_and, if_true, th_nx, i3]; rfl
    · have e3 : ((xs.length : Int) == 3) = false := by rw [beq_eq_false_iff_ne]; omega
      have et : tieB n (.tup xs) = false := by
        unfold tieB
        split
        · rename_i h; cases h; exact absurd rfl hn
        · rfl
      rw [d_is_tie, et]
      unfold m_is_tie
      simp only [e_par, e_parK, e_asg, toD_d, e_nameT, e_consT, e_nilT, Option.bind_some, n_nx, n_ct, n_bk, n_ret, e_for, e_itE, e_itA, e_meth, ty_s, e_run1, e_run2, e_run3, e_run4, s_d1, s_d2, s_od, s_oo, s_o1, s_odd, s_t1, s_td, ic_d, ic_o, ic_t, ic_nil, e_argD, e_argDD, List.replicate, Nat.reduceSub, List.length_cons, List.length_nil, bind_ok, bind_exc, bind_bad, e_seq, th_nx, th_ret, th_exc, th_bk, th_ct, e_set, e_setK, e_ret, e_retK, e_drop, e_dropK, e_retN, e_next, e_brk, e_cnt, e_if, e_ifE, e_and, e_or, e_not, onB_t, onB_f, onB_b, e_var, e_varK, e_c, e_bin, e_un, e_call, e_nil, e_cons, e_tup, e_tupK, e_lst, e_lstK, e_newLst, toDs_nil, toDs_d, Option.map_some, e_callV, e_callVT, ar_nil, ar_cons, ar_d, ar_t, e_argKT, af_d, af_new, af_exc, up_nil, up_cons, end_ret, end_exc, end_nx, out_d, v_add, v_sub, v_neg, v_lt, v_le, v_gt, v_ge, v_eqI, v_neI, v_gcd, v_abs, v_max, v_int, v_lenT, v_lenL, List.getElem?_cons_zero, List.getElem?_cons_succ, List.set_cons_zero, List.set_cons_succ, List.take_zero, List.take_nil, Bool.false_eq_true, if_false, if_true, eq_self, decide_true, decide_false, Bool.not_true, Bool.not_false, Nat.reduceAdd, Nat.reduceLeDiff, Nat.reduceLT, List.nil_append, List.cons_append, i_non_int, i_non_bool, i_non_str, i_non_tuple, i_non_list, i_bl_int, i_bl_bool, i_bl_str, i_bl_tuple, i_bl_list, n_is_bl, n_no_bl, i_int_int, i_int_bool, i_int_str, i_int_tuple, i_int_list, n_is_int, n_no_int, i_str_int, i_str_bool, i_str_str, i_str_tuple, i_str_list, n_is_str, n_no_str, i_tup_int, i_tup_bool, i_tup_str, i_tup_tuple, i_tup_list, n_is_tup, n_no_tup, i_lst_int, i_lst_bool, i_lst_str, i_lst_tuple, i_lst_list, n_is_lst, n_no_lst, n_is_non, n_no_non, s_d3, s_d4, e_argD3, e_chain, v_toB, v_ix0, v_ix1, v_ix2, e_raise, e_raiseK, k_TIE_PARTS, e3]
      all_goals rfl
  | non => rfl
  | bl b => rfl
  | int b => rfl
  | str b => rfl
  | lst b => rfl
  | klst b => have := h.1; simp [Pl] at this
  | obj b => have := h.1; simp [Pl] at this
  | ty b => have := h.1; simp [Pl] at this
end Law
end
section
set_option Elab.async false
set_option linter.all false
set_option maxRecDepth 100000
set_option maxHeartbeats 4000000
namespace Law
open PySem Sh
theorem firsttie_ok {n : Int} {xs : List D} (h1 : 1 ≤ n) (h2 : n ≤ 1000) (h : ∀ x ∈ xs, Small x) : d_first_odd_tie [.d (.int n), .d (.tup xs)] = .ok (.d (oD (fo (tieB n) 0 xs))) [] := by
  rw [d_first_odd_tie, e_run2, s_d2]
  simp only [List.replicate, Nat.reduceSub]
  unfold m_first_odd_tie
  obtain ⟨st2, ⟨a, b, rfl⟩, h2⟩ := for_fo (g := tupT 2 (consT (nameT 2) (consT (nameT 3) nilT))) (b := ifS (notE (callE (callV d_is_tie) [(varE 0), (varE 3)])) (retS (varE 2)) nextS) (p := tieB n) (fun st => ∃ a b, st = ⟨[some (.d (.int n)), some (.d (.tup xs)), a, b], []⟩) (all := enuL 0 xs) xs 0 ⟨[some (.d (.int n)), some (.d (.tup xs)), none, none], []⟩ ⟨_, _, rfl⟩ fun x hx k st hI => by
    obtain ⟨a, b, rfl⟩ := hI
    refine ⟨_, rfl, ⟨[some (.d (.int n)), some (.d (.tup xs)), some (.d (.int k)), some (.d x)], []⟩, ⟨_, _, rfl⟩, ?_⟩
    have q := istie_ok h1 h2 (h x hx)
    show ifS _ _ _ ⟨[some (.d (.int n)), some (.d (.tup xs)), some (.d (.int k)), some (.d x)], []⟩ = _
    simp only [e_par, e_parK, e_asg, toD_d, e_nameT, e_consT, e_nilT, Option.bind_some, n_nx, n_ct, n_bk, n_ret, e_for, e_itE, e_itA, e_meth, ty_s, e_run1, e_run2, e_run3, e_run4, s_d1, s_d2, s_od, s_oo, s_o1, s_odd, s_t1, s_td, ic_d, ic_o, ic_t, ic_nil, e_argD, e_argDD, List.replicate, Nat.reduceSub, List.length_cons, List.length_nil, bind_ok, bind_exc, bind_bad, e_seq, th_nx, th_ret, th_exc, th_bk, th_ct, e_set, e_setK, e_ret, e_retK, e_drop, e_dropK, e_retN, e_next, e_brk, e_cnt, e_if, e_ifE, e_and, e_or, e_not, onB_t, onB_f, onB_b, e_var, e_varK, e_c, e_bin, e_un, e_call, e_nil, e_cons, e_tup, e_tupK, e_lst, e_lstK, e_newLst, toDs_nil, toDs_d, Option.map_some, e_callV, e_callVT, ar_nil, ar_cons, ar_d, ar_t, e_argKT, af_d, af_new, af_exc, up_nil, up_cons, end_ret, end_exc, end_nx, out_d, v_add, v_sub, v_neg, v_lt, v_le, v_gt, v_ge, v_eqI, v_neI, v_gcd, v_abs, v_max, v_int, v_lenT, v_lenL, List.getElem?_cons_zero, List.getElem?_cons_succ, List.set_cons_zero, List.set_cons_succ, List.take_zero, List.take_nil, Bool.false_eq_true, if_false, if_true, eq_self, decide_true, decide_false, Bool.not_true, Bool.not_false, Nat.reduceAdd, Nat.reduceLeDiff, Nat.reduceLT, List.nil_append, List.cons_append, i_non_int, i_non_bool, i_non_str, i_non_tuple, i_non_list, i_bl_int, i_bl_bool, i_bl_str, i_bl_tuple, i_bl_list, n_is_bl, n_no_bl, i_int_int, i_int_bool, i_int_str, i_int_tuple, i_int_list, n_is_int, n_no_int, i_str_int, i_str_bool, i_str_str, i_str_tuple, i_str_list, n_is_str, n_no_str, i_tup_int, i_tup_bool, i_tup_str, i_tup_tuple, i_tup_list, n_is_tup, n_no_tup, i_lst_int, i_lst_bool, i_lst_str, i_lst_tuple, i_lst_list, n_is_lst, n_no_lst, n_is_non, n_no_non, s_d3, s_d4, e_argD3, e_chain, v_toB, v_ix0, v_ix1, v_ix2, e_raise, e_raiseK, q]
    cases tieB n x <;> rfl
  have hs : forS (itA enuV [(varE 1)]) (tupT 2 (consT (nameT 2) (consT (nameT 3) nilT))) (ifS (notE (callE (callV d_is_tie) [(varE 0), (varE 3)])) (retS (varE 2)) nextS) ⟨[some (.d (.int n)), some (.d (.tup xs)), none, none], []⟩ = _ := h2
  rw [e_seq, hs]
  cases fo (tieB n) 0 xs <;> rfl
/-! ### the law's ties -/
theorem nz_filter {xs : List D} (h : ∀ x ∈ xs, ∃ i, x = D.int i) : (xs.filter nzI).isEmpty = !(xs.any nzI) := by
  induction xs with
  | nil => rfl
  | cons x r ih =>
    have ih := ih fun y hy => h y (List.mem_cons_of_mem _ hy)
    rw [List.filter_cons, List.any_cons]
    cases e : nzI x with
    | true => simp
    | false => simp only [Bool.false_eq_true, if_false, Bool.false_or, ih]
def tSide : S → OS := ifS (orE (bin2 (isNV true) (callE (callV d__law_wb_sum_fault) [(varE 0), (varE 2)]) (cE .non)) (bin2 (eqV false) (compE (itE (varE 2)) (nameT 3) (bin2 (eqV true) (varE 3) (cE (.int 0))) (varE 3) [3]) (lstE []))) (retS (cE (.bl false))) nextS
theorem side_ok {n : Int} {x t : D} {s3 : Option Val} {cs : List Cell} (h : Small x) : ∃ cs', tSide ⟨[some (.d (.int n)), some (.d t), some (.d x), s3], cs⟩ = .ok (if sumB n x && nz x then .nx else .ret (.d (.bl false))) ⟨[some (.d (.int n)), some (.d t), some (.d x), s3], cs'⟩ := by
  obtain ⟨y, q, qt, qf⟩ := sumfault_s (n := n) h
  unfold tSide
  cases e : sumB n x with
  | false =>
    obtain ⟨i, rfl⟩ := qf e
    refine ⟨cs, ?_⟩
    simp only [e_par, e_parK, e_asg, toD_d, e_nameT, e_consT, e_nilT, Option.bind_some, n_nx, n_ct, n_bk, n_ret, e_for, e_itE, e_itA, e_meth, ty_s, e_run1, e_run2, e_run3, e_run4, s_d1, s_d2, s_od, s_oo, s_o1, s_odd, s_t1, s_td, ic_d, ic_o, ic_t, ic_nil, e_argD, e_argDD, List.replicate, Nat.reduceSub, List.length_cons, List.length_nil, bind_ok, bind_exc, bind_bad, e_seq, th_nx, th_ret, th_exc, th_bk, th_ct, e_set, e_setK, e_ret, e_retK, e_drop, e_dropK, e_retN, e_next, e_brk, e_cnt, e_if, e_ifE, e_and, e_or, e_not, onB_t, onB_f, onB_b, e_var, e_varK, e_c, e_bin, e_un, e_call, e_nil, e_cons, e_tup, e_tupK, e_lst, e_lstK, e_newLst, toDs_nil, toDs_d, Option.map_some, e_callV, e_callVT, ar_nil, ar_cons, ar_d, ar_t, e_argKT, af_d, af_new, af_exc, up_nil, up_cons, end_ret, end_exc, end_nx, out_d, v_add, v_sub, v_neg, v_lt, v_le, v_gt, v_ge, v_eqI, v_neI, v_gcd, v_abs, v_max, v_int, v_lenT, v_lenL, List.getElem?_cons_zero, List.getElem?_cons_succ, List.set_cons_zero, List.set_cons_succ, List.take_zero, List.take_nil, Bool.false_eq_true, if_false, if_true, eq_self, decide_true, decide_false, Bool.not_true, Bool.not_false, Nat.reduceAdd, Nat.reduceLeDiff, Nat.reduceLT, List.nil_append, List.cons_append, i_non_int, i_non_bool, i_non_str, i_non_tuple, i_non_list, i_bl_int, i_bl_bool, i_bl_str, i_bl_tuple, i_bl_list, n_is_bl, n_no_bl, i_int_int, i_int_bool, i_int_str, i_int_tuple, i_int_list, n_is_int, n_no_int, i_str_int, i_str_bool, i_str_str, i_str_tuple, i_str_list, n_is_str, n_no_str, i_tup_int, i_tup_bool, i_tup_str, i_tup_tuple, i_tup_list, n_is_tup, n_no_tup, i_lst_int, i_lst_bool, i_lst_str, i_lst_tuple, i_lst_list, n_is_lst, n_no_lst, n_is_non, n_no_non, s_d3, s_d4, e_argD3, e_chain, v_toB, v_ix0, v_ix1, v_ix2, e_raise, e_raiseK, q, Bool.false_and]
  | true =>
    have hy := qt e
    subst hy
    obtain ⟨xs, rfl, hl, hi⟩ := sum_ints e
    have hc := comp_pure (it := itE (varE 2)) (g := nameT 3) (t := bin2 (eqV true) (varE 3) (cE (.int 0))) (f := varE 3) (us := [3]) (v0 := [some (.d (.int n)), some (.d t), some (.d (.tup xs)), s3]) (cs := cs) (ck := none) (L := xs) (st := ⟨[some (.d (.int n)), some (.d t), some (.d (.tup xs)), s3], cs⟩) nzI (fun y => y) (fun y => [some (.d (.int n)), some (.d t), some (.d (.tup xs)), some (.d y)]) rfl gd_none h.len fun y hy => by
      obtain ⟨i, rfl⟩ := hi y hy
      exact ⟨rfl, rfl, fun _ => rfl⟩
    rw [List.map_id'] at hc
    have c1 : (cs ++ [Cell.own (xs.filter nzI)] ++ [Cell.own []])[cs.length]? = some (.own (xs.filter nzI)) := by
      rw [List.getElem?_append_left (by simp), List.getElem?_append_right (Nat.le_refl _), Nat.sub_self]; rfl
    have c2 : (cs ++ [Cell.own (xs.filter nzI)] ++ [Cell.own []])[(cs ++ [Cell.own (xs.filter nzI)]).length]? = some (.own []) := by
      rw [List.getElem?_append_right (Nat.le_refl _), Nat.sub_self]; rfl
    have ok1 : okD (.lst (xs.filter nzI)) = true := (ok_ints fun y hy => hi y (List.mem_filter.mp hy).1).1
    refine ⟨cs ++ [Cell.own (xs.filter nzI)] ++ [Cell.own []], ?_⟩
    have e2 : bin2 (eqV false) (compE (itE (varE 2)) (nameT 3) (bin2 (eqV true) (varE 3) (cE (.int 0))) (varE 3) [3]) (lstE []) ⟨[some (.d (.int n)), some (.d t), some (.d (.tup xs)), s3], cs⟩ = .ok (.d (.bl (!(xs.any nzI)))) ⟨[some (.d (.int n)), some (.d t), some (.d (.tup xs)), s3], cs ++ [Cell.own (xs.filter nzI)] ++ [Cell.own []]⟩ := by
      rw [e_bin, hc, bind_ok, e_lst, e_nil, bind_ok, toDs_nil, e_lstK, e_newLst, bind_ok, v_eqNil c1 c2 ok1]
      simp only [Bool.false_eq_true, if_false, nz_filter hi]
    simp only [e_if, e_or, e_par, e_parK, e_asg, toD_d, e_nameT, e_consT, e_nilT, Option.bind_some, n_nx, n_ct, n_bk, n_ret, e_for, e_itE, e_itA, e_meth, ty_s, e_run1, e_run2, e_run3, e_run4, s_d1, s_d2, s_od, s_oo, s_o1, s_odd, s_t1, s_td, ic_d, ic_o, ic_t, ic_nil, e_argD, e_argDD, List.replicate, Nat.reduceSub, List.length_cons, List.length_nil, bind_ok, bind_exc, bind_bad, e_seq, th_nx, th_ret, th_exc, th_bk, th_ct, e_set, e_setK, e_ret, e_retK, e_drop, e_dropK, e_retN, e_next, e_brk, e_cnt, e_if, e_ifE, e_and, e_or, e_not, onB_t, onB_f, onB_b, e_var, e_varK, e_c, e_bin, e_un, e_call, e_nil, e_cons, e_tup, e_tupK, e_lst, e_lstK, e_newLst, toDs_nil, toDs_d, Option.map_some, e_callV, e_callVT, ar_nil, ar_cons, ar_d, ar_t, e_argKT, af_d, af_new, af_exc, up_nil, up_cons, end_ret, end_exc, end_nx, out_d, v_add, v_sub, v_neg, v_lt, v_le, v_gt, v_ge, v_eqI, v_neI, v_gcd, v_abs, v_max, v_int, v_lenT, v_lenL, List.getElem?_cons_zero, List.getElem?_cons_succ, List.set_cons_zero, List.set_cons_succ, List.take_zero, List.take_nil, Bool.false_eq_true, if_false, if_true, eq_self, decide_true, decide_false, Bool.not_true, Bool.not_false, Nat.reduceAdd, Nat.reduceLeDiff, Nat.reduceLT, List.nil_append, List.cons_append, i_non_int, i_non_bool, i_non_str, i_non_tuple, i_non_list, i_bl_int, i_bl_bool, i_bl_str, i_bl_tuple, i_bl_list, n_is_bl, n_no_bl, i_int_int, i_int_bool, i_int_str, i_int_tuple, i_int_list, n_is_int, n_no_int, i_str_int, i_str_bool, i_str_str, i_str_tuple, i_str_list, n_is_str, n_no_str, i_tup_int, i_tup_bool, i_tup_str, i_tup_tuple, i_tup_list, n_is_tup, n_no_tup, i_lst_int, i_lst_bool, i_lst_str, i_lst_tuple, i_lst_list, n_is_lst, n_no_lst, n_is_non, n_no_non, s_d3, s_d4, e_argD3, e_chain, v_toB, v_ix0, v_ix1, v_ix2, e_raise, e_raiseK, q]
    show ((bin2 (eqV false) (compE (itE (varE 2)) (nameT 3) (bin2 (eqV true) (varE 3) (cE (.int 0))) (varE 3) [3]) (lstE []) ⟨[some (.d (.int n)), some (.d t), some (.d (.tup xs)), s3], cs⟩).bind _) = _
    rw [e2, bind_ok]
    simp only [Bool.true_and, nz]
    cases xs.any nzI <;> rfl
theorem wbtie_ok {n : Int} {x : D} (h : Small x) : d__law_wb_is_tie [.d (.int n), .d x] = .ok (.d (.bl (tieB n x))) [] := by
  cases x with
  | tup xs =>
    by_cases hn : xs.length = 3
    · match xs, hn with
      | [a, b, s], _ =>
        have ha := h.mem a (by simp)
        have hb := h.mem b (by simp)
        have hs := h.mem s (by simp)
        rw [d__law_wb_is_tie, e_run2, s_d2]
        simp only [List.replicate, Nat.reduceSub]
        unfold m__law_wb_is_tie
        have i1 : ifS (orE (notE (callE isiV [(varE 1), (cE (.ty "tuple"))])) (bin2 (eqV true) (callE lenV [(varE 1)]) (cE (.int 3)))) (retS (cE (.bl false))) nextS ⟨[some (.d (.int n)), some (.d (.tup [a, b, s])), none, none], []⟩ = .ok .nx ⟨[some (.d (.int n)), some (.d (.tup [a, b, s])), none, none], []⟩ := rfl
        rw [seq_nx i1]
        obtain ⟨c1, q1⟩ := side_ok (n := n) (t := .tup [a, b, s]) (s3 := none) (cs := []) ha
        obtain ⟨c2, q2⟩ := side_ok (n := n) (t := .tup [a, b, s]) (s3 := none) (cs := c1) hb
        have i2 : forS (itE (sliceE (varE 1) noP (atP (cE (.int 2))))) (nameT 2) tSide ⟨[some (.d (.int n)), some (.d (.tup [a, b, s])), none, none], []⟩ = forL (nameT 2) tSide none [a, b] [a, b] ⟨[some (.d (.int n)), some (.d (.tup [a, b, s])), none, none], []⟩ := rfl
        change endD _ (seqS (forS _ _ tSide) _ _) = _
        rw [e_seq, i2, f_cons gd_none e_nameT]
        change endD _ (thS (nextL (tSide ⟨[some (.d (.int n)), some (.d (.tup [a, b, s])), some (.d a), none], []⟩) _) _) = _
        rw [q1]
        cases ea : (sumB n a && nz a) with
        | false => simp only [tieB, ea, Bool.false_and]; rfl
        | true =>
          simp only [if_true, n_nx]
          rw [f_cons gd_none e_nameT]
          change endD _ (thS (nextL (tSide ⟨[some (.d (.int n)), some (.d (.tup [a, b, s])), some (.d b), none], c1⟩) _) _) = _
          rw [q2]
          cases eb : (sumB n b && nz b) with
          | false => simp only [tieB, ea, eb, Bool.false_and, Bool.and_false]; rfl
          | true =>
            simp only [if_true, n_nx, f_nil gd_none, th_nx, tieB, ea, eb, Bool.true_and]
            cases s with
            | str z =>
              have oz : okD (.str z) = true := okD_of hs.1 (by simp [dep])
              have ok2 : okD (.lst [.str "firm", .str "open"]) = true := by decide +kernel
              have cx : (c2 ++ [Cell.own [.str "firm", .str "open"]])[c2.length]? = some (.own [.str "firm", .str "open"]) := by
                rw [List.getElem?_append_right (Nat.le_refl _), Nat.sub_self]; rfl
              simp only [e_par, e_parK, e_asg, toD_d, e_nameT, e_consT, e_nilT, Option.bind_some, n_nx, n_ct, n_bk, n_ret, e_for, e_itE, e_itA, e_meth, ty_s, e_run1, e_run2, e_run3, e_run4, s_d1, s_d2, s_od, s_oo, s_o1, s_odd, s_t1, s_td, ic_d, ic_o, ic_t, ic_nil, e_argD, e_argDD, List.replicate, Nat.reduceSub, List.length_cons, List.length_nil, bind_ok, bind_exc, bind_bad, e_seq, th_nx, th_ret, th_exc, th_bk, th_ct, e_set, e_setK, e_ret, e_retK, e_drop, e_dropK, e_retN, e_next, e_brk, e_cnt, e_if, e_ifE, e_and, e_or, e_not, onB_t, onB_f, onB_b, e_var, e_varK, e_c, e_bin, e_un, e_call, e_nil, e_cons, e_tup, e_tupK, e_lst, e_lstK, e_newLst, toDs_nil, toDs_d, Option.map_some, e_callV, e_callVT, ar_nil, ar_cons, ar_d, ar_t, e_argKT, af_d, af_new, af_exc, up_nil, up_cons, end_ret, end_exc, end_nx, out_d, v_add, v_sub, v_neg, v_lt, v_le, v_gt, v_ge, v_eqI, v_neI, v_gcd, v_abs, v_max, v_int, v_lenT, v_lenL, List.getElem?_cons_zero, List.getElem?_cons_succ, List.set_cons_zero, List.set_cons_succ, List.take_zero, List.take_nil, Bool.false_eq_true, if_false, if_true, eq_self, decide_true, decide_false, Bool.not_true, Bool.not_false, Nat.reduceAdd, Nat.reduceLeDiff, Nat.reduceLT, List.nil_append, List.cons_append, i_non_int, i_non_bool, i_non_str, i_non_tuple, i_non_list, i_bl_int, i_bl_bool, i_bl_str, i_bl_tuple, i_bl_list, n_is_bl, n_no_bl, i_int_int, i_int_bool, i_int_str, i_int_tuple, i_int_list, n_is_int, n_no_int, i_str_int, i_str_bool, i_str_str, i_str_tuple, i_str_list, n_is_str, n_no_str, i_tup_int, i_tup_bool, i_tup_str, i_tup_tuple, i_tup_list, n_is_tup, n_no_tup, i_lst_int, i_lst_bool, i_lst_str, i_lst_tuple, i_lst_list, n_is_lst, n_no_lst, n_is_non, n_no_non, s_d3, s_d4, e_argD3, e_chain, v_toB, v_ix0, v_ix1, v_ix2, e_raise, e_raiseK]
              unfold memV
              rw [dOf_c cx, dOf_d]
              simp only [Cell.xs, itemsD, oz, ok2, Bool.and_self, if_true, Bool.false_eq_true, if_false, List.any_cons, List.any_nil, Bool.or_false, eqD, manB]
              rw [BEq.comm (a := ("firm" : Str)), BEq.comm (a := ("open" : Str))]
              rfl
            | non => rfl
            | bl b => rfl
            | int b => rfl
            | tup b => rfl
            | lst b => rfl
            | klst b => have := hs.1; simp [Pl] at this
            | obj b => have := hs.1; simp [Pl] at this
            | ty b => have := hs.1; simp [Pl] at this
    · have e3 : ((xs.length : Int) == 3) = false := by rw [beq_eq_false_iff_ne]; omega
      have et : tieB n (.tup xs) = false := by
        unfold tieB
        split
        · rename_i h; cases h; exact absurd rfl hn
        · rfl
      rw [d__law_wb_is_tie, et]
      unfold m__law_wb_is_tie
      simp only [e_par, e_parK, e_asg, toD_d, e_nameT, e_consT, e_nilT, Option.bind_some, n_nx, n_ct, n_bk, n_ret, e_for, e_itE, e_itA, e_meth, ty_s, e_run1, e_run2, e_run3, e_run4, s_d1, s_d2, s_od, s_oo, s_o1, s_odd, s_t1, s_td, ic_d, ic_o, ic_t, ic_nil, e_argD, e_argDD, List.replicate, Nat.reduceSub, List.length_cons, List.length_nil, bind_ok, bind_exc, bind_bad, e_seq, th_nx, th_ret, th_exc, th_bk, th_ct, e_set, e_setK, e_ret, e_retK, e_drop, e_dropK, e_retN, e_next, e_brk, e_cnt, e_if, e_ifE, e_and, e_or, e_not, onB_t, onB_f, onB_b, e_var, e_varK, e_c, e_bin, e_un, e_call, e_nil, e_cons, e_tup, e_tupK, e_lst, e_lstK, e_newLst, toDs_nil, toDs_d, Option.map_some, e_callV, e_callVT, ar_nil, ar_cons, ar_d, ar_t, e_argKT, af_d, af_new, af_exc, up_nil, up_cons, end_ret, end_exc, end_nx, out_d, v_add, v_sub, v_neg, v_lt, v_le, v_gt, v_ge, v_eqI, v_neI, v_gcd, v_abs, v_max, v_int, v_lenT, v_lenL, List.getElem?_cons_zero, List.getElem?_cons_succ, List.set_cons_zero, List.set_cons_succ, List.take_zero, List.take_nil, Bool.false_eq_true, if_false, if_true, eq_self, decide_true, decide_false, Bool.not_true, Bool.not_false, Nat.reduceAdd, Nat.reduceLeDiff, Nat.reduceLT, List.nil_append, List.cons_append, i_non_int, i_non_bool, i_non_str, i_non_tuple, i_non_list, i_bl_int, i_bl_bool, i_bl_str, i_bl_tuple, i_bl_list, n_is_bl, n_no_bl, i_int_int, i_int_bool, i_int_str, i_int_tuple, i_int_list, n_is_int, n_no_int, i_str_int, i_str_bool, i_str_str, i_str_tuple, i_str_list, n_is_str, n_no_str, i_tup_int, i_tup_bool, i_tup_str, i_tup_tuple, i_tup_list, n_is_tup, n_no_tup, i_lst_int, i_lst_bool, i_lst_str, i_lst_tuple, i_lst_list, n_is_lst, n_no_lst, n_is_non, n_no_non, s_d3, s_d4, e_argD3, e_chain, v_toB, v_ix0, v_ix1, v_ix2, e_raise, e_raiseK, e3]
      all_goals rfl
  | non => rfl
  | bl b => rfl
  | int b => rfl
  | str b => rfl
  | lst b => rfl
  | klst b => have := h.1; simp [Pl] at this
  | obj b => have := h.1; simp [Pl] at this
  | ty b => have := h.1; simp [Pl] at this
end Law
end
section
set_option Elab.async false
set_option linter.all false
set_option maxRecDepth 100000
set_option maxHeartbeats 4000000
namespace Law
open PySem Sh
/-- the law's word of ties -/
def tiesF (n : Int) : D → D
  | .tup xs => if 12 < xs.length then .tup [.str "TooMany", .int xs.length] else oD (fo (tieB n) 0 xs)
  | _ => .int (-1)
theorem tiesfault_ok {n : Int} {x : D} (h : Small x) : d__law_wb_ties_fault [.d (.int n), .d x] = .ok (.d (tiesF n x)) [] := by
  cases x with
  | tup xs =>
    rw [d__law_wb_ties_fault, e_run2, s_d2]
    simp only [List.replicate, Nat.reduceSub]
    unfold m__law_wb_ties_fault
    have i1 : ifS (notE (callE isiV [(varE 1), (cE (.ty "tuple"))])) (retS (un1 negV (cE (.int 1)))) nextS ⟨[some (.d (.int n)), some (.d (.tup xs)), none, none], []⟩ = .ok .nx ⟨[some (.d (.int n)), some (.d (.tup xs)), none, none], []⟩ := rfl
    rw [seq_nx i1]
    by_cases h12 : 12 < xs.length
    · have e : decide ((12 : Int) < (xs.length : Int)) = true := decide_eq_true (by omega)
      simp only [e_par, e_parK, e_asg, toD_d, e_nameT, e_consT, e_nilT, Option.bind_some, n_nx, n_ct, n_bk, n_ret, e_for, e_itE, e_itA, e_meth, ty_s, e_run1, e_run2, e_run3, e_run4, s_d1, s_d2, s_od, s_oo, s_o1, s_odd, s_t1, s_td, ic_d, ic_o, ic_t, ic_nil, e_argD, e_argDD, List.replicate, Nat.reduceSub, List.length_cons, List.length_nil, bind_ok, bind_exc, bind_bad, e_seq, th_nx, th_ret, th_exc, th_bk, th_ct, e_set, e_setK, e_ret, e_retK, e_drop, e_dropK, e_retN, e_next, e_brk, e_cnt, e_if, e_ifE, e_and, e_or, e_not, onB_t, onB_f, onB_b, e_var, e_varK, e_c, e_bin, e_un, e_call, e_nil, e_cons, e_tup, e_tupK, e_lst, e_lstK, e_newLst, toDs_nil, toDs_d, Option.map_some, e_callV, e_callVT, ar_nil, ar_cons, ar_d, ar_t, e_argKT, af_d, af_new, af_exc, up_nil, up_cons, end_ret, end_exc, end_nx, out_d, v_add, v_sub, v_neg, v_lt, v_le, v_gt, v_ge, v_eqI, v_neI, v_gcd, v_abs, v_max, v_int, v_lenT, v_lenL, List.getElem?_cons_zero, List.getElem?_cons_succ, List.set_cons_zero, List.set_cons_succ, List.take_zero, List.take_nil, Bool.false_eq_true, if_false, if_true, eq_self, decide_true, decide_false, Bool.not_true, Bool.not_false, Nat.reduceAdd, Nat.reduceLeDiff, Nat.reduceLT, List.nil_append, List.cons_append, i_non_int, i_non_bool, i_non_str, i_non_tuple, i_non_list, i_bl_int, i_bl_bool, i_bl_str, i_bl_tuple, i_bl_list, n_is_bl, n_no_bl, i_int_int, i_int_bool, i_int_str, i_int_tuple, i_int_list, n_is_int, n_no_int, i_str_int, i_str_bool, i_str_str, i_str_tuple, i_str_list, n_is_str, n_no_str, i_tup_int, i_tup_bool, i_tup_str, i_tup_tuple, i_tup_list, n_is_tup, n_no_tup, i_lst_int, i_lst_bool, i_lst_str, i_lst_tuple, i_lst_list, n_is_lst, n_no_lst, n_is_non, n_no_non, s_d3, s_d4, e_argD3, e_chain, v_toB, v_ix0, v_ix1, v_ix2, e_raise, e_raiseK, e, tiesF, h12]
      all_goals rfl
    · have e : decide ((12 : Int) < (xs.length : Int)) = false := decide_eq_false (by omega)
      have i2 : ifS (bin2 gtV (callE lenV [(varE 1)]) (cE (.int 12))) (retS (tupE [(cE (.str "TooMany")), (callE lenV [(varE 1)])])) nextS ⟨[some (.d (.int n)), some (.d (.tup xs)), none, none], []⟩ = .ok .nx ⟨[some (.d (.int n)), some (.d (.tup xs)), none, none], []⟩ := by
        simp only [e_par, e_parK, e_asg, toD_d, e_nameT, e_consT, e_nilT, Option.bind_some, n_nx, n_ct, n_bk, n_ret, e_for, e_itE, e_itA, e_meth, ty_s, e_run1, e_run2, e_run3, e_run4, s_d1, s_d2, s_od, s_oo, s_o1, s_odd, s_t1, s_td, ic_d, ic_o, ic_t, ic_nil, e_argD, e_argDD, List.replicate, Nat.reduceSub, List.length_cons, List.length_nil, bind_ok, bind_exc, bind_bad, e_seq, th_nx, th_ret, th_exc, th_bk, th_ct, e_set, e_setK, e_ret, e_retK, e_drop, e_dropK, e_retN, e_next, e_brk, e_cnt, e_if, e_ifE, e_and, e_or, e_not, onB_t, onB_f, onB_b, e_var, e_varK, e_c, e_bin, e_un, e_call, e_nil, e_cons, e_tup, e_tupK, e_lst, e_lstK, e_newLst, toDs_nil, toDs_d, Option.map_some, e_callV, e_callVT, ar_nil, ar_cons, ar_d, ar_t, e_argKT, af_d, af_new, af_exc, up_nil, up_cons, end_ret, end_exc, end_nx, out_d, v_add, v_sub, v_neg, v_lt, v_le, v_gt, v_ge, v_eqI, v_neI, v_gcd, v_abs, v_max, v_int, v_lenT, v_lenL, List.getElem?_cons_zero, List.getElem?_cons_succ, List.set_cons_zero, List.set_cons_succ, List.take_zero, List.take_nil, Bool.false_eq_true, if_false, if_true, eq_self, decide_true, decide_false, Bool.not_true, Bool.not_false, Nat.reduceAdd, Nat.reduceLeDiff, Nat.reduceLT, List.nil_append, List.cons_append, i_non_int, i_non_bool, i_non_str, i_non_tuple, i_non_list, i_bl_int, i_bl_bool, i_bl_str, i_bl_tuple, i_bl_list, n_is_bl, n_no_bl, i_int_int, i_int_bool, i_int_str, i_int_tuple, i_int_list, n_is_int, n_no_int, i_str_int, i_str_bool, i_str_str, i_str_tuple, i_str_list, n_is_str, n_no_str, i_tup_int, i_tup_bool, i_tup_str, i_tup_tuple, i_tup_list, n_is_tup, n_no_tup, i_lst_int, i_lst_bool, i_lst_str, i_lst_tuple, i_lst_list, n_is_lst, n_no_lst, n_is_non, n_no_non, s_d3, s_d4, e_argD3, e_chain, v_toB, v_ix0, v_ix1, v_ix2, e_raise, e_raiseK, e]
      obtain ⟨L, hc, hL, hf⟩ := comp_wrong (it := itA rng1V [(callE lenV [(varE 1)])]) (t := notE (callE (callV d__law_wb_is_tie) [(varE 0), (bin2 ixV (varE 1) (varE 3))])) (j := 3) (v0 := [some (.d (.int n)), some (.d (.tup xs)), none, none]) (cs := []) (xs := xs) (tieB n) (e_rngL rfl (bgl h.len)) h.len (by simp) fun i hi => by
        have q := wbtie_ok (n := n) (h.mem _ (List.getElem_mem hi))
        show notE _ ⟨[some (.d (.int n)), some (.d (.tup xs)), none, some (.d (.int i))], []⟩ = .ok _ ⟨[some (.d (.int n)), some (.d (.tup xs)), none, some (.d (.int i))], []⟩
        simp only [e_par, e_parK, e_asg, toD_d, e_nameT, e_consT, e_nilT, Option.bind_some, n_nx, n_ct, n_bk, n_ret, e_for, e_itE, e_itA, e_meth, ty_s, e_run1, e_run2, e_run3, e_run4, s_d1, s_d2, s_od, s_oo, s_o1, s_odd, s_t1, s_td, ic_d, ic_o, ic_t, ic_nil, e_argD, e_argDD, List.replicate, Nat.reduceSub, List.length_cons, List.length_nil, bind_ok, bind_exc, bind_bad, e_seq, th_nx, th_ret, th_exc, th_bk, th_ct, e_set, e_setK, e_ret, e_retK, e_drop, e_dropK, e_retN, e_next, e_brk, e_cnt, e_if, e_ifE, e_and, e_or, e_not, onB_t, onB_f, onB_b, e_var, e_varK, e_c, e_bin, e_un, e_call, e_nil, e_cons, e_tup, e_tupK, e_lst, e_lstK, e_newLst, toDs_nil, toDs_d, Option.map_some, e_callV, e_callVT, ar_nil, ar_cons, ar_d, ar_t, e_argKT, af_d, af_new, af_exc, up_nil, up_cons, end_ret, end_exc, end_nx, out_d, v_add, v_sub, v_neg, v_lt, v_le, v_gt, v_ge, v_eqI, v_neI, v_gcd, v_abs, v_max, v_int, v_lenT, v_lenL, List.getElem?_cons_zero, List.getElem?_cons_succ, List.set_cons_zero, List.set_cons_succ, List.take_zero, List.take_nil, Bool.false_eq_true, if_false, if_true, eq_self, decide_true, decide_false, Bool.not_true, Bool.not_false, Nat.reduceAdd, Nat.reduceLeDiff, Nat.reduceLT, List.nil_append, List.cons_append, i_non_int, i_non_bool, i_non_str, i_non_tuple, i_non_list, i_bl_int, i_bl_bool, i_bl_str, i_bl_tuple, i_bl_list, n_is_bl, n_no_bl, i_int_int, i_int_bool, i_int_str, i_int_tuple, i_int_list, n_is_int, n_no_int, i_str_int, i_str_bool, i_str_str, i_str_tuple, i_str_list, n_is_str, n_no_str, i_tup_int, i_tup_bool, i_tup_str, i_tup_tuple, i_tup_list, n_is_tup, n_no_tup, i_lst_int, i_lst_bool, i_lst_str, i_lst_tuple, i_lst_list, n_is_lst, n_no_lst, n_is_non, n_no_non, s_d3, s_d4, e_argD3, e_chain, v_toB, v_ix0, v_ix1, v_ix2, e_raise, e_raiseK, fs_ix hi, q]
        cases tieB n xs[i] <;> rfl
      rw [seq_nx i2, e_seq, e_set, hc, bind_ok, e_setK, th_nx, e_ret]
      show endD 0 ((ifE _ _ _ ⟨[some (.d (.int n)), some (.d (.tup xs)), some (.c 0), none], [.own L]⟩).bind _) = _
      rw [ret_wrong rfl rfl hL hf, bind_ok]
      simp only [tiesF, h12, if_false]
      rfl
  | non => rfl
  | bl b => rfl
  | int b => rfl
  | str b => rfl
  | lst b => rfl
  | klst b => have := h.1; simp [Pl] at this
  | obj b => have := h.1; simp [Pl] at this
  | ty b => have := h.1; simp [Pl] at this
/-- the law's word of a world -/
def tiesW : D → D
  | .non => .non
  | .tup l => .tup l
  | y => .tup [.str "BadWorld", if eqD y (.int (-1)) then .int 2 else .tup [.int 2, y]]
def rowsF (n : Int) (c : D) : D → D
  | .tup rs => if 40 < rs.length then .tup [.str "TooMany", .int rs.length] else match fo (sumB n) 0 rs with
    | some k => .tup [.str "BadWorld", .tup [.int 1, .int (k : Nat)]]
    | none => tiesW (tiesF n c)
  | _ => .tup [.str "BadWorld", .int 1]
def headF (a b c : D) : D := match a with
  | .int n => if inB 1 40 (.int n) then rowsF n c b else .tup [.str "BadWorld", .int 0]
  | _ => .tup [.str "BadWorld", .int 0]
def worldF : D → D
  | .tup [a, b, c] => headF a b c
  | _ => .tup [.str "BadWorld", .int (-1)]
theorem tiesF_form (n : Int) (x : D) : tiesF n x = .non ∨ (∃ l, tiesF n x = .tup [.str "TooMany", .int l]) ∨ (∃ i, tiesF n x = .int i) := by
  cases x with
  | tup xs =>
    simp only [tiesF]
    split
    · exact .inr (.inl ⟨_, rfl⟩)
    · cases fo (tieB n) 0 xs with
      | none => exact .inl rfl
      | some k => exact .inr (.inr ⟨_, rfl⟩)
  | _ => exact .inr (.inr ⟨_, rfl⟩)
theorem worldfault_ok {x : D} (h : Small x) : d__law_wb_world_fault [.d x] = .ok (.d (worldF x)) [] := by
  cases x with
  | tup xs =>
    by_cases hn : xs.length = 3
    · match xs, hn with
      | [a, b, c], _ =>
        have ha := h.mem a (by simp)
        have hb := h.mem b (by simp)
        have hc := h.mem c (by simp)
        rw [d__law_wb_world_fault, e_run1, s_d1]
        simp only [List.replicate, Nat.reduceSub]
        unfold m__law_wb_world_fault
        have i1 : ifS (orE (notE (callE isiV [(varE 0), (cE (.ty "tuple"))])) (bin2 (eqV true) (callE lenV [(varE 0)]) (cE (.int 3)))) (retS (tupE [(cE (.str "BadWorld")), (un1 negV (cE (.int 1)))])) nextS ⟨[some (.d (.tup [a, b, c])), none, none, none, none, none, none], []⟩ = .ok .nx ⟨[some (.d (.tup [a, b, c])), none, none, none, none, none, none], []⟩ := rfl
        have i2 : asgS (tupT 3 (consT (nameT 1) (consT (nameT 2) (consT (nameT 3) nilT)))) (varE 0) ⟨[some (.d (.tup [a, b, c])), none, none, none, none, none, none], []⟩ = .ok .nx ⟨[some (.d (.tup [a, b, c])), some (.d a), some (.d b), some (.d c), none, none, none], []⟩ := rfl
        rw [seq_nx i1, seq_nx i2]
        have q := isin_ok (x := a) (lo := 1) (hi := 40) (Pl.P ha.1)
        have i3 : ifS (notE (callE (callV d__law_wb_is_in) [(varE 1), (cE (.int 1)), (cE (.int 40))])) (retS (tupE [(cE (.str "BadWorld")), (cE (.int 0))])) nextS ⟨[some (.d (.tup [a, b, c])), some (.d a), some (.d b), some (.d c), none, none, none], []⟩ =
            .ok (if inB 1 40 a then .nx else .ret (.d (.tup [.str "BadWorld", .int 0]))) ⟨[some (.d (.tup [a, b, c])), some (.d a), some (.d b), some (.d c), none, none, none], []⟩ := by
          simp only [e_par, e_parK, e_asg, toD_d, e_nameT, e_consT, e_nilT, Option.bind_some, n_nx, n_ct, n_bk, n_ret, e_for, e_itE, e_itA, e_meth, ty_s, e_run1, e_run2, e_run3, e_run4, s_d1, s_d2, s_od, s_oo, s_o1, s_odd, s_t1, s_td, ic_d, ic_o, ic_t, ic_nil, e_argD, e_argDD, List.replicate, Nat.reduceSub, List.length_cons, List.length_nil, bind_ok, bind_exc, bind_bad, e_seq, th_nx, th_ret, th_exc, th_bk, th_ct, e_set, e_setK, e_ret, e_retK, e_drop, e_dropK, e_retN, e_next, e_brk, e_cnt, e_if, e_ifE, e_and, e_or, e_not, onB_t, onB_f, onB_b, e_var, e_varK, e_c, e_bin, e_un, e_call, e_nil, e_cons, e_tup, e_tupK, e_lst, e_lstK, e_newLst, toDs_nil, toDs_d, Option.map_some, e_callV, e_callVT, ar_nil, ar_cons, ar_d, ar_t, e_argKT, af_d, af_new, af_exc, up_nil, up_cons, end_ret, end_exc, end_nx, out_d, v_add, v_sub, v_neg, v_lt, v_le, v_gt, v_ge, v_eqI, v_neI, v_gcd, v_abs, v_max, v_int, v_lenT, v_lenL, List.getElem?_cons_zero, List.getElem?_cons_succ, List.set_cons_zero, List.set_cons_succ, List.take_zero, List.take_nil, Bool.false_eq_true, if_false, if_true, eq_self, decide_true, decide_false, Bool.not_true, Bool.not_false, Nat.reduceAdd, Nat.reduceLeDiff, Nat.reduceLT, List.nil_append, List.cons_append, i_non_int, i_non_bool, i_non_str, i_non_tuple, i_non_list, i_bl_int, i_bl_bool, i_bl_str, i_bl_tuple, i_bl_list, n_is_bl, n_no_bl, i_int_int, i_int_bool, i_int_str, i_int_tuple, i_int_list, n_is_int, n_no_int, i_str_int, i_str_bool, i_str_str, i_str_tuple, i_str_list, n_is_str, n_no_str, i_tup_int, i_tup_bool, i_tup_str, i_tup_tuple, i_tup_list, n_is_tup, n_no_tup, i_lst_int, i_lst_bool, i_lst_str, i_lst_tuple, i_lst_list, n_is_lst, n_no_lst, n_is_non, n_no_non, s_d3, s_d4, e_argD3, e_chain, v_toB, v_ix0, v_ix1, v_ix2, e_raise, e_raiseK, q]
          cases inB 1 40 a <;> rfl
        rw [e_seq, i3]
        cases e1 : inB 1 40 a with
        | false =>
          have : worldF (.tup [a, b, c]) = .tup [.str "BadWorld", .int 0] := by
            unfold worldF headF
            cases a with
            | int n => simp only [e1]; rfl
            | _ => rfl
          rw [this]; rfl
        | true =>
          simp only [if_true, th_nx]
          cases a with
          | int n =>
            have ew : worldF (.tup [.int n, b, c]) = rowsF n c b := by
              unfold worldF headF
              simp only [e1, if_true]
            rw [ew]
            cases b with
            | tup rs =>
              have i4 : ifS (notE (callE isiV [(varE 2), (cE (.ty "tuple"))])) (retS (tupE [(cE (.str "BadWorld")), (cE (.int 1))])) nextS ⟨[some (.d (.tup [.int n, .tup rs, c])), some (.d (.int n)), some (.d (.tup rs)), some (.d c), none, none, none], []⟩ = .ok .nx ⟨[some (.d (.tup [.int n, .tup rs, c])), some (.d (.int n)), some (.d (.tup rs)), some (.d c), none, none, none], []⟩ := rfl
              rw [seq_nx i4]
              by_cases h40 : 40 < rs.length
              · have e : decide ((40 : Int) < (rs.length : Int)) = true := decide_eq_true (by omega)
                simp only [e_par, e_parK, e_asg, toD_d, e_nameT, e_consT, e_nilT, Option.bind_some, n_nx, n_ct, n_bk, n_ret, e_for, e_itE, e_itA, e_meth, ty_s, e_run1, e_run2, e_run3, e_run4, s_d1, s_d2, s_od, s_oo, s_o1, s_odd, s_t1, s_td, ic_d, ic_o, ic_t, ic_nil, e_argD, e_argDD, List.replicate, Nat.reduceSub, List.length_cons, List.length_nil, bind_ok, bind_exc, bind_bad, e_seq, th_nx, th_ret, th_exc, th_bk, th_ct, e_set, e_setK, e_ret, e_retK, e_drop, e_dropK, e_retN, e_next, e_brk, e_cnt, e_if, e_ifE, e_and, e_or, e_not, onB_t, onB_f, onB_b, e_var, e_varK, e_c, e_bin, e_un, e_call, e_nil, e_cons, e_tup, e_tupK, e_lst, e_lstK, e_newLst, toDs_nil, toDs_d, Option.map_some, e_callV, e_callVT, ar_nil, ar_cons, ar_d, ar_t, e_argKT, af_d, af_new, af_exc, up_nil, up_cons, end_ret, end_exc, end_nx, out_d, v_add, v_sub, v_neg, v_lt, v_le, v_gt, v_ge, v_eqI, v_neI, v_gcd, v_abs, v_max, v_int, v_lenT, v_lenL, List.getElem?_cons_zero, List.getElem?_cons_succ, List.set_cons_zero, List.set_cons_succ, List.take_zero, List.take_nil, Bool.false_eq_true, if_false, if_true, eq_self, decide_true, decide_false, Bool.not_true, Bool.not_false, Nat.reduceAdd, Nat.reduceLeDiff, Nat.reduceLT, List.nil_append, List.cons_append, i_non_int, i_non_bool, i_non_str, i_non_tuple, i_non_list, i_bl_int, i_bl_bool, i_bl_str, i_bl_tuple, i_bl_list, n_is_bl, n_no_bl, i_int_int, i_int_bool, i_int_str, i_int_tuple, i_int_list, n_is_int, n_no_int, i_str_int, i_str_bool, i_str_str, i_str_tuple, i_str_list, n_is_str, n_no_str, i_tup_int, i_tup_bool, i_tup_str, i_tup_tuple, i_tup_list, n_is_tup, n_no_tup, i_lst_int, i_lst_bool, i_lst_str, i_lst_tuple, i_lst_list, n_is_lst, n_no_lst, n_is_non, n_no_non, s_d3, s_d4, e_argD3, e_chain, v_toB, v_ix0, v_ix1, v_ix2, e_raise, e_raiseK, e, rowsF, h40]
                all_goals rfl
              · have e : decide ((40 : Int) < (rs.length : Int)) = false := decide_eq_false (by omega)
                have i5 : ifS (bin2 gtV (callE lenV [(varE 2)]) (cE (.int 40))) (retS (tupE [(cE (.str "TooMany")), (callE lenV [(varE 2)])])) nextS ⟨[some (.d (.tup [.int n, .tup rs, c])), some (.d (.int n)), some (.d (.tup rs)), some (.d c), none, none, none], []⟩ = .ok .nx ⟨[some (.d (.tup [.int n, .tup rs, c])), some (.d (.int n)), some (.d (.tup rs)), some (.d c), none, none, none], []⟩ := by
                  simp only [e_par, e_parK, e_asg, toD_d, e_nameT, e_consT, e_nilT, Option.bind_some, n_nx, n_ct, n_bk, n_ret, e_for, e_itE, e_itA, e_meth, ty_s, e_run1, e_run2, e_run3, e_run4, s_d1, s_d2, s_od, s_oo, s_o1, s_odd, s_t1, s_td, ic_d, ic_o, ic_t, ic_nil, e_argD, e_argDD, List.replicate, Nat.reduceSub, List.length_cons, List.length_nil, bind_ok, bind_exc, bind_bad, e_seq, th_nx, th_ret, th_exc, th_bk, th_ct, e_set, e_setK, e_ret, e_retK, e_drop, e_dropK, e_retN, e_next, e_brk, e_cnt, e_if, e_ifE, e_and, e_or, e_not, onB_t, onB_f, onB_b, e_var, e_varK, e_c, e_bin, e_un, e_call, e_nil, e_cons, e_tup, e_tupK, e_lst, e_lstK, e_newLst, toDs_nil, toDs_d, Option.map_some, e_callV, e_callVT, ar_nil, ar_cons, ar_d, ar_t, e_argKT, af_d, af_new, af_exc, up_nil, up_cons, end_ret, end_exc, end_nx, out_d, v_add, v_sub, v_neg, v_lt, v_le, v_gt, v_ge, v_eqI, v_neI, v_gcd, v_abs, v_max, v_int, v_lenT, v_lenL, List.getElem?_cons_zero, List.getElem?_cons_succ, List.set_cons_zero, List.set_cons_succ, List.take_zero, List.take_nil, Bool.false_eq_true, if_false, if_true, eq_self, decide_true, decide_false, Bool.not_true, Bool.not_false, Nat.reduceAdd, Nat.reduceLeDiff, Nat.reduceLT, List.nil_append, List.cons_append, i_non_int, i_non_bool, i_non_str, i_non_tuple, i_non_list, i_bl_int, i_bl_bool, i_bl_str, i_bl_tuple, i_bl_list, n_is_bl, n_no_bl, i_int_int, i_int_bool, i_int_str, i_int_tuple, i_int_list, n_is_int, n_no_int, i_str_int, i_str_bool, i_str_str, i_str_tuple, i_str_list, n_is_str, n_no_str, i_tup_int, i_tup_bool, i_tup_str, i_tup_tuple, i_tup_list, n_is_tup, n_no_tup, i_lst_int, i_lst_bool, i_lst_str, i_lst_tuple, i_lst_list, n_is_lst, n_no_lst, n_is_non, n_no_non, s_d3, s_d4, e_argD3, e_chain, v_toB, v_ix0, v_ix1, v_ix2, e_raise, e_raiseK, e]
                obtain ⟨L, hc', hL, hf⟩ := comp_wrong (it := itA rng1V [(callE lenV [(varE 2)])]) (t := bin2 (isNV true) (callE (callV d__law_wb_sum_fault) [(varE 1), (bin2 ixV (varE 2) (varE 6))]) (cE .non)) (j := 6) (v0 := [some (.d (.tup [.int n, .tup rs, c])), some (.d (.int n)), some (.d (.tup rs)), some (.d c), none, none, none]) (cs := []) (xs := rs) (sumB n) (e_rngL rfl (bgl hb.len)) hb.len (by simp) fun i hi => by
                  obtain ⟨y, q, qt, qf⟩ := sumfault_s (n := n) (hb.mem _ (List.getElem_mem hi))
                  show bin2 _ _ _ ⟨[some (.d (.tup [.int n, .tup rs, c])), some (.d (.int n)), some (.d (.tup rs)), some (.d c), none, none, some (.d (.int i))], []⟩ = .ok _ ⟨[some (.d (.tup [.int n, .tup rs, c])), some (.d (.int n)), some (.d (.tup rs)), some (.d c), none, none, some (.d (.int i))], []⟩
                  simp only [e_par, e_parK, e_asg, toD_d, e_nameT, e_consT, e_nilT, Option.bind_some, n_nx, n_ct, n_bk, n_ret, e_for, e_itE, e_itA, e_meth, ty_s, e_run1, e_run2, e_run3, e_run4, s_d1, s_d2, s_od, s_oo, s_o1, s_odd, s_t1, s_td, ic_d, ic_o, ic_t, ic_nil, e_argD, e_argDD, List.replicate, Nat.reduceSub, List.length_cons, List.length_nil, bind_ok, bind_exc, bind_bad, e_seq, th_nx, th_ret, th_exc, th_bk, th_ct, e_set, e_setK, e_ret, e_retK, e_drop, e_dropK, e_retN, e_next, e_brk, e_cnt, e_if, e_ifE, e_and, e_or, e_not, onB_t, onB_f, onB_b, e_var, e_varK, e_c, e_bin, e_un, e_call, e_nil, e_cons, e_tup, e_tupK, e_lst, e_lstK, e_newLst, toDs_nil, toDs_d, Option.map_some, e_callV, e_callVT, ar_nil, ar_cons, ar_d, ar_t, e_argKT, af_d, af_new, af_exc, up_nil, up_cons, end_ret, end_exc, end_nx, out_d, v_add, v_sub, v_neg, v_lt, v_le, v_gt, v_ge, v_eqI, v_neI, v_gcd, v_abs, v_max, v_int, v_lenT, v_lenL, List.getElem?_cons_zero, List.getElem?_cons_succ, List.set_cons_zero, List.set_cons_succ, List.take_zero, List.take_nil, Bool.false_eq_true, if_false, if_true, eq_self, decide_true, decide_false, Bool.not_true, Bool.not_false, Nat.reduceAdd, Nat.reduceLeDiff, Nat.reduceLT, List.nil_append, List.cons_append, i_non_int, i_non_bool, i_non_str, i_non_tuple, i_non_list, i_bl_int, i_bl_bool, i_bl_str, i_bl_tuple, i_bl_list, n_is_bl, n_no_bl, i_int_int, i_int_bool, i_int_str, i_int_tuple, i_int_list, n_is_int, n_no_int, i_str_int, i_str_bool, i_str_str, i_str_tuple, i_str_list, n_is_str, n_no_str, i_tup_int, i_tup_bool, i_tup_str, i_tup_tuple, i_tup_list, n_is_tup, n_no_tup, i_lst_int, i_lst_bool, i_lst_str, i_lst_tuple, i_lst_list, n_is_lst, n_no_lst, n_is_non, n_no_non, s_d3, s_d4, e_argD3, e_chain, v_toB, v_ix0, v_ix1, v_ix2, e_raise, e_raiseK, fs_ix hi, q]
                  cases es : sumB n rs[i] with
                  | true => rw [qt es]; rfl
                  | false => obtain ⟨j, rfl⟩ := qf es; rfl
                rw [seq_nx i5, e_seq, e_set, hc', bind_ok, e_setK, th_nx, e_seq]
                show endD 0 (thS (ifS _ _ _ ⟨[some (.d (.tup [.int n, .tup rs, c])), some (.d (.int n)), some (.d (.tup rs)), some (.d c), some (.c 0), none, none], [.own L]⟩) _) = _
                rw [if_wrong rfl rfl hL hf]
                simp only [rowsF, h40, if_false]
                rcases hf with ⟨f1, rfl⟩ | ⟨k, r, f1, rfl⟩
                · simp only [f1, Option.isSome_none, Bool.false_eq_true, if_false, e_next, th_nx]
                  have i6 : setS 5 (callE (callV d__law_wb_ties_fault) [(varE 1), (varE 3)]) ⟨[some (.d (.tup [.int n, .tup rs, c])), some (.d (.int n)), some (.d (.tup rs)), some (.d c), some (.c 0), none, none], [.own [], .own []]⟩ = .ok .nx ⟨[some (.d (.tup [.int n, .tup rs, c])), some (.d (.int n)), some (.d (.tup rs)), some (.d c), some (.c 0), some (.d (tiesF n c)), none], [.own [], .own []]⟩ := by
                    have q := tiesfault_ok (n := n) hc
                    simp only [e_par, e_parK, e_asg, toD_d, e_nameT, e_consT, e_nilT, Option.bind_some, n_nx, n_ct, n_bk, n_ret, e_for, e_itE, e_itA, e_meth, ty_s, e_run1, e_run2, e_run3, e_run4, s_d1, s_d2, s_od, s_oo, s_o1, s_odd, s_t1, s_td, ic_d, ic_o, ic_t, ic_nil, e_argD, e_argDD, List.replicate, Nat.reduceSub, List.length_cons, List.length_nil, bind_ok, bind_exc, bind_bad, e_seq, th_nx, th_ret, th_exc, th_bk, th_ct, e_set, e_setK, e_ret, e_retK, e_drop, e_dropK, e_retN, e_next, e_brk, e_cnt, e_if, e_ifE, e_and, e_or, e_not, onB_t, onB_f, onB_b, e_var, e_varK, e_c, e_bin, e_un, e_call, e_nil, e_cons, e_tup, e_tupK, e_lst, e_lstK, e_newLst, toDs_nil, toDs_d, Option.map_some, e_callV, e_callVT, ar_nil, ar_cons, ar_d, ar_t, e_argKT, af_d, af_new, af_exc, up_nil, up_cons, end_ret, end_exc, end_nx, out_d, v_add, v_sub, v_neg, v_lt, v_le, v_gt, v_ge, v_eqI, v_neI, v_gcd, v_abs, v_max, v_int, v_lenT, v_lenL, List.getElem?_cons_zero, List.getElem?_cons_succ, List.set_cons_zero, List.set_cons_succ, List.take_zero, List.take_nil, Bool.false_eq_true, if_false, if_true, eq_self, decide_true, decide_false, Bool.not_true, Bool.not_false, Nat.reduceAdd, Nat.reduceLeDiff, Nat.reduceLT, List.nil_append, List.cons_append, i_non_int, i_non_bool, i_non_str, i_non_tuple, i_non_list, i_bl_int, i_bl_bool, i_bl_str, i_bl_tuple, i_bl_list, n_is_bl, n_no_bl, i_int_int, i_int_bool, i_int_str, i_int_tuple, i_int_list, n_is_int, n_no_int, i_str_int, i_str_bool, i_str_str, i_str_tuple, i_str_list, n_is_str, n_no_str, i_tup_int, i_tup_bool, i_tup_str, i_tup_tuple, i_tup_list, n_is_tup, n_no_tup, i_lst_int, i_lst_bool, i_lst_str, i_lst_tuple, i_lst_list, n_is_lst, n_no_lst, n_is_non, n_no_non, s_d3, s_d4, e_argD3, e_chain, v_toB, v_ix0, v_ix1, v_ix2, e_raise, e_raiseK, q]
                  show endD 0 (seqS _ _ ⟨[some (.d (.tup [.int n, .tup rs, c])), some (.d (.int n)), some (.d (.tup rs)), some (.d c), some (.c 0), none, none], [.own [], .own []]⟩) = _
                  rw [seq_nx i6]
                  rcases tiesF_form n c with e | ⟨l, e⟩ | ⟨i, e⟩
                  · rw [e]; rfl
                  · rw [e]; rfl
                  · rw [e]
                    simp only [e_par, e_parK, e_asg, toD_d, e_nameT, e_consT, e_nilT, Option.bind_some, n_nx, n_ct, n_bk, n_ret, e_for, e_itE, e_itA, e_meth, ty_s, e_run1, e_run2, e_run3, e_run4, s_d1, s_d2, s_od, s_oo, s_o1, s_odd, s_t1, s_td, ic_d, ic_o, ic_t, ic_nil, e_argD, e_argDD, List.replicate, Nat.reduceSub, List.length_cons, List.length_nil, bind_ok, bind_exc, bind_bad, e_seq, th_nx, th_ret, th_exc, th_bk, th_ct, e_set, e_setK, e_ret, e_retK, e_drop, e_dropK, e_retN, e_next, e_brk, e_cnt, e_if, e_ifE, e_and, e_or, e_not, onB_t, onB_f, onB_b, e_var, e_varK, e_c, e_bin, e_un, e_call, e_nil, e_cons, e_tup, e_tupK, e_lst, e_lstK, e_newLst, toDs_nil, toDs_d, Option.map_some, e_callV, e_callVT, ar_nil, ar_cons, ar_d, ar_t, e_argKT, af_d, af_new, af_exc, up_nil, up_cons, end_ret, end_exc, end_nx, out_d, v_add, v_sub, v_neg, v_lt, v_le, v_gt, v_ge, v_eqI, v_neI, v_gcd, v_abs, v_max, v_int, v_lenT, v_lenL, List.getElem?_cons_zero, List.getElem?_cons_succ, List.set_cons_zero, List.set_cons_succ, List.take_zero, List.take_nil, Bool.false_eq_true, if_false, if_true, eq_self, decide_true, decide_false, Bool.not_true, Bool.not_false, Nat.reduceAdd, Nat.reduceLeDiff, Nat.reduceLT, List.nil_append, List.cons_append, i_non_int, i_non_bool, i_non_str, i_non_tuple, i_non_list, i_bl_int, i_bl_bool, i_bl_str, i_bl_tuple, i_bl_list, n_is_bl, n_no_bl, i_int_int, i_int_bool, i_int_str, i_int_tuple, i_int_list, n_is_int, n_no_int, i_str_int, i_str_bool, i_str_str, i_str_tuple, i_str_list, n_is_str, n_no_str, i_tup_int, i_tup_bool, i_tup_str, i_tup_tuple, i_tup_list, n_is_tup, n_no_tup, i_lst_int, i_lst_bool, i_lst_str, i_lst_tuple, i_lst_list, n_is_lst, n_no_lst, n_is_non, n_no_non, s_d3, s_d4, e_argD3, e_chain, v_toB, v_ix0, v_ix1, v_ix2, e_raise, e_raiseK, tiesW, eqD]
                    by_cases em : i = -1
                    · subst em; rfl
                    · have em : (i == -1) = false := beq_eq_false_iff_ne.mpr em
                      simp only [em, e_par, e_parK, e_asg, toD_d, e_nameT, e_consT, e_nilT, Option.bind_some, n_nx, n_ct, n_bk, n_ret, e_for, e_itE, e_itA, e_meth, ty_s, e_run1, e_run2, e_run3, e_run4, s_d1, s_d2, s_od, s_oo, s_o1, s_odd, s_t1, s_td, ic_d, ic_o, ic_t, ic_nil, e_argD, e_argDD, List.replicate, Nat.reduceSub, List.length_cons, List.length_nil, bind_ok, bind_exc, bind_bad, e_seq, th_nx, th_ret, th_exc, th_bk, th_ct, e_set, e_setK, e_ret, e_retK, e_drop, e_dropK, e_retN, e_next, e_brk, e_cnt, e_if, e_ifE, e_and, e_or, e_not, onB_t, onB_f, onB_b, e_var, e_varK, e_c, e_bin, e_un, e_call, e_nil, e_cons, e_tup, e_tupK, e_lst, e_lstK, e_newLst, toDs_nil, toDs_d, Option.map_some, e_callV, e_callVT, ar_nil, ar_cons, ar_d, ar_t, e_argKT, af_d, af_new, af_exc, up_nil, up_cons, end_ret, end_exc, end_nx, out_d, v_add, v_sub, v_neg, v_lt, v_le, v_gt, v_ge, v_eqI, v_neI, v_gcd, v_abs, v_max, v_int, v_lenT, v_lenL, List.getElem?_cons_zero, List.getElem?_cons_succ, List.set_cons_zero, List.set_cons_succ, List.take_zero, List.take_nil, Bool.false_eq_true, if_false, if_true, eq_self, decide_true, decide_false, Bool.not_true, Bool.not_false, Nat.reduceAdd, Nat.reduceLeDiff, Nat.reduceLT, List.nil_append, List.cons_append, i_non_int, i_non_bool, i_non_str, i_non_tuple, i_non_list, i_bl_int, i_bl_bool, i_bl_str, i_bl_tuple, i_bl_list, n_is_bl, n_no_bl, i_int_int, i_int_bool, i_int_str, i_int_tuple, i_int_list, n_is_int, n_no_int, i_str_int, i_str_bool, i_str_str, i_str_tuple, i_str_list, n_is_str, n_no_str, i_tup_int, i_tup_bool, i_tup_str, i_tup_tuple, i_tup_list, n_is_tup, n_no_tup, i_lst_int, i_lst_bool, i_lst_str, i_lst_tuple, i_lst_list, n_is_lst, n_no_lst, n_is_non, n_no_non, s_d3, s_d4, e_argD3, e_chain, v_toB, v_ix0, v_ix1, v_ix2, e_raise, e_raiseK]
                      all_goals rfl
                · simp only [f1, Option.isSome_some, if_true]
                  simp only [e_par, e_parK, e_asg, toD_d, e_nameT, e_consT, e_nilT, Option.bind_some, n_nx, n_ct, n_bk, n_ret, e_for, e_itE, e_itA, e_meth, ty_s, e_run1, e_run2, e_run3, e_run4, s_d1, s_d2, s_od, s_oo, s_o1, s_odd, s_t1, s_td, ic_d, ic_o, ic_t, ic_nil, e_argD, e_argDD, List.replicate, Nat.reduceSub, List.length_cons, List.length_nil, bind_ok, bind_exc, bind_bad, e_seq, th_nx, th_ret, th_exc, th_bk, th_ct, e_set, e_setK, e_ret, e_retK, e_drop, e_dropK, e_retN, e_next, e_brk, e_cnt, e_if, e_ifE, e_and, e_or, e_not, onB_t, onB_f, onB_b, e_var, e_varK, e_c, e_bin, e_un, e_call, e_nil, e_cons, e_tup, e_tupK, e_lst, e_lstK, e_newLst, toDs_nil, toDs_d, Option.map_some, e_callV, e_callVT, ar_nil, ar_cons, ar_d, ar_t, e_argKT, af_d, af_new, af_exc, up_nil, up_cons, end_ret, end_exc, end_nx, out_d, v_add, v_sub, v_neg, v_lt, v_le, v_gt, v_ge, v_eqI, v_neI, v_gcd, v_abs, v_max, v_int, v_lenT, v_lenL, List.getElem?_cons_zero, List.getElem?_cons_succ, List.set_cons_zero, List.set_cons_succ, List.take_zero, List.take_nil, Bool.false_eq_true, if_false, if_true, eq_self, decide_true, decide_false, Bool.not_true, Bool.not_false, Nat.reduceAdd, Nat.reduceLeDiff, Nat.reduceLT, List.nil_append, List.cons_append, i_non_int, i_non_bool, i_non_str, i_non_tuple, i_non_list, i_bl_int, i_bl_bool, i_bl_str, i_bl_tuple, i_bl_list, n_is_bl, n_no_bl, i_int_int, i_int_bool, i_int_str, i_int_tuple, i_int_list, n_is_int, n_no_int, i_str_int, i_str_bool, i_str_str, i_str_tuple, i_str_list, n_is_str, n_no_str, i_tup_int, i_tup_bool, i_tup_str, i_tup_tuple, i_tup_list, n_is_tup, n_no_tup, i_lst_int, i_lst_bool, i_lst_str, i_lst_tuple, i_lst_list, n_is_lst, n_no_lst, n_is_non, n_no_non, s_d3, s_d4, e_argD3, e_chain, v_toB, v_ix0, v_ix1, v_ix2, e_raise, e_raiseK]
                  rw [v_ixC0 (r := r) rfl]
                  rfl
            | non => rfl
            | bl b => rfl
            | int b => rfl
            | str b => rfl
            | lst b => rfl
            | klst b => have := hb.1; simp [Pl] at this
            | obj b => have := hb.1; simp [Pl] at this
            | ty b => have := hb.1; simp [Pl] at this
          | _ => cases e1
    · have e3 : ((xs.length : Int) == 3) = false := by rw [beq_eq_false_iff_ne]; omega
      have et : worldF (.tup xs) = .tup [.str "BadWorld", .int (-1)] := by
        unfold worldF
        split
        · rename_i h; cases h; exact absurd rfl hn
        · rfl
      rw [d__law_wb_world_fault, et]
      unfold m__law_wb_world_fault
      simp only [e_par, e_parK, e_asg, toD_d, e_nameT, e_consT, e_nilT, Option.bind_some, n_nx, n_ct, n_bk, n_ret, e_for, e_itE, e_itA, e_meth, ty_s, e_run1, e_run2, e_run3, e_run4, s_d1, s_d2, s_od, s_oo, s_o1, s_odd, s_t1, s_td, ic_d, ic_o, ic_t, ic_nil, e_argD, e_argDD, List.replicate, Nat.reduceSub, List.length_cons, List.length_nil, bind_ok, bind_exc, bind_bad, e_seq, th_nx, th_ret, th_exc, th_bk, th_ct, e_set, e_setK, e_ret, e_retK, e_drop, e_dropK, e_retN, e_next, e_brk, e_cnt, e_if, e_ifE, e_and, e_or, e_not, onB_t, onB_f, onB_b, e_var, e_varK, e_c, e_bin, e_un, e_call, e_nil, e_cons, e_tup, e_tupK, e_lst, e_lstK, e_newLst, toDs_nil, toDs_d, Option.map_some, e_callV, e_callVT, ar_nil, ar_cons, ar_d, ar_t, e_argKT, af_d, af_new, af_exc, up_nil, up_cons, end_ret, end_exc, end_nx, out_d, v_add, v_sub, v_neg, v_lt, v_le, v_gt, v_ge, v_eqI, v_neI, v_gcd, v_abs, v_max, v_int, v_lenT, v_lenL, List.getElem?_cons_zero, List.getElem?_cons_succ, List.set_cons_zero, List.set_cons_succ, List.take_zero, List.take_nil, Bool.false_eq_true, if_false, if_true, eq_self, decide_true, decide_false, Bool.not_true, Bool.not_false, Nat.reduceAdd, Nat.reduceLeDiff, Nat.reduceLT, List.nil_append, List.cons_append, i_non_int, i_non_bool, i_non_str, i_non_tuple, i_non_list, i_bl_int, i_bl_bool, i_bl_str, i_bl_tuple, i_bl_list, n_is_bl, n_no_bl, i_int_int, i_int_bool, i_int_str, i_int_tuple, i_int_list, n_is_int, n_no_int, i_str_int, i_str_bool, i_str_str, i_str_tuple, i_str_list, n_is_str, n_no_str, i_tup_int, i_tup_bool, i_tup_str, i_tup_tuple, i_tup_list, n_is_tup, n_no_tup, i_lst_int, i_lst_bool, i_lst_str, i_lst_tuple, i_lst_list, n_is_lst, n_no_lst, n_is_non, n_no_non, s_d3, s_d4, e_argD3, e_chain, v_toB, v_ix0, v_ix1, v_ix2, e_raise, e_raiseK, e3]
      all_goals rfl
  | non => rfl
  | bl b => rfl
  | int b => rfl
  | str b => rfl
  | lst b => rfl
  | klst b => have := h.1; simp [Pl] at this
  | obj b => have := h.1; simp [Pl] at this
  | ty b => have := h.1; simp [Pl] at this
end Law
end
section
set_option Elab.async false
set_option linter.all false
set_option maxRecDepth 100000
set_option maxHeartbeats 4000000
namespace Law
open PySem Sh
/-- what the package makes of it -/
def outW (x : D) : D → RD
  | .tup [.str nm, y] => .exc nm y []
  | _ => .ok (.d x) []
theorem isworld_ok {x : D} (h : Small x) : d_is_world [.d x] = .ok (.d (.bl (match worldF x with | .non => true | _ => false))) [] := by
  cases x with
  | tup xs =>
    by_cases hn : xs.length = 3
    · match xs, hn with
      | [a, b, c], _ =>
        have ha := h.mem a (by simp)
        have hb := h.mem b (by simp)
        have hc := h.mem c (by simp)
        rw [d_is_world, e_run1, s_d1]
        simp only [List.replicate, Nat.reduceSub]
        unfold m_is_world
        have q := dwhole_ok (x := a) (lo := 1) (hi := 40) (Pl.P ha.1)
        have i1 : ifS (orE (notE (callE isiV [(varE 0), (cE (.ty "tuple"))])) (orE (bin2 (eqV true) (callE lenV [(varE 0)]) k_WORLD_PARTS) (notE (callE (callV d_whole) [(bin2 ixV (varE 0) (cE (.int 0))), (cE (.int 1)), k_MOST_QUANTITIES])))) (retS (cE (.bl false))) nextS ⟨[some (.d (.tup [a, b, c])), none, none, none], []⟩ =
            .ok (if inB 1 40 a then .nx else .ret (.d (.bl false))) ⟨[some (.d (.tup [a, b, c])), none, none, none], []⟩ := by
          have e : ((([a, b, c] : List D).length : Int) == 3) = true := rfl
          simp only [e_par, e_parK, e_asg, toD_d, e_nameT, e_consT, e_nilT, Option.bind_some, n_nx, n_ct, n_bk, n_ret, e_for, e_itE, e_itA, e_meth, ty_s, e_run1, e_run2, e_run3, e_run4, s_d1, s_d2, s_od, s_oo, s_o1, s_odd, s_t1, s_td, ic_d, ic_o, ic_t, ic_nil, e_argD, e_argDD, List.replicate, Nat.reduceSub, List.length_cons, List.length_nil, bind_ok, bind_exc, bind_bad, e_seq, th_nx, th_ret, th_exc, th_bk, th_ct, e_set, e_setK, e_ret, e_retK, e_drop, e_dropK, e_retN, e_next, e_brk, e_cnt, e_if, e_ifE, e_and, e_or, e_not, onB_t, onB_f, onB_b, e_var, e_varK, e_c, e_bin, e_un, e_call, e_nil, e_cons, e_tup, e_tupK, e_lst, e_lstK, e_newLst, toDs_nil, toDs_d, Option.map_some, e_callV, e_callVT, ar_nil, ar_cons, ar_d, ar_t, e_argKT, af_d, af_new, af_exc, up_nil, up_cons, end_ret, end_exc, end_nx, out_d, v_add, v_sub, v_neg, v_lt, v_le, v_gt, v_ge, v_eqI, v_neI, v_gcd, v_abs, v_max, v_int, v_lenT, v_lenL, List.getElem?_cons_zero, List.getElem?_cons_succ, List.set_cons_zero, List.set_cons_succ, List.take_zero, List.take_nil, Bool.false_eq_true, if_false, if_true, eq_self, decide_true, decide_false, Bool.not_true, Bool.not_false, Nat.reduceAdd, Nat.reduceLeDiff, Nat.reduceLT, List.nil_append, List.cons_append, i_non_int, i_non_bool, i_non_str, i_non_tuple, i_non_list, i_bl_int, i_bl_bool, i_bl_str, i_bl_tuple, i_bl_list, n_is_bl, n_no_bl, i_int_int, i_int_bool, i_int_str, i_int_tuple, i_int_list, n_is_int, n_no_int, i_str_int, i_str_bool, i_str_str, i_str_tuple, i_str_list, n_is_str, n_no_str, i_tup_int, i_tup_bool, i_tup_str, i_tup_tuple, i_tup_list, n_is_tup, n_no_tup, i_lst_int, i_lst_bool, i_lst_str, i_lst_tuple, i_lst_list, n_is_lst, n_no_lst, n_is_non, n_no_non, s_d3, s_d4, e_argD3, e_chain, v_toB, v_ix0, v_ix1, v_ix2, e_raise, e_raiseK, k_WORLD_PARTS, k_MOST_QUANTITIES, e, q]
          cases inB 1 40 a <;> rfl
        rw [e_seq, i1]
        cases e1 : inB 1 40 a with
        | false =>
          have : worldF (.tup [a, b, c]) = .tup [.str "BadWorld", .int 0] := by
            unfold worldF headF
            cases a with
            | int n => simp only [e1]; rfl
            | _ => rfl
          rw [this]; rfl
        | true =>
          simp only [if_true, th_nx]
          cases a with
          | int n =>
            have ew : worldF (.tup [.int n, b, c]) = rowsF n c b := by
              unfold worldF headF
              simp only [e1, if_true]
            have n1 : 1 ≤ n ∧ n ≤ 40 := by
              unfold inB at e1
              rw [Bool.and_eq_true, decide_eq_true_eq, decide_eq_true_eq] at e1; exact e1
            rw [ew]
            have i2 : asgS (tupT 3 (consT (nameT 1) (consT (nameT 2) (consT (nameT 3) nilT)))) (varE 0) ⟨[some (.d (.tup [.int n, b, c])), none, none, none], []⟩ = .ok .nx ⟨[some (.d (.tup [.int n, b, c])), some (.d (.int n)), some (.d b), some (.d c)], []⟩ := rfl
            rw [seq_nx i2]
            cases b with
            | tup rs =>
              by_cases h40 : 40 < rs.length
              · have e : decide ((40 : Int) < (rs.length : Int)) = true := decide_eq_true (by omega)
                simp only [e_par, e_parK, e_asg, toD_d, e_nameT, e_consT, e_nilT, Option.bind_some, n_nx, n_ct, n_bk, n_ret, e_for, e_itE, e_itA, e_meth, ty_s, e_run1, e_run2, e_run3, e_run4, s_d1, s_d2, s_od, s_oo, s_o1, s_odd, s_t1, s_td, ic_d, ic_o, ic_t, ic_nil, e_argD, e_argDD, List.replicate, Nat.reduceSub, List.length_cons, List.length_nil, bind_ok, bind_exc, bind_bad, e_seq, th_nx, th_ret, th_exc, th_bk, th_ct, e_set, e_setK, e_ret, e_retK, e_drop, e_dropK, e_retN, e_next, e_brk, e_cnt, e_if, e_ifE, e_and, e_or, e_not, onB_t, onB_f, onB_b, e_var, e_varK, e_c, e_bin, e_un, e_call, e_nil, e_cons, e_tup, e_tupK, e_lst, e_lstK, e_newLst, toDs_nil, toDs_d, Option.map_some, e_callV, e_callVT, ar_nil, ar_cons, ar_d, ar_t, e_argKT, af_d, af_new, af_exc, up_nil, up_cons, end_ret, end_exc, end_nx, out_d, v_add, v_sub, v_neg, v_lt, v_le, v_gt, v_ge, v_eqI, v_neI, v_gcd, v_abs, v_max, v_int, v_lenT, v_lenL, List.getElem?_cons_zero, List.getElem?_cons_succ, List.set_cons_zero, List.set_cons_succ, List.take_zero, List.take_nil, Bool.false_eq_true, if_false, if_true, eq_self, decide_true, decide_false, Bool.not_true, Bool.not_false, Nat.reduceAdd, Nat.reduceLeDiff, Nat.reduceLT, List.nil_append, List.cons_append, i_non_int, i_non_bool, i_non_str, i_non_tuple, i_non_list, i_bl_int, i_bl_bool, i_bl_str, i_bl_tuple, i_bl_list, n_is_bl, n_no_bl, i_int_int, i_int_bool, i_int_str, i_int_tuple, i_int_list, n_is_int, n_no_int, i_str_int, i_str_bool, i_str_str, i_str_tuple, i_str_list, n_is_str, n_no_str, i_tup_int, i_tup_bool, i_tup_str, i_tup_tuple, i_tup_list, n_is_tup, n_no_tup, i_lst_int, i_lst_bool, i_lst_str, i_lst_tuple, i_lst_list, n_is_lst, n_no_lst, n_is_non, n_no_non, s_d3, s_d4, e_argD3, e_chain, v_toB, v_ix0, v_ix1, v_ix2, e_raise, e_raiseK, k_MOST_EQUATIONS, e, rowsF, h40]
                all_goals rfl
              · have e : decide ((40 : Int) < (rs.length : Int)) = false := decide_eq_false (by omega)
                have i3 : ifS (orE (notE (callE isiV [(varE 2), (cE (.ty "tuple"))])) (bin2 gtV (callE lenV [(varE 2)]) k_MOST_EQUATIONS)) (retS (cE (.bl false))) nextS ⟨[some (.d (.tup [.int n, .tup rs, c])), some (.d (.int n)), some (.d (.tup rs)), some (.d c)], []⟩ = .ok .nx ⟨[some (.d (.tup [.int n, .tup rs, c])), some (.d (.int n)), some (.d (.tup rs)), some (.d c)], []⟩ := by
                  simp only [e_par, e_parK, e_asg, toD_d, e_nameT, e_consT, e_nilT, Option.bind_some, n_nx, n_ct, n_bk, n_ret, e_for, e_itE, e_itA, e_meth, ty_s, e_run1, e_run2, e_run3, e_run4, s_d1, s_d2, s_od, s_oo, s_o1, s_odd, s_t1, s_td, ic_d, ic_o, ic_t, ic_nil, e_argD, e_argDD, List.replicate, Nat.reduceSub, List.length_cons, List.length_nil, bind_ok, bind_exc, bind_bad, e_seq, th_nx, th_ret, th_exc, th_bk, th_ct, e_set, e_setK, e_ret, e_retK, e_drop, e_dropK, e_retN, e_next, e_brk, e_cnt, e_if, e_ifE, e_and, e_or, e_not, onB_t, onB_f, onB_b, e_var, e_varK, e_c, e_bin, e_un, e_call, e_nil, e_cons, e_tup, e_tupK, e_lst, e_lstK, e_newLst, toDs_nil, toDs_d, Option.map_some, e_callV, e_callVT, ar_nil, ar_cons, ar_d, ar_t, e_argKT, af_d, af_new, af_exc, up_nil, up_cons, end_ret, end_exc, end_nx, out_d, v_add, v_sub, v_neg, v_lt, v_le, v_gt, v_ge, v_eqI, v_neI, v_gcd, v_abs, v_max, v_int, v_lenT, v_lenL, List.getElem?_cons_zero, List.getElem?_cons_succ, List.set_cons_zero, List.set_cons_succ, List.take_zero, List.take_nil, Bool.false_eq_true, if_false, if_true, eq_self, decide_true, decide_false, Bool.not_true, Bool.not_false, Nat.reduceAdd, Nat.reduceLeDiff, Nat.reduceLT, List.nil_append, List.cons_append, i_non_int, i_non_bool, i_non_str, i_non_tuple, i_non_list, i_bl_int, i_bl_bool, i_bl_str, i_bl_tuple, i_bl_list, n_is_bl, n_no_bl, i_int_int, i_int_bool, i_int_str, i_int_tuple, i_int_list, n_is_int, n_no_int, i_str_int, i_str_bool, i_str_str, i_str_tuple, i_str_list, n_is_str, n_no_str, i_tup_int, i_tup_bool, i_tup_str, i_tup_tuple, i_tup_list, n_is_tup, n_no_tup, i_lst_int, i_lst_bool, i_lst_str, i_lst_tuple, i_lst_list, n_is_lst, n_no_lst, n_is_non, n_no_non, s_d3, s_d4, e_argD3, e_chain, v_toB, v_ix0, v_ix1, v_ix2, e_raise, e_raiseK, k_MOST_EQUATIONS, e]
                have qs := firstsum_ok (n := n) (xs := rs) hb.mem
                rw [seq_nx i3]
                simp only [rowsF, h40, if_false]
                cases fs : fo (sumB n) 0 rs with
                | some k =>
                  rw [fs] at qs
                  simp only [e_par, e_parK, e_asg, toD_d, e_nameT, e_consT, e_nilT, Option.bind_some, n_nx, n_ct, n_bk, n_ret, e_for, e_itE, e_itA, e_meth, ty_s, e_run1, e_run2, e_run3, e_run4, s_d1, s_d2, s_od, s_oo, s_o1, s_odd, s_t1, s_td, ic_d, ic_o, ic_t, ic_nil, e_argD, e_argDD, List.replicate, Nat.reduceSub, List.length_cons, List.length_nil, bind_ok, bind_exc, bind_bad, e_seq, th_nx, th_ret, th_exc, th_bk, th_ct, e_set, e_setK, e_ret, e_retK, e_drop, e_dropK, e_retN, e_next, e_brk, e_cnt, e_if, e_ifE, e_and, e_or, e_not, onB_t, onB_f, onB_b, e_var, e_varK, e_c, e_bin, e_un, e_call, e_nil, e_cons, e_tup, e_tupK, e_lst, e_lstK, e_newLst, toDs_nil, toDs_d, Option.map_some, e_callV, e_callVT, ar_nil, ar_cons, ar_d, ar_t, e_argKT, af_d, af_new, af_exc, up_nil, up_cons, end_ret, end_exc, end_nx, out_d, v_add, v_sub, v_neg, v_lt, v_le, v_gt, v_ge, v_eqI, v_neI, v_gcd, v_abs, v_max, v_int, v_lenT, v_lenL, List.getElem?_cons_zero, List.getElem?_cons_succ, List.set_cons_zero, List.set_cons_succ, List.take_zero, List.take_nil, Bool.false_eq_true, if_false, if_true, eq_self, decide_true, decide_false, Bool.not_true, Bool.not_false, Nat.reduceAdd, Nat.reduceLeDiff, Nat.reduceLT, List.nil_append, List.cons_append, i_non_int, i_non_bool, i_non_str, i_non_tuple, i_non_list, i_bl_int, i_bl_bool, i_bl_str, i_bl_tuple, i_bl_list, n_is_bl, n_no_bl, i_int_int, i_int_bool, i_int_str, i_int_tuple, i_int_list, n_is_int, n_no_int, i_str_int, i_str_bool, i_str_str, i_str_tuple, i_str_list, n_is_str, n_no_str, i_tup_int, i_tup_bool, i_tup_str, i_tup_tuple, i_tup_list, n_is_tup, n_no_tup, i_lst_int, i_lst_bool, i_lst_str, i_lst_tuple, i_lst_list, n_is_lst, n_no_lst, n_is_non, n_no_non, s_d3, s_d4, e_argD3, e_chain, v_toB, v_ix0, v_ix1, v_ix2, e_raise, e_raiseK, qs, oD]
                  all_goals rfl
                | none =>
                  rw [fs] at qs
                  cases c with
                  | tup ts =>
                    by_cases h12 : 12 < ts.length
                    · have e : decide ((12 : Int) < (ts.length : Int)) = true := decide_eq_true (by omega)
                      simp only [e_par, e_parK, e_asg, toD_d, e_nameT, e_consT, e_nilT, Option.bind_some, n_nx, n_ct, n_bk, n_ret, e_for, e_itE, e_itA, e_meth, ty_s, e_run1, e_run2, e_run3, e_run4, s_d1, s_d2, s_od, s_oo, s_o1, s_odd, s_t1, s_td, ic_d, ic_o, ic_t, ic_nil, e_argD, e_argDD, List.replicate, Nat.reduceSub, List.length_cons, List.length_nil, bind_ok, bind_exc, bind_bad, e_seq, th_nx, th_ret, th_exc, th_bk, th_ct, e_set, e_setK, e_ret, e_retK, e_drop, e_dropK, e_retN, e_next, e_brk, e_cnt, e_if, e_ifE, e_and, e_or, e_not, onB_t, onB_f, onB_b, e_var, e_varK, e_c, e_bin, e_un, e_call, e_nil, e_cons, e_tup, e_tupK, e_lst, e_lstK, e_newLst, toDs_nil, toDs_d, Option.map_some, e_callV, e_callVT, ar_nil, ar_cons, ar_d, ar_t, e_argKT, af_d, af_new, af_exc, up_nil, up_cons, end_ret, end_exc, end_nx, out_d, v_add, v_sub, v_neg, v_lt, v_le, v_gt, v_ge, v_eqI, v_neI, v_gcd, v_abs, v_max, v_int, v_lenT, v_lenL, List.getElem?_cons_zero, List.getElem?_cons_succ, List.set_cons_zero, List.set_cons_succ, List.take_zero, List.take_nil, Bool.false_eq_true, if_false, if_true, eq_self, decide_true, decide_false, Bool.not_true, Bool.not_false, Nat.reduceAdd, Nat.reduceLeDiff, Nat.reduceLT, List.nil_append, List.cons_append, i_non_int, i_non_bool, i_non_str, i_non_tuple, i_non_list, i_bl_int, i_bl_bool, i_bl_str, i_bl_tuple, i_bl_list, n_is_bl, n_no_bl, i_int_int, i_int_bool, i_int_str, i_int_tuple, i_int_list, n_is_int, n_no_int, i_str_int, i_str_bool, i_str_str, i_str_tuple, i_str_list, n_is_str, n_no_str, i_tup_int, i_tup_bool, i_tup_str, i_tup_tuple, i_tup_list, n_is_tup, n_no_tup, i_lst_int, i_lst_bool, i_lst_str, i_lst_tuple, i_lst_list, n_is_lst, n_no_lst, n_is_non, n_no_non, s_d3, s_d4, e_argD3, e_chain, v_toB, v_ix0, v_ix1, v_ix2, e_raise, e_raiseK, k_MOST_TIES, qs, oD, e, tiesF, h12, tiesW]
                      all_goals rfl
                    · have e : decide ((12 : Int) < (ts.length : Int)) = false := decide_eq_false (by omega)
                      have qt := firsttie_ok (n := n) (xs := ts) n1.1 (by omega) hc.mem
                      simp only [tiesF, h12, if_false]
                      cases ft : fo (tieB n) 0 ts with
                      | none =>
                        rw [ft] at qt
                        simp only [e_par, e_parK, e_asg, toD_d, e_nameT, e_consT, e_nilT, Option.bind_some, n_nx, n_ct, n_bk, n_ret, e_for, e_itE, e_itA, e_meth, ty_s, e_run1, e_run2, e_run3, e_run4, s_d1, s_d2, s_od, s_oo, s_o1, s_odd, s_t1, s_td, ic_d, ic_o, ic_t, ic_nil, e_argD, e_argDD, List.replicate, Nat.reduceSub, List.length_cons, List.length_nil, bind_ok, bind_exc, bind_bad, e_seq, th_nx, th_ret, th_exc, th_bk, th_ct, e_set, e_setK, e_ret, e_retK, e_drop, e_dropK, e_retN, e_next, e_brk, e_cnt, e_if, e_ifE, e_and, e_or, e_not, onB_t, onB_f, onB_b, e_var, e_varK, e_c, e_bin, e_un, e_call, e_nil, e_cons, e_tup, e_tupK, e_lst, e_lstK, e_newLst, toDs_nil, toDs_d, Option.map_some, e_callV, e_callVT, ar_nil, ar_cons, ar_d, ar_t, e_argKT, af_d, af_new, af_exc, up_nil, up_cons, end_ret, end_exc, end_nx, out_d, v_add, v_sub, v_neg, v_lt, v_le, v_gt, v_ge, v_eqI, v_neI, v_gcd, v_abs, v_max, v_int, v_lenT, v_lenL, List.getElem?_cons_zero, List.getElem?_cons_succ, List.set_cons_zero, List.set_cons_succ, List.take_zero, List.take_nil, Bool.false_eq_true, if_false, if_true, eq_self, decide_true, decide_false, Bool.not_true, Bool.not_false, Nat.reduceAdd, Nat.reduceLeDiff, Nat.reduceLT, List.nil_append, List.cons_append, i_non_int, i_non_bool, i_non_str, i_non_tuple, i_non_list, i_bl_int, i_bl_bool, i_bl_str, i_bl_tuple, i_bl_list, n_is_bl, n_no_bl, i_int_int, i_int_bool, i_int_str, i_int_tuple, i_int_list, n_is_int, n_no_int, i_str_int, i_str_bool, i_str_str, i_str_tuple, i_str_list, n_is_str, n_no_str, i_tup_int, i_tup_bool, i_tup_str, i_tup_tuple, i_tup_list, n_is_tup, n_no_tup, i_lst_int, i_lst_bool, i_lst_str, i_lst_tuple, i_lst_list, n_is_lst, n_no_lst, n_is_non, n_no_non, s_d3, s_d4, e_argD3, e_chain, v_toB, v_ix0, v_ix1, v_ix2, e_raise, e_raiseK, k_MOST_TIES, qs, qt, oD, e]
                        all_goals rfl
                      | some k =>
                        rw [ft] at qt
                        simp only [e_par, e_parK, e_asg, toD_d, e_nameT, e_consT, e_nilT, Option.bind_some, n_nx, n_ct, n_bk, n_ret, e_for, e_itE, e_itA, e_meth, ty_s, e_run1, e_run2, e_run3, e_run4, s_d1, s_d2, s_od, s_oo, s_o1, s_odd, s_t1, s_td, ic_d, ic_o, ic_t, ic_nil, e_argD, e_argDD, List.replicate, Nat.reduceSub, List.length_cons, List.length_nil, bind_ok, bind_exc, bind_bad, e_seq, th_nx, th_ret, th_exc, th_bk, th_ct, e_set, e_setK, e_ret, e_retK, e_drop, e_dropK, e_retN, e_next, e_brk, e_cnt, e_if, e_ifE, e_and, e_or, e_not, onB_t, onB_f, onB_b, e_var, e_varK, e_c, e_bin, e_un, e_call, e_nil, e_cons, e_tup, e_tupK, e_lst, e_lstK, e_newLst, toDs_nil, toDs_d, Option.map_some, e_callV, e_callVT, ar_nil, ar_cons, ar_d, ar_t, e_argKT, af_d, af_new, af_exc, up_nil, up_cons, end_ret, end_exc, end_nx, out_d, v_add, v_sub, v_neg, v_lt, v_le, v_gt, v_ge, v_eqI, v_neI, v_gcd, v_abs, v_max, v_int, v_lenT, v_lenL, List.getElem?_cons_zero, List.getElem?_cons_succ, List.set_cons_zero, List.set_cons_succ, List.take_zero, List.take_nil, Bool.false_eq_true, if_false, if_true, eq_self, decide_true, decide_false, Bool.not_true, Bool.not_false, Nat.reduceAdd, Nat.reduceLeDiff, Nat.reduceLT, List.nil_append, List.cons_append, i_non_int, i_non_bool, i_non_str, i_non_tuple, i_non_list, i_bl_int, i_bl_bool, i_bl_str, i_bl_tuple, i_bl_list, n_is_bl, n_no_bl, i_int_int, i_int_bool, i_int_str, i_int_tuple, i_int_list, n_is_int, n_no_int, i_str_int, i_str_bool, i_str_str, i_str_tuple, i_str_list, n_is_str, n_no_str, i_tup_int, i_tup_bool, i_tup_str, i_tup_tuple, i_tup_list, n_is_tup, n_no_tup, i_lst_int, i_lst_bool, i_lst_str, i_lst_tuple, i_lst_list, n_is_lst, n_no_lst, n_is_non, n_no_non, s_d3, s_d4, e_argD3, e_chain, v_toB, v_ix0, v_ix1, v_ix2, e_raise, e_raiseK, k_MOST_TIES, qs, qt, oD, e]
                        all_goals rfl
                  | non => simp only [e_par, e_parK, e_asg, toD_d, e_nameT, e_consT, e_nilT, Option.bind_some, n_nx, n_ct, n_bk, n_ret, e_for, e_itE, e_itA, e_meth, ty_s, e_run1, e_run2, e_run3, e_run4, s_d1, s_d2, s_od, s_oo, s_o1, s_odd, s_t1, s_td, ic_d, ic_o, ic_t, ic_nil, e_argD, e_argDD, List.replicate, Nat.reduceSub, List.length_cons, List.length_nil, bind_ok, bind_exc, bind_bad, e_seq, th_nx, th_ret, th_exc, th_bk, th_ct, e_set, e_setK, e_ret, e_retK, e_drop, e_dropK, e_retN, e_next, e_brk, e_cnt, e_if, e_ifE, e_and, e_or, e_not, onB_t, onB_f, onB_b, e_var, e_varK, e_c, e_bin, e_un, e_call, e_nil, e_cons, e_tup, e_tupK, e_lst, e_lstK, e_newLst, toDs_nil, toDs_d, Option.map_some, e_callV, e_callVT, ar_nil, ar_cons, ar_d, ar_t, e_argKT, af_d, af_new, af_exc, up_nil, up_cons, end_ret, end_exc, end_nx, out_d, v_add, v_sub, v_neg, v_lt, v_le, v_gt, v_ge, v_eqI, v_neI, v_gcd, v_abs, v_max, v_int, v_lenT, v_lenL, List.getElem?_cons_zero, List.getElem?_cons_succ, List.set_cons_zero, List.set_cons_succ, List.take_zero, List.take_nil, Bool.false_eq_true, if_false, if_true, eq_self, decide_true, decide_false, Bool.not_true, Bool.not_false, Nat.reduceAdd, Nat.reduceLeDiff, Nat.reduceLT, List.nil_append, List.cons_append, i_non_int, i_non_bool, i_non_str, i_non_tuple, i_non_list, i_bl_int, i_bl_bool, i_bl_str, i_bl_tuple, i_bl_list, n_is_bl, n_no_bl, i_int_int, i_int_bool, i_int_str, i_int_tuple, i_int_list, n_is_int, n_no_int, i_str_int, i_str_bool, i_str_str, i_str_tuple, i_str_list, n_is_str, n_no_str, i_tup_int, i_tup_bool, i_tup_str, i_tup_tuple, i_tup_list, n_is_tup, n_no_tup, i_lst_int, i_lst_bool, i_lst_str, i_lst_tuple, i_lst_list, n_is_lst, n_no_lst, n_is_non, n_no_non, s_d3, s_d4, e_argD3, e_chain, v_toB, v_ix0, v_ix1, v_ix2, e_raise, e_raiseK, qs, oD]; all_goals rfl
                  | bl b => simp only [e_par, e_parK, e_asg, toD_d, e_nameT, e_consT, e_nilT, Option.bind_some, n_nx, n_ct, n_bk, n_ret, e_for, e_itE, e_itA, e_meth, ty_s, e_run1, e_run2, e_run3, e_run4, s_d1, s_d2, s_od, s_oo, s_o1, s_odd, s_t1, s_td, ic_d, ic_o, ic_t, ic_nil, e_argD, e_argDD, List.replicate, Nat.reduceSub, List.length_cons, List.length_nil, bind_ok, bind_exc, bind_bad, e_seq, th_nx, th_ret, th_exc, th_bk, th_ct, e_set, e_setK, e_ret, e_retK, e_drop, e_dropK, e_retN, e_next, e_brk, e_cnt, e_if, e_ifE, e_and, e_or, e_not, onB_t, onB_f, onB_b, e_var, e_varK, e_c, e_bin, e_un, e_call, e_nil, e_cons, e_tup, e_tupK, e_lst, e_lstK, e_newLst, toDs_nil, toDs_d, Option.map_some, e_callV, e_callVT, ar_nil, ar_cons, ar_d, ar_t, e_argKT, af_d, af_new, af_exc, up_nil, up_cons, end_ret, end_exc, end_nx, out_d, v_add, v_sub, v_neg, v_lt, v_le, v_gt, v_ge, v_eqI, v_neI, v_gcd, v_abs, v_max, v_int, v_lenT, v_lenL, List.getElem?_cons_zero, List.getElem?_cons_succ, List.set_cons_zero, List.set_cons_succ, List.take_zero, List.take_nil, Bool.false_eq_true, if_false, if_true, eq_self, decide_true, decide_false, Bool.not_true, Bool.not_false, Nat.reduceAdd, Nat.reduceLeDiff, Nat.reduceLT, List.nil_append, List.cons_append, i_non_int, i_non_bool, i_non_str, i_non_tuple, i_non_list, i_bl_int, i_bl_bool, i_bl_str, i_bl_tuple, i_bl_list, n_is_bl, n_no_bl, i_int_int, i_int_bool, i_int_str, i_int_tuple, i_int_list, n_is_int, n_no_int, i_str_int, i_str_bool, i_str_str, i_str_tuple, i_str_list, n_is_str, n_no_str, i_tup_int, i_tup_bool, i_tup_str, i_tup_tuple, i_tup_list, n_is_tup, n_no_tup, i_lst_int, i_lst_bool, i_lst_str, i_lst_tuple, i_lst_list, n_is_lst, n_no_lst, n_is_non, n_no_non, s_d3, s_d4, e_argD3, e_chain, v_toB, v_ix0, v_ix1, v_ix2, e_raise, e_raiseK, qs, oD]; all_goals rfl
                  | int b => simp only [e_par, e_parK, e_asg, toD_d, e_nameT, e_consT, e_nilT, Option.bind_some, n_nx, n_ct, n_bk, n_ret, e_for, e_itE, e_itA, e_meth, ty_s, e_run1, e_run2, e_run3, e_run4, s_d1, s_d2, s_od, s_oo, s_o1, s_odd, s_t1, s_td, ic_d, ic_o, ic_t, ic_nil, e_argD, e_argDD, List.replicate, Nat.reduceSub, List.length_cons, List.length_nil, bind_ok, bind_exc, bind_bad, e_seq, th_nx, th_ret, th_exc, th_bk, th_ct, e_set, e_setK, e_ret, e_retK, e_drop, e_dropK, e_retN, e_next, e_brk, e_cnt, e_if, e_ifE, e_and, e_or, e_not, onB_t, onB_f, onB_b, e_var, e_varK, e_c, e_bin, e_un, e_call, e_nil, e_cons, e_tup, e_tupK, e_lst, e_lstK, e_newLst, toDs_nil, toDs_d, Option.map_some, e_callV, e_callVT, ar_nil, ar_cons, ar_d, ar_t, e_argKT, af_d, af_new, af_exc, up_nil, up_cons, end_ret, end_exc, end_nx, out_d, v_add, v_sub, v_neg, v_lt, v_le, v_gt, v_ge, v_eqI, v_neI, v_gcd, v_abs, v_max, v_int, v_lenT, v_lenL, List.getElem?_cons_zero, List.getElem?_cons_succ, List.set_cons_zero, List.set_cons_succ, List.take_zero, List.take_nil, Bool.false_eq_true, if_false, if_true, eq_self, decide_true, decide_false, Bool.not_true, Bool.not_false, Nat.reduceAdd, Nat.reduceLeDiff, Nat.reduceLT, List.nil_append, List.cons_append, i_non_int, i_non_bool, i_non_str, i_non_tuple, i_non_list, i_bl_int, i_bl_bool, i_bl_str, i_bl_tuple, i_bl_list, n_is_bl, n_no_bl, i_int_int, i_int_bool, i_int_str, i_int_tuple, i_int_list, n_is_int, n_no_int, i_str_int, i_str_bool, i_str_str, i_str_tuple, i_str_list, n_is_str, n_no_str, i_tup_int, i_tup_bool, i_tup_str, i_tup_tuple, i_tup_list, n_is_tup, n_no_tup, i_lst_int, i_lst_bool, i_lst_str, i_lst_tuple, i_lst_list, n_is_lst, n_no_lst, n_is_non, n_no_non, s_d3, s_d4, e_argD3, e_chain, v_toB, v_ix0, v_ix1, v_ix2, e_raise, e_raiseK, qs, oD]; all_goals rfl
                  | str b => simp only [e_par, e_parK, e_asg, toD_d, e_nameT, e_consT, e_nilT, Option.bind_some, n_nx, n_ct, n_bk, n_ret, e_for, e_itE, e_itA, e_meth, ty_s, e_run1, e_run2, e_run3, e_run4, s_d1, s_d2, s_od, s_oo, s_o1, s_odd, s_t1, s_td, ic_d, ic_o, ic_t, ic_nil, e_argD, e_argDD, List.replicate, Nat.reduceSub, List.length_cons, List.length_nil, bind_ok, bind_exc, bind_bad, e_seq, th_nx, th_ret, th_exc, th_bk, th_ct, e_set, e_setK, e_ret, e_retK, e_drop, e_dropK, e_retN, e_next, e_brk, e_cnt, e_if, e_ifE, e_and, e_or, e_not, onB_t, onB_f, onB_b, e_var, e_varK, e_c, e_bin, e_un, e_call, e_nil, e_cons, e_tup, e_tupK, e_lst, e_lstK, e_newLst, toDs_nil, toDs_d, Option.map_some, e_callV, e_callVT, ar_nil, ar_cons, ar_d, ar_t, e_argKT, af_d, af_new, af_exc, up_nil, up_cons, end_ret, end_exc, end_nx, out_d, v_add, v_sub, v_neg, v_lt, v_le, v_gt, v_ge, v_eqI, v_neI, v_gcd, v_abs, v_max, v_int, v_lenT, v_lenL, List.getElem?_cons_zero, List.getElem?_cons_succ, List.set_cons_zero, List.set_cons_succ, List.take_zero, List.take_nil, Bool.false_eq_true, if_false, if_true, eq_self, decide_true, decide_false, Bool.not_true, Bool.not_false, Nat.reduceAdd, Nat.reduceLeDiff, Nat.reduceLT, List.nil_append, List.cons_append, i_non_int, i_non_bool, i_non_str, i_non_tuple, i_non_list, i_bl_int, i_bl_bool, i_bl_str, i_bl_tuple, i_bl_list, n_is_bl, n_no_bl, i_int_int, i_int_bool, i_int_str, i_int_tuple, i_int_list, n_is_int, n_no_int, i_str_int, i_str_bool, i_str_str, i_str_tuple, i_str_list, n_is_str, n_no_str, i_tup_int, i_tup_bool, i_tup_str, i_tup_tuple, i_tup_list, n_is_tup, n_no_tup, i_lst_int, i_lst_bool, i_lst_str, i_lst_tuple, i_lst_list, n_is_lst, n_no_lst, n_is_non, n_no_non, s_d3, s_d4, e_argD3, e_chain, v_toB, v_ix0, v_ix1, v_ix2, e_raise, e_raiseK, qs, oD]; all_goals rfl
                  | lst b => simp only [e_par, e_parK, e_asg, toD_d, e_nameT, e_consT, e_nilT, Option.bind_some, n_nx, n_ct, n_bk, n_ret, e_for, e_itE, e_itA, e_meth, ty_s, e_run1, e_run2, e_run3, e_run4, s_d1, s_d2, s_od, s_oo, s_o1, s_odd, s_t1, s_td, ic_d, ic_o, ic_t, ic_nil, e_argD, e_argDD, List.replicate, Nat.reduceSub, List.length_cons, List.length_nil, bind_ok, bind_exc, bind_bad, e_seq, th_nx, th_ret, th_exc, th_bk, th_ct, e_set, e_setK, e_ret, e_retK, e_drop, e_dropK, e_retN, e_next, e_brk, e_cnt, e_if, e_ifE, e_and, e_or, e_not, onB_t, onB_f, onB_b, e_var, e_varK, e_c, e_bin, e_un, e_call, e_nil, e_cons, e_tup, e_tupK, e_lst, e_lstK, e_newLst, toDs_nil, toDs_d, Option.map_some, e_callV, e_callVT, ar_nil, ar_cons, ar_d, ar_t, e_argKT, af_d, af_new, af_exc, up_nil, up_cons, end_ret, end_exc, end_nx, out_d, v_add, v_sub, v_neg, v_lt, v_le, v_gt, v_ge, v_eqI, v_neI, v_gcd, v_abs, v_max, v_int, v_lenT, v_lenL, List.getElem?_cons_zero, List.getElem?_cons_succ, List.set_cons_zero, List.set_cons_succ, List.take_zero, List.take_nil, Bool.false_eq_true, if_false, if_true, eq_self, decide_true, decide_false, Bool.not_true, Bool.not_false, Nat.reduceAdd, Nat.reduceLeDiff, Nat.reduceLT, List.nil_append, List.cons_append, i_non_int, i_non_bool, i_non_str, i_non_tuple, i_non_list, i_bl_int, i_bl_bool, i_bl_str, i_bl_tuple, i_bl_list, n_is_bl, n_no_bl, i_int_int, i_int_bool, i_int_str, i_int_tuple, i_int_list, n_is_int, n_no_int, i_str_int, i_str_bool, i_str_str, i_str_tuple, i_str_list, n_is_str, n_no_str, i_tup_int, i_tup_bool, i_tup_str, i_tup_tuple, i_tup_list, n_is_tup, n_no_tup, i_lst_int, i_lst_bool, i_lst_str, i_lst_tuple, i_lst_list, n_is_lst, n_no_lst, n_is_non, n_no_non, s_d3, s_d4, e_argD3, e_chain, v_toB, v_ix0, v_ix1, v_ix2, e_raise, e_raiseK, qs, oD]; all_goals rfl
                  | klst b => have := hc.1; simp [Pl] at this
                  | obj b => have := hc.1; simp [Pl] at this
                  | ty b => have := hc.1; simp [Pl] at this
            | non => rfl
            | bl b => rfl
            | int b => rfl
            | str b => rfl
            | lst b => rfl
            | klst b => have := hb.1; simp [Pl] at this
            | obj b => have := hb.1; simp [Pl] at this
            | ty b => have := hb.1; simp [Pl] at this
          | _ => cases e1
    · have e3 : ((xs.length : Int) == 3) = false := by rw [beq_eq_false_iff_ne]; omega
      have et : worldF (.tup xs) = .tup [.str "BadWorld", .int (-1)] := by
        unfold worldF
        split
        · rename_i h; cases h; exact absurd rfl hn
        · rfl
      rw [d_is_world, et]
      unfold m_is_world
      simp only [e_par, e_parK, e_asg, toD_d, e_nameT, e_consT, e_nilT, Option.bind_some, n_nx, n_ct, n_bk, n_ret, e_for, e_itE, e_itA, e_meth, ty_s, e_run1, e_run2, e_run3, e_run4, s_d1, s_d2, s_od, s_oo, s_o1, s_odd, s_t1, s_td, ic_d, ic_o, ic_t, ic_nil, e_argD, e_argDD, List.replicate, Nat.reduceSub, List.length_cons, List.length_nil, bind_ok, bind_exc, bind_bad, e_seq, th_nx, th_ret, th_exc, th_bk, th_ct, e_set, e_setK, e_ret, e_retK, e_drop, e_dropK, e_retN, e_next, e_brk, e_cnt, e_if, e_ifE, e_and, e_or, e_not, onB_t, onB_f, onB_b, e_var, e_varK, e_c, e_bin, e_un, e_call, e_nil, e_cons, e_tup, e_tupK, e_lst, e_lstK, e_newLst, toDs_nil, toDs_d, Option.map_some, e_callV, e_callVT, ar_nil, ar_cons, ar_d, ar_t, e_argKT, af_d, af_new, af_exc, up_nil, up_cons, end_ret, end_exc, end_nx, out_d, v_add, v_sub, v_neg, v_lt, v_le, v_gt, v_ge, v_eqI, v_neI, v_gcd, v_abs, v_max, v_int, v_lenT, v_lenL, List.getElem?_cons_zero, List.getElem?_cons_succ, List.set_cons_zero, List.set_cons_succ, List.take_zero, List.take_nil, Bool.false_eq_true, if_false, if_true, eq_self, decide_true, decide_false, Bool.not_true, Bool.not_false, Nat.reduceAdd, Nat.reduceLeDiff, Nat.reduceLT, List.nil_append, List.cons_append, i_non_int, i_non_bool, i_non_str, i_non_tuple, i_non_list, i_bl_int, i_bl_bool, i_bl_str, i_bl_tuple, i_bl_list, n_is_bl, n_no_bl, i_int_int, i_int_bool, i_int_str, i_int_tuple, i_int_list, n_is_int, n_no_int, i_str_int, i_str_bool, i_str_str, i_str_tuple, i_str_list, n_is_str, n_no_str, i_tup_int, i_tup_bool, i_tup_str, i_tup_tuple, i_tup_list, n_is_tup, n_no_tup, i_lst_int, i_lst_bool, i_lst_str, i_lst_tuple, i_lst_list, n_is_lst, n_no_lst, n_is_non, n_no_non, s_d3, s_d4, e_argD3, e_chain, v_toB, v_ix0, v_ix1, v_ix2, e_raise, e_raiseK, k_WORLD_PARTS, e3]
      all_goals rfl
  | non => rfl
  | bl b => rfl
  | int b => rfl
  | str b => rfl
  | lst b => rfl
  | klst b => have := h.1; simp [Pl] at this
  | obj b => have := h.1; simp [Pl] at this
  | ty b => have := h.1; simp [Pl] at this
/-- one part of a world, looked at -/
def wBody : S → OS := (seqS (ifS (notE (callE isiV [(bin2 ixV (varE 0) (varE 4)), (cE (.ty "tuple"))])) (raiseS "BadWorld" (varE 4)) nextS)
  (seqS (ifS (bin2 gtV (callE lenV [(bin2 ixV (varE 0) (varE 4))]) (varE 5)) (raiseS "TooMany" (callE lenV [(bin2 ixV (varE 0) (varE 4))])) nextS)
  (seqS (setS 7 (callOE [(11, d_first_odd_sum), (13, d_first_odd_tie)] 6 [(varE 1), (bin2 ixV (varE 0) (varE 4))]))
  (ifS (bin2 (isNV true) (varE 7) (cE .non)) (raiseS "BadWorld" (tupE [(varE 4), (varE 7)])) nextS))))
def partF (i : Int) (m : Nat) (p : D → Bool) : D → Option D
  | .tup ys => if m < ys.length then some (.tup [.str "TooMany", .int ys.length]) else match fo p 0 ys with
    | some k => some (.tup [.str "BadWorld", .tup [.int i, .int (k : Nat)]])
    | none => none
  | _ => some (.tup [.str "BadWorld", .int i])
theorem wbody_ok {x y : D} {n i : Int} {m o : Nat} {d : List Ar → RD} {p : D → Bool} {s2 s3 s7 : Option Val} (hy : Small y) (hix : ∀ st, ixV (.d x) (.d (.int i)) st = .ok (.d y) st) (hl : List.lookup o [(11, d_first_odd_sum), (13, d_first_odd_tie)] = some d) (hd : ∀ ys, y = .tup ys → d [.d (.int n), .d (.tup ys)] = .ok (.d (oD (fo p 0 ys))) []) :
    (∃ nm z st, partF i m p y = some (.tup [.str nm, z]) ∧ st.c = [] ∧ wBody ⟨[some (.d x), some (.d (.int n)), s2, s3, some (.d (.int i)), some (.d (.int m)), some (.d (.obj o)), s7], []⟩ = .exc nm z st) ∨
      (partF i m p y = none ∧ wBody ⟨[some (.d x), some (.d (.int n)), s2, s3, some (.d (.int i)), some (.d (.int m)), some (.d (.obj o)), s7], []⟩ = .ok .nx ⟨[some (.d x), some (.d (.int n)), s2, s3, some (.d (.int i)), some (.d (.int m)), some (.d (.obj o)), some (.d .non)], []⟩) := by
  have nt : (∀ st, isiV [.d y, .d (.ty "tuple")] st = .ok (.d (.bl false)) st) → partF i m p y = some (.tup [.str "BadWorld", .int i]) → ∃ nm z st, partF i m p y = some (.tup [.str nm, z]) ∧ st.c = [] ∧ wBody ⟨[some (.d x), some (.d (.int n)), s2, s3, some (.d (.int i)), some (.d (.int m)), some (.d (.obj o)), s7], []⟩ = .exc nm z st := fun h1 h2 => by
    refine ⟨_, _, ⟨[some (.d x), some (.d (.int n)), s2, s3, some (.d (.int i)), some (.d (.int m)), some (.d (.obj o)), s7], []⟩, h2, rfl, ?_⟩
    unfold wBody
    simp only [e_par, e_parK, e_asg, toD_d, e_nameT, e_consT, e_nilT, Option.bind_some, n_nx, n_ct, n_bk, n_ret, e_for, e_itE, e_itA, e_meth, ty_s, e_run1, e_run2, e_run3, e_run4, s_d1, s_d2, s_od, s_oo, s_o1, s_odd, s_t1, s_td, ic_d, ic_o, ic_t, ic_nil, e_argD, e_argDD, List.replicate, Nat.reduceSub, List.length_cons, List.length_nil, bind_ok, bind_exc, bind_bad, e_seq, th_nx, th_ret, th_exc, th_bk, th_ct, e_set, e_setK, e_ret, e_retK, e_drop, e_dropK, e_retN, e_next, e_brk, e_cnt, e_if, e_ifE, e_and, e_or, e_not, onB_t, onB_f, onB_b, e_var, e_varK, e_c, e_bin, e_un, e_call, e_nil, e_cons, e_tup, e_tupK, e_lst, e_lstK, e_newLst, toDs_nil, toDs_d, Option.map_some, e_callV, e_callVT, ar_nil, ar_cons, ar_d, ar_t, e_argKT, af_d, af_new, af_exc, up_nil, up_cons, end_ret, end_exc, end_nx, out_d, v_add, v_sub, v_neg, v_lt, v_le, v_gt, v_ge, v_eqI, v_neI, v_gcd, v_abs, v_max, v_int, v_lenT, v_lenL, List.getElem?_cons_zero, List.getElem?_cons_succ, List.set_cons_zero, List.set_cons_succ, List.take_zero, List.take_nil, Bool.false_eq_true, if_false, if_true, eq_self, decide_true, decide_false, Bool.not_true, Bool.not_false, Nat.reduceAdd, Nat.reduceLeDiff, Nat.reduceLT, List.nil_append, List.cons_append, i_non_int, i_non_bool, i_non_str, i_non_tuple, i_non_list, i_bl_int, i_bl_bool, i_bl_str, i_bl_tuple, i_bl_list, n_is_bl, n_no_bl, i_int_int, i_int_bool, i_int_str, i_int_tuple, i_int_list, n_is_int, n_no_int, i_str_int, i_str_bool, i_str_str, i_str_tuple, i_str_list, n_is_str, n_no_str, i_tup_int, i_tup_bool, i_tup_str, i_tup_tuple, i_tup_list, n_is_tup, n_no_tup, i_lst_int, i_lst_bool, i_lst_str, i_lst_tuple, i_lst_list, n_is_lst, n_no_lst, n_is_non, n_no_non, s_d3, s_d4, e_argD3, e_chain, v_toB, v_ix0, v_ix1, v_ix2, e_raise, e_raiseK, hix, h1, th_exc]
  cases y with
  | tup ys =>
    have i1 : ifS (notE (callE isiV [(bin2 ixV (varE 0) (varE 4)), (cE (.ty "tuple"))])) (raiseS "BadWorld" (varE 4)) nextS ⟨[some (.d x), some (.d (.int n)), s2, s3, some (.d (.int i)), some (.d (.int m)), some (.d (.obj o)), s7], []⟩ = .ok .nx ⟨[some (.d x), some (.d (.int n)), s2, s3, some (.d (.int i)), some (.d (.int m)), some (.d (.obj o)), s7], []⟩ := by
      simp only [e_par, e_parK, e_asg, toD_d, e_nameT, e_consT, e_nilT, Option.bind_some, n_nx, n_ct, n_bk, n_ret, e_for, e_itE, e_itA, e_meth, ty_s, e_run1, e_run2, e_run3, e_run4, s_d1, s_d2, s_od, s_oo, s_o1, s_odd, s_t1, s_td, ic_d, ic_o, ic_t, ic_nil, e_argD, e_argDD, List.replicate, Nat.reduceSub, List.length_cons, List.length_nil, bind_ok, bind_exc, bind_bad, e_seq, th_nx, th_ret, th_exc, th_bk, th_ct, e_set, e_setK, e_ret, e_retK, e_drop, e_dropK, e_retN, e_next, e_brk, e_cnt, e_if, e_ifE, e_and, e_or, e_not, onB_t, onB_f, onB_b, e_var, e_varK, e_c, e_bin, e_un, e_call, e_nil, e_cons, e_tup, e_tupK, e_lst, e_lstK, e_newLst, toDs_nil, toDs_d, Option.map_some, e_callV, e_callVT, ar_nil, ar_cons, ar_d, ar_t, e_argKT, af_d, af_new, af_exc, up_nil, up_cons, end_ret, end_exc, end_nx, out_d, v_add, v_sub, v_neg, v_lt, v_le, v_gt, v_ge, v_eqI, v_neI, v_gcd, v_abs, v_max, v_int, v_lenT, v_lenL, List.getElem?_cons_zero, List.getElem?_cons_succ, List.set_cons_zero, List.set_cons_succ, List.take_zero, List.take_nil, Bool.false_eq_true, if_false, if_true, eq_self, decide_true, decide_false, Bool.not_true, Bool.not_false, Nat.reduceAdd, Nat.reduceLeDiff, Nat.reduceLT, List.nil_append, List.cons_append, i_non_int, i_non_bool, i_non_str, i_non_tuple, i_non_list, i_bl_int, i_bl_bool, i_bl_str, i_bl_tuple, i_bl_list, n_is_bl, n_no_bl, i_int_int, i_int_bool, i_int_str, i_int_tuple, i_int_list, n_is_int, n_no_int, i_str_int, i_str_bool, i_str_str, i_str_tuple, i_str_list, n_is_str, n_no_str, i_tup_int, i_tup_bool, i_tup_str, i_tup_tuple, i_tup_list, n_is_tup, n_no_tup, i_lst_int, i_lst_bool, i_lst_str, i_lst_tuple, i_lst_list, n_is_lst, n_no_lst, n_is_non, n_no_non, s_d3, s_d4, e_argD3, e_chain, v_toB, v_ix0, v_ix1, v_ix2, e_raise, e_raiseK, hix]
    unfold wBody
    rw [seq_nx i1]
    by_cases h12 : m < ys.length
    · have e : decide ((m : Int) < (ys.length : Int)) = true := decide_eq_true (by omega)
      refine .inl ⟨"TooMany", .int ys.length, ⟨[some (.d x), some (.d (.int n)), s2, s3, some (.d (.int i)), some (.d (.int m)), some (.d (.obj o)), s7], []⟩, by simp only [partF, h12, if_true], rfl, ?_⟩
      simp only [e_par, e_parK, e_asg, toD_d, e_nameT, e_consT, e_nilT, Option.bind_some, n_nx, n_ct, n_bk, n_ret, e_for, e_itE, e_itA, e_meth, ty_s, e_run1, e_run2, e_run3, e_run4, s_d1, s_d2, s_od, s_oo, s_o1, s_odd, s_t1, s_td, ic_d, ic_o, ic_t, ic_nil, e_argD, e_argDD, List.replicate, Nat.reduceSub, List.length_cons, List.length_nil, bind_ok, bind_exc, bind_bad, e_seq, th_nx, th_ret, th_exc, th_bk, th_ct, e_set, e_setK, e_ret, e_retK, e_drop, e_dropK, e_retN, e_next, e_brk, e_cnt, e_if, e_ifE, e_and, e_or, e_not, onB_t, onB_f, onB_b, e_var, e_varK, e_c, e_bin, e_un, e_call, e_nil, e_cons, e_tup, e_tupK, e_lst, e_lstK, e_newLst, toDs_nil, toDs_d, Option.map_some, e_callV, e_callVT, ar_nil, ar_cons, ar_d, ar_t, e_argKT, af_d, af_new, af_exc, up_nil, up_cons, end_ret, end_exc, end_nx, out_d, v_add, v_sub, v_neg, v_lt, v_le, v_gt, v_ge, v_eqI, v_neI, v_gcd, v_abs, v_max, v_int, v_lenT, v_lenL, List.getElem?_cons_zero, List.getElem?_cons_succ, List.set_cons_zero, List.set_cons_succ, List.take_zero, List.take_nil, Bool.false_eq_true, if_false, if_true, eq_self, decide_true, decide_false, Bool.not_true, Bool.not_false, Nat.reduceAdd, Nat.reduceLeDiff, Nat.reduceLT, List.nil_append, List.cons_append, i_non_int, i_non_bool, i_non_str, i_non_tuple, i_non_list, i_bl_int, i_bl_bool, i_bl_str, i_bl_tuple, i_bl_list, n_is_bl, n_no_bl, i_int_int, i_int_bool, i_int_str, i_int_tuple, i_int_list, n_is_int, n_no_int, i_str_int, i_str_bool, i_str_str, i_str_tuple, i_str_list, n_is_str, n_no_str, i_tup_int, i_tup_bool, i_tup_str, i_tup_tuple, i_tup_list, n_is_tup, n_no_tup, i_lst_int, i_lst_bool, i_lst_str, i_lst_tuple, i_lst_list, n_is_lst, n_no_lst, n_is_non, n_no_non, s_d3, s_d4, e_argD3, e_chain, v_toB, v_ix0, v_ix1, v_ix2, e_raise, e_raiseK, hix, e, th_exc]
    · have e : decide ((m : Int) < (ys.length : Int)) = false := decide_eq_false (by omega)
      have i2 : ifS (bin2 gtV (callE lenV [(bin2 ixV (varE 0) (varE 4))]) (varE 5)) (raiseS "TooMany" (callE lenV [(bin2 ixV (varE 0) (varE 4))])) nextS ⟨[some (.d x), some (.d (.int n)), s2, s3, some (.d (.int i)), some (.d (.int m)), some (.d (.obj o)), s7], []⟩ = .ok .nx ⟨[some (.d x), some (.d (.int n)), s2, s3, some (.d (.int i)), some (.d (.int m)), some (.d (.obj o)), s7], []⟩ := by
        simp only [e_par, e_parK, e_asg, toD_d, e_nameT, e_consT, e_nilT, Option.bind_some, n_nx, n_ct, n_bk, n_ret, e_for, e_itE, e_itA, e_meth, ty_s, e_run1, e_run2, e_run3, e_run4, s_d1, s_d2, s_od, s_oo, s_o1, s_odd, s_t1, s_td, ic_d, ic_o, ic_t, ic_nil, e_argD, e_argDD, List.replicate, Nat.reduceSub, List.length_cons, List.length_nil, bind_ok, bind_exc, bind_bad, e_seq, th_nx, th_ret, th_exc, th_bk, th_ct, e_set, e_setK, e_ret, e_retK, e_drop, e_dropK, e_retN, e_next, e_brk, e_cnt, e_if, e_ifE, e_and, e_or, e_not, onB_t, onB_f, onB_b, e_var, e_varK, e_c, e_bin, e_un, e_call, e_nil, e_cons, e_tup, e_tupK, e_lst, e_lstK, e_newLst, toDs_nil, toDs_d, Option.map_some, e_callV, e_callVT, ar_nil, ar_cons, ar_d, ar_t, e_argKT, af_d, af_new, af_exc, up_nil, up_cons, end_ret, end_exc, end_nx, out_d, v_add, v_sub, v_neg, v_lt, v_le, v_gt, v_ge, v_eqI, v_neI, v_gcd, v_abs, v_max, v_int, v_lenT, v_lenL, List.getElem?_cons_zero, List.getElem?_cons_succ, List.set_cons_zero, List.set_cons_succ, List.take_zero, List.take_nil, Bool.false_eq_true, if_false, if_true, eq_self, decide_true, decide_false, Bool.not_true, Bool.not_false, Nat.reduceAdd, Nat.reduceLeDiff, Nat.reduceLT, List.nil_append, List.cons_append, i_non_int, i_non_bool, i_non_str, i_non_tuple, i_non_list, i_bl_int, i_bl_bool, i_bl_str, i_bl_tuple, i_bl_list, n_is_bl, n_no_bl, i_int_int, i_int_bool, i_int_str, i_int_tuple, i_int_list, n_is_int, n_no_int, i_str_int, i_str_bool, i_str_str, i_str_tuple, i_str_list, n_is_str, n_no_str, i_tup_int, i_tup_bool, i_tup_str, i_tup_tuple, i_tup_list, n_is_tup, n_no_tup, i_lst_int, i_lst_bool, i_lst_str, i_lst_tuple, i_lst_list, n_is_lst, n_no_lst, n_is_non, n_no_non, s_d3, s_d4, e_argD3, e_chain, v_toB, v_ix0, v_ix1, v_ix2, e_raise, e_raiseK, hix, e]
      have i3 : setS 7 (callOE [(11, d_first_odd_sum), (13, d_first_odd_tie)] 6 [(varE 1), (bin2 ixV (varE 0) (varE 4))]) ⟨[some (.d x), some (.d (.int n)), s2, s3, some (.d (.int i)), some (.d (.int m)), some (.d (.obj o)), s7], []⟩ = .ok .nx ⟨[some (.d x), some (.d (.int n)), s2, s3, some (.d (.int i)), some (.d (.int m)), some (.d (.obj o)), some (.d (oD (fo p 0 ys)))], []⟩ := by
        rw [e_set, e_callO rfl hl]
        simp only [e_par, e_parK, e_asg, toD_d, e_nameT, e_consT, e_nilT, Option.bind_some, n_nx, n_ct, n_bk, n_ret, e_for, e_itE, e_itA, e_meth, ty_s, e_run1, e_run2, e_run3, e_run4, s_d1, s_d2, s_od, s_oo, s_o1, s_odd, s_t1, s_td, ic_d, ic_o, ic_t, ic_nil, e_argD, e_argDD, List.replicate, Nat.reduceSub, List.length_cons, List.length_nil, bind_ok, bind_exc, bind_bad, e_seq, th_nx, th_ret, th_exc, th_bk, th_ct, e_set, e_setK, e_ret, e_retK, e_drop, e_dropK, e_retN, e_next, e_brk, e_cnt, e_if, e_ifE, e_and, e_or, e_not, onB_t, onB_f, onB_b, e_var, e_varK, e_c, e_bin, e_un, e_call, e_nil, e_cons, e_tup, e_tupK, e_lst, e_lstK, e_newLst, toDs_nil, toDs_d, Option.map_some, e_callV, e_callVT, ar_nil, ar_cons, ar_d, ar_t, e_argKT, af_d, af_new, af_exc, up_nil, up_cons, end_ret, end_exc, end_nx, out_d, v_add, v_sub, v_neg, v_lt, v_le, v_gt, v_ge, v_eqI, v_neI, v_gcd, v_abs, v_max, v_int, v_lenT, v_lenL, List.getElem?_cons_zero, List.getElem?_cons_succ, List.set_cons_zero, List.set_cons_succ, List.take_zero, List.take_nil, Bool.false_eq_true, if_false, if_true, eq_self, decide_true, decide_false, Bool.not_true, Bool.not_false, Nat.reduceAdd, Nat.reduceLeDiff, Nat.reduceLT, List.nil_append, List.cons_append, i_non_int, i_non_bool, i_non_str, i_non_tuple, i_non_list, i_bl_int, i_bl_bool, i_bl_str, i_bl_tuple, i_bl_list, n_is_bl, n_no_bl, i_int_int, i_int_bool, i_int_str, i_int_tuple, i_int_list, n_is_int, n_no_int, i_str_int, i_str_bool, i_str_str, i_str_tuple, i_str_list, n_is_str, n_no_str, i_tup_int, i_tup_bool, i_tup_str, i_tup_tuple, i_tup_list, n_is_tup, n_no_tup, i_lst_int, i_lst_bool, i_lst_str, i_lst_tuple, i_lst_list, n_is_lst, n_no_lst, n_is_non, n_no_non, s_d3, s_d4, e_argD3, e_chain, v_toB, v_ix0, v_ix1, v_ix2, e_raise, e_raiseK, hix, hd ys rfl]
      rw [seq_nx i2, seq_nx i3]
      cases ft : fo p 0 ys with
      | none =>
        refine .inr ⟨by simp only [partF, h12, if_false, ft], ?_⟩
        rfl
      | some k =>
        refine .inl ⟨"BadWorld", .tup [.int i, .int (k : Nat)], _, by simp only [partF, h12, if_false, ft], ?_, rfl⟩
        rfl
  | non => exact .inl (nt (fun _ => rfl) rfl)
  | bl b => exact .inl (nt (fun _ => rfl) rfl)
  | int b => exact .inl (nt (fun _ => rfl) rfl)
  | str b => exact .inl (nt (fun _ => rfl) rfl)
  | lst b => exact .inl (nt (fun _ => rfl) rfl)
  | klst b => have := hy.1; simp [Pl] at this
  | obj b => have := hy.1; simp [Pl] at this
  | ty b => have := hy.1; simp [Pl] at this
theorem tiesW_part {n : Int} {c : D} : tiesW (tiesF n c) = (partF 2 12 (tieB n) c).getD .non := by
  cases c with
  | tup ys =>
    unfold tiesF partF
    by_cases h : 12 < ys.length
    · simp only [h, if_true]; rfl
    · simp only [h, if_false]
      cases fo (tieB n) 0 ys with
      | none => rfl
      | some k =>
        have e : (((k : Nat) : Int) == -1) = false := beq_eq_false_iff_ne.mpr (by omega)
        simp only [oD, tiesW, eqD, e, Bool.false_eq_true, if_false, Option.getD]
  | _ => rfl
theorem rowsF_part {n : Int} {b c : D} : rowsF n c b = (partF 1 40 (sumB n) b).getD ((partF 2 12 (tieB n) c).getD .non) := by
  cases b with
  | tup ys =>
    unfold rowsF partF
    by_cases h : 40 < ys.length
    · simp only [h, if_true]; rfl
    · simp only [h, if_false]
      cases fo (sumB n) 0 ys with
      | none => exact tiesW_part
      | some k => rfl
  | _ => rfl
theorem madeworld_ok {x : D} (h : Small x) : d_made_world [.d x] = outW x (worldF x) := by
  cases x with
  | tup xs =>
    by_cases hn : xs.length = 3
    · match xs, hn with
      | [a, b, c], _ =>
        have ha := h.mem a (by simp)
        have hb := h.mem b (by simp)
        have hc := h.mem c (by simp)
        rw [d_made_world, e_run1, s_d1]
        simp only [List.replicate, Nat.reduceSub]
        unfold m_made_world
        have i1 : ifS (orE (notE (callE isiV [(varE 0), (cE (.ty "tuple"))])) (bin2 (eqV true) (callE lenV [(varE 0)]) k_WORLD_PARTS)) (raiseS "BadWorld" (un1 negV (cE (.int 1)))) nextS ⟨[some (.d (.tup [a, b, c])), none, none, none, none, none, none, none], []⟩ = .ok .nx ⟨[some (.d (.tup [a, b, c])), none, none, none, none, none, none, none], []⟩ := rfl
        have i2 : asgS (tupT 3 (consT (nameT 1) (consT (nameT 2) (consT (nameT 3) nilT)))) (varE 0) ⟨[some (.d (.tup [a, b, c])), none, none, none, none, none, none, none], []⟩ = .ok .nx ⟨[some (.d (.tup [a, b, c])), some (.d a), some (.d b), some (.d c), none, none, none, none], []⟩ := rfl
        rw [seq_nx i1, seq_nx i2]
        have q := dwhole_ok (x := a) (lo := 1) (hi := 40) (Pl.P ha.1)
        cases e1 : inB 1 40 a with
        | false =>
          have : worldF (.tup [a, b, c]) = .tup [.str "BadWorld", .int 0] := by
            unfold worldF headF
            cases a with
            | int n => simp only [e1]; rfl
            | _ => rfl
          rw [this]
          simp only [e_par, e_parK, e_asg, toD_d, e_nameT, e_consT, e_nilT, Option.bind_some, n_nx, n_ct, n_bk, n_ret, e_for, e_itE, e_itA, e_meth, ty_s, e_run1, e_run2, e_run3, e_run4, s_d1, s_d2, s_od, s_oo, s_o1, s_odd, s_t1, s_td, ic_d, ic_o, ic_t, ic_nil, e_argD, e_argDD, List.replicate, Nat.reduceSub, List.length_cons, List.length_nil, bind_ok, bind_exc, bind_bad, e_seq, th_nx, th_ret, th_exc, th_bk, th_ct, e_set, e_setK, e_ret, e_retK, e_drop, e_dropK, e_retN, e_next, e_brk, e_cnt, e_if, e_ifE, e_and, e_or, e_not, onB_t, onB_f, onB_b, e_var, e_varK, e_c, e_bin, e_un, e_call, e_nil, e_cons, e_tup, e_tupK, e_lst, e_lstK, e_newLst, toDs_nil, toDs_d, Option.map_some, e_callV, e_callVT, ar_nil, ar_cons, ar_d, ar_t, e_argKT, af_d, af_new, af_exc, up_nil, up_cons, end_ret, end_exc, end_nx, out_d, v_add, v_sub, v_neg, v_lt, v_le, v_gt, v_ge, v_eqI, v_neI, v_gcd, v_abs, v_max, v_int, v_lenT, v_lenL, List.getElem?_cons_zero, List.getElem?_cons_succ, List.set_cons_zero, List.set_cons_succ, List.take_zero, List.take_nil, Bool.false_eq_true, if_false, if_true, eq_self, decide_true, decide_false, Bool.not_true, Bool.not_false, Nat.reduceAdd, Nat.reduceLeDiff, Nat.reduceLT, List.nil_append, List.cons_append, i_non_int, i_non_bool, i_non_str, i_non_tuple, i_non_list, i_bl_int, i_bl_bool, i_bl_str, i_bl_tuple, i_bl_list, n_is_bl, n_no_bl, i_int_int, i_int_bool, i_int_str, i_int_tuple, i_int_list, n_is_int, n_no_int, i_str_int, i_str_bool, i_str_str, i_str_tuple, i_str_list, n_is_str, n_no_str, i_tup_int, i_tup_bool, i_tup_str, i_tup_tuple, i_tup_list, n_is_tup, n_no_tup, i_lst_int, i_lst_bool, i_lst_str, i_lst_tuple, i_lst_list, n_is_lst, n_no_lst, n_is_non, n_no_non, s_d3, s_d4, e_argD3, e_chain, v_toB, v_ix0, v_ix1, v_ix2, e_raise, e_raiseK, k_MOST_QUANTITIES, q, e1, th_exc]
          all_goals rfl
        | true =>
          cases a with
          | int n =>
            have n1 : 1 ≤ n ∧ n ≤ 40 := by
              unfold inB at e1
              rw [Bool.and_eq_true, decide_eq_true_eq, decide_eq_true_eq] at e1; exact e1
            have ew : worldF (.tup [.int n, b, c]) = rowsF n c b := by
              unfold worldF headF
              simp only [e1, if_true]
            have i3 : ifS (notE (callE (callV d_whole) [(varE 1), (cE (.int 1)), k_MOST_QUANTITIES])) (raiseS "BadWorld" (cE (.int 0))) nextS ⟨[some (.d (.tup [.int n, b, c])), some (.d (.int n)), some (.d b), some (.d c), none, none, none, none], []⟩ = .ok .nx ⟨[some (.d (.tup [.int n, b, c])), some (.d (.int n)), some (.d b), some (.d c), none, none, none, none], []⟩ := by
              simp only [e_par, e_parK, e_asg, toD_d, e_nameT, e_consT, e_nilT, Option.bind_some, n_nx, n_ct, n_bk, n_ret, e_for, e_itE, e_itA, e_meth, ty_s, e_run1, e_run2, e_run3, e_run4, s_d1, s_d2, s_od, s_oo, s_o1, s_odd, s_t1, s_td, ic_d, ic_o, ic_t, ic_nil, e_argD, e_argDD, List.replicate, Nat.reduceSub, List.length_cons, List.length_nil, bind_ok, bind_exc, bind_bad, e_seq, th_nx, th_ret, th_exc, th_bk, th_ct, e_set, e_setK, e_ret, e_retK, e_drop, e_dropK, e_retN, e_next, e_brk, e_cnt, e_if, e_ifE, e_and, e_or, e_not, onB_t, onB_f, onB_b, e_var, e_varK, e_c, e_bin, e_un, e_call, e_nil, e_cons, e_tup, e_tupK, e_lst, e_lstK, e_newLst, toDs_nil, toDs_d, Option.map_some, e_callV, e_callVT, ar_nil, ar_cons, ar_d, ar_t, e_argKT, af_d, af_new, af_exc, up_nil, up_cons, end_ret, end_exc, end_nx, out_d, v_add, v_sub, v_neg, v_lt, v_le, v_gt, v_ge, v_eqI, v_neI, v_gcd, v_abs, v_max, v_int, v_lenT, v_lenL, List.getElem?_cons_zero, List.getElem?_cons_succ, List.set_cons_zero, List.set_cons_succ, List.take_zero, List.take_nil, Bool.false_eq_true, if_false, if_true, eq_self, decide_true, decide_false, Bool.not_true, Bool.not_false, Nat.reduceAdd, Nat.reduceLeDiff, Nat.reduceLT, List.nil_append, List.cons_append, i_non_int, i_non_bool, i_non_str, i_non_tuple, i_non_list, i_bl_int, i_bl_bool, i_bl_str, i_bl_tuple, i_bl_list, n_is_bl, n_no_bl, i_int_int, i_int_bool, i_int_str, i_int_tuple, i_int_list, n_is_int, n_no_int, i_str_int, i_str_bool, i_str_str, i_str_tuple, i_str_list, n_is_str, n_no_str, i_tup_int, i_tup_bool, i_tup_str, i_tup_tuple, i_tup_list, n_is_tup, n_no_tup, i_lst_int, i_lst_bool, i_lst_str, i_lst_tuple, i_lst_list, n_is_lst, n_no_lst, n_is_non, n_no_non, s_d3, s_d4, e_argD3, e_chain, v_toB, v_ix0, v_ix1, v_ix2, e_raise, e_raiseK, k_MOST_QUANTITIES, q, e1]
            rw [seq_nx i3, ew, rowsF_part]
            have i4 : forS (itE (tupE [(tupE [(cE (.int 1)), k_MOST_EQUATIONS, (cE (.obj 11))]), (tupE [(cE (.int 2)), k_MOST_TIES, (cE (.obj 13))])])) (tupT 3 (consT (nameT 4) (consT (nameT 5) (consT (nameT 6) nilT)))) wBody ⟨[some (.d (.tup [.int n, b, c])), some (.d (.int n)), some (.d b), some (.d c), none, none, none, none], []⟩ =
                forL (tupT 3 (consT (nameT 4) (consT (nameT 5) (consT (nameT 6) nilT)))) wBody none [.tup [.int 1, .int 40, .obj 11], .tup [.int 2, .int 12, .obj 13]] [.tup [.int 1, .int 40, .obj 11], .tup [.int 2, .int 12, .obj 13]] ⟨[some (.d (.tup [.int n, b, c])), some (.d (.int n)), some (.d b), some (.d c), none, none, none, none], []⟩ := rfl
            have w1 := wbody_ok (x := .tup [.int n, b, c]) (n := n) (i := 1) (m := 40) (o := 11) (p := sumB n) (s2 := some (.d b)) (s3 := some (.d c)) (s7 := none) hb (fun st => v_ix1) rfl (fun ys e => firstsum_ok (by subst e; exact hb.mem))
            have w2 := wbody_ok (x := .tup [.int n, b, c]) (n := n) (i := 2) (m := 12) (o := 13) (p := tieB n) (s2 := some (.d b)) (s3 := some (.d c)) (s7 := some (.d .non)) hc (fun st => v_ix2) rfl (fun ys e => firsttie_ok n1.1 (by omega) (by subst e; exact hc.mem))
            change endD _ (seqS (forS _ _ wBody) _ _) = _
            rw [e_seq, i4, f_cons gd_none (st1 := ⟨[some (.d (.tup [.int n, b, c])), some (.d (.int n)), some (.d b), some (.d c), some (.d (.int 1)), some (.d (.int (40 : Nat))), some (.d (.obj 11)), none], []⟩) rfl]
            rcases w1 with ⟨nm, z, st, e2, e3, e4⟩ | ⟨e2, e4⟩
            · rw [e4, e2]
              show RD.exc nm z (st.c.take 0) = _
              rw [e3]; rfl
            · rw [e4, e2, n_nx, f_cons gd_none (st1 := ⟨[some (.d (.tup [.int n, b, c])), some (.d (.int n)), some (.d b), some (.d c), some (.d (.int 2)), some (.d (.int (12 : Nat))), some (.d (.obj 13)), some (.d .non)], []⟩) rfl]
              rcases w2 with ⟨nm, z, st, e5, e6, e7⟩ | ⟨e5, e7⟩
              · rw [e7, e5]
                show RD.exc nm z (st.c.take 0) = _
                rw [e6]; rfl
              · rw [e7, e5, n_nx]
                rfl
          | _ => cases e1
    · have e3 : ((xs.length : Int) == 3) = false := by rw [beq_eq_false_iff_ne]; omega
      have et : worldF (.tup xs) = .tup [.str "BadWorld", .int (-1)] := by
        unfold worldF
        split
        · rename_i h; cases h; exact absurd rfl hn
        · rfl
      rw [d_made_world, et]
      unfold m_made_world
      simp only [e_par, e_parK, e_asg, toD_d, e_nameT, e_consT, e_nilT, Option.bind_some, n_nx, n_ct, n_bk, n_ret, e_for, e_itE, e_itA, e_meth, ty_s, e_run1, e_run2, e_run3, e_run4, s_d1, s_d2, s_od, s_oo, s_o1, s_odd, s_t1, s_td, ic_d, ic_o, ic_t, ic_nil, e_argD, e_argDD, List.replicate, Nat.reduceSub, List.length_cons, List.length_nil, bind_ok, bind_exc, bind_bad, e_seq, th_nx, th_ret, th_exc, th_bk, th_ct, e_set, e_setK, e_ret, e_retK, e_drop, e_dropK, e_retN, e_next, e_brk, e_cnt, e_if, e_ifE, e_and, e_or, e_not, onB_t, onB_f, onB_b, e_var, e_varK, e_c, e_bin, e_un, e_call, e_nil, e_cons, e_tup, e_tupK, e_lst, e_lstK, e_newLst, toDs_nil, toDs_d, Option.map_some, e_callV, e_callVT, ar_nil, ar_cons, ar_d, ar_t, e_argKT, af_d, af_new, af_exc, up_nil, up_cons, end_ret, end_exc, end_nx, out_d, v_add, v_sub, v_neg, v_lt, v_le, v_gt, v_ge, v_eqI, v_neI, v_gcd, v_abs, v_max, v_int, v_lenT, v_lenL, List.getElem?_cons_zero, List.getElem?_cons_succ, List.set_cons_zero, List.set_cons_succ, List.take_zero, List.take_nil, Bool.false_eq_true, if_false, if_true, eq_self, decide_true, decide_false, Bool.not_true, Bool.not_false, Nat.reduceAdd, Nat.reduceLeDiff, Nat.reduceLT, List.nil_append, List.cons_append, i_non_int, i_non_bool, i_non_str, i_non_tuple, i_non_list, i_bl_int, i_bl_bool, i_bl_str, i_bl_tuple, i_bl_list, n_is_bl, n_no_bl, i_int_int, i_int_bool, i_int_str, i_int_tuple, i_int_list, n_is_int, n_no_int, i_str_int, i_str_bool, i_str_str, i_str_tuple, i_str_list, n_is_str, n_no_str, i_tup_int, i_tup_bool, i_tup_str, i_tup_tuple, i_tup_list, n_is_tup, n_no_tup, i_lst_int, i_lst_bool, i_lst_str, i_lst_tuple, i_lst_list, n_is_lst, n_no_lst, n_is_non, n_no_non, s_d3, s_d4, e_argD3, e_chain, v_toB, v_ix0, v_ix1, v_ix2, e_raise, e_raiseK, k_WORLD_PARTS, e3, th_exc]
      all_goals rfl
  | non => rfl
  | bl b => rfl
  | int b => rfl
  | str b => rfl
  | lst b => rfl
  | klst b => have := h.1; simp [Pl] at this
  | obj b => have := h.1; simp [Pl] at this
  | ty b => have := h.1; simp [Pl] at this
end Law
end
section
set_option Elab.async false
set_option linter.all false
set_option maxRecDepth 100000
set_option maxHeartbeats 4000000
namespace Law
open PySem Sh
def outT (n : Int) (x : D) : RD := match tiesF n x with
  | .tup [.str nm, y] => .exc nm y []
  | .int i => .exc "BadTies" (.int i) []
  | _ => .ok (.d x) []
theorem many_ok {x : D} {lo hi : Int} (h : isP x = true) : d_many [.d x, .d (.int lo), .d (.int hi)] = if inB lo hi x then .ok (.d x) [] else .exc "BadMany" x [] := by
  have q := dwhole_ok (lo := lo) (hi := hi) h
  rw [d_many, e_run3, s_d3]
  simp only [List.replicate, Nat.reduceSub]
  unfold m_many
  simp only [e_par, e_parK, e_asg, toD_d, e_nameT, e_consT, e_nilT, Option.bind_some, n_nx, n_ct, n_bk, n_ret, e_for, e_itE, e_itA, e_meth, ty_s, e_run1, e_run2, e_run3, e_run4, s_d1, s_d2, s_od, s_oo, s_o1, s_odd, s_t1, s_td, ic_d, ic_o, ic_t, ic_nil, e_argD, e_argDD, List.replicate, Nat.reduceSub, List.length_cons, List.length_nil, bind_ok, bind_exc, bind_bad, e_seq, th_nx, th_ret, th_exc, th_bk, th_ct, e_set, e_setK, e_ret, e_retK, e_drop, e_dropK, e_retN, e_next, e_brk, e_cnt, e_if, e_ifE, e_and, e_or, e_not, onB_t, onB_f, onB_b, e_var, e_varK, e_c, e_bin, e_un, e_call, e_nil, e_cons, e_tup, e_tupK, e_lst, e_lstK, e_newLst, toDs_nil, toDs_d, Option.map_some, e_callV, e_callVT, ar_nil, ar_cons, ar_d, ar_t, e_argKT, af_d, af_new, af_exc, up_nil, up_cons, end_ret, end_exc, end_nx, out_d, v_add, v_sub, v_neg, v_lt, v_le, v_gt, v_ge, v_eqI, v_neI, v_gcd, v_abs, v_max, v_int, v_lenT, v_lenL, List.getElem?_cons_zero, List.getElem?_cons_succ, List.set_cons_zero, List.set_cons_succ, List.take_zero, List.take_nil, Bool.false_eq_true, if_false, if_true, eq_self, decide_true, decide_false, Bool.not_true, Bool.not_false, Nat.reduceAdd, Nat.reduceLeDiff, Nat.reduceLT, List.nil_append, List.cons_append, i_non_int, i_non_bool, i_non_str, i_non_tuple, i_non_list, i_bl_int, i_bl_bool, i_bl_str, i_bl_tuple, i_bl_list, n_is_bl, n_no_bl, i_int_int, i_int_bool, i_int_str, i_int_tuple, i_int_list, n_is_int, n_no_int, i_str_int, i_str_bool, i_str_str, i_str_tuple, i_str_list, n_is_str, n_no_str, i_tup_int, i_tup_bool, i_tup_str, i_tup_tuple, i_tup_list, n_is_tup, n_no_tup, i_lst_int, i_lst_bool, i_lst_str, i_lst_tuple, i_lst_list, n_is_lst, n_no_lst, n_is_non, n_no_non, s_d3, s_d4, e_argD3, e_chain, v_toB, v_ix0, v_ix1, v_ix2, e_raise, e_raiseK, q]
  cases inB lo hi x <;> rfl
theorem asked_ok {x : D} (h : isP x = true) : d_asked_n [.d x] = if inB 1 40 x then .ok (.d x) [] else .exc "BadMany" x [] := by
  have q := many_ok (lo := 1) (hi := 40) h
  rw [d_asked_n, e_run1, s_d1]
  simp only [List.replicate, Nat.reduceSub]
  unfold m_asked_n
  have e : seqE [(varE 0), (cE (.int 1)), k_MOST_QUANTITIES] ⟨[some (.d x)], []⟩ = .ok [.d x, .d (.int 1), .d (.int 40)] ⟨[some (.d x)], []⟩ := rfl
  rw [e_ret, e_call, e, bind_ok]
  show endD 0 ((afterD [] _ (d_many [.d x, .d (.int 1), .d (.int 40)])).bind _) = _
  rw [q]
  cases inB 1 40 x <;> rfl
theorem madeties_bad {x y : D} (h : isP x = true) (hi : inB 1 40 x = false) : d_made_ties [.d x, .d y] = .exc "BadMany" x [] := by
  have q := asked_ok h
  rw [hi] at q
  simp only [Bool.false_eq_true, if_false] at q
  rw [d_made_ties, e_run2, s_d2]
  simp only [List.replicate, Nat.reduceSub]
  unfold m_made_ties
  have e : dropS (callE (callV d_asked_n) [(varE 0)]) ⟨[some (.d x), some (.d y), none], []⟩ = .exc "BadMany" x ⟨[some (.d x), some (.d y), none], []⟩ := by
    simp only [e_par, e_parK, e_asg, toD_d, e_nameT, e_consT, e_nilT, Option.bind_some, n_nx, n_ct, n_bk, n_ret, e_for, e_itE, e_itA, e_meth, ty_s, e_run1, e_run2, e_run3, e_run4, s_d1, s_d2, s_od, s_oo, s_o1, s_odd, s_t1, s_td, ic_d, ic_o, ic_t, ic_nil, e_argD, e_argDD, List.replicate, Nat.reduceSub, List.length_cons, List.length_nil, bind_ok, bind_exc, bind_bad, e_seq, th_nx, th_ret, th_exc, th_bk, th_ct, e_set, e_setK, e_ret, e_retK, e_drop, e_dropK, e_retN, e_next, e_brk, e_cnt, e_if, e_ifE, e_and, e_or, e_not, onB_t, onB_f, onB_b, e_var, e_varK, e_c, e_bin, e_un, e_call, e_nil, e_cons, e_tup, e_tupK, e_lst, e_lstK, e_newLst, toDs_nil, toDs_d, Option.map_some, e_callV, e_callVT, ar_nil, ar_cons, ar_d, ar_t, e_argKT, af_d, af_new, af_exc, up_nil, up_cons, end_ret, end_exc, end_nx, out_d, v_add, v_sub, v_neg, v_lt, v_le, v_gt, v_ge, v_eqI, v_neI, v_gcd, v_abs, v_max, v_int, v_lenT, v_lenL, List.getElem?_cons_zero, List.getElem?_cons_succ, List.set_cons_zero, List.set_cons_succ, List.take_zero, List.take_nil, Bool.false_eq_true, if_false, if_true, eq_self, decide_true, decide_false, Bool.not_true, Bool.not_false, Nat.reduceAdd, Nat.reduceLeDiff, Nat.reduceLT, List.nil_append, List.cons_append, i_non_int, i_non_bool, i_non_str, i_non_tuple, i_non_list, i_bl_int, i_bl_bool, i_bl_str, i_bl_tuple, i_bl_list, n_is_bl, n_no_bl, i_int_int, i_int_bool, i_int_str, i_int_tuple, i_int_list, n_is_int, n_no_int, i_str_int, i_str_bool, i_str_str, i_str_tuple, i_str_list, n_is_str, n_no_str, i_tup_int, i_tup_bool, i_tup_str, i_tup_tuple, i_tup_list, n_is_tup, n_no_tup, i_lst_int, i_lst_bool, i_lst_str, i_lst_tuple, i_lst_list, n_is_lst, n_no_lst, n_is_non, n_no_non, s_d3, s_d4, e_argD3, e_chain, v_toB, v_ix0, v_ix1, v_ix2, e_raise, e_raiseK, q]
  rw [e_seq, e, th_exc]
  rfl
theorem madeties_ok {n : Int} {x : D} (h1 : 1 ≤ n) (h2 : n ≤ 40) (h : Small x) : d_made_ties [.d (.int n), .d x] = outT n x := by
  have q := asked_ok (x := .int n) rfl
  have hi : inB 1 40 (.int n) = true := by
    show (decide (1 ≤ n) && decide (n ≤ 40)) = true
    rw [decide_eq_true h1, decide_eq_true h2]; rfl
  rw [hi] at q
  simp only [if_true] at q
  rw [d_made_ties, e_run2, s_d2]
  simp only [List.replicate, Nat.reduceSub]
  unfold m_made_ties
  have e : dropS (callE (callV d_asked_n) [(varE 0)]) ⟨[some (.d (.int n)), some (.d x), none], []⟩ = .ok .nx ⟨[some (.d (.int n)), some (.d x), none], []⟩ := by
    simp only [e_par, e_parK, e_asg, toD_d, e_nameT, e_consT, e_nilT, Option.bind_some, n_nx, n_ct, n_bk, n_ret, e_for, e_itE, e_itA, e_meth, ty_s, e_run1, e_run2, e_run3, e_run4, s_d1, s_d2, s_od, s_oo, s_o1, s_odd, s_t1, s_td, ic_d, ic_o, ic_t, ic_nil, e_argD, e_argDD, List.replicate, Nat.reduceSub, List.length_cons, List.length_nil, bind_ok, bind_exc, bind_bad, e_seq, th_nx, th_ret, th_exc, th_bk, th_ct, e_set, e_setK, e_ret, e_retK, e_drop, e_dropK, e_retN, e_next, e_brk, e_cnt, e_if, e_ifE, e_and, e_or, e_not, onB_t, onB_f, onB_b, e_var, e_varK, e_c, e_bin, e_un, e_call, e_nil, e_cons, e_tup, e_tupK, e_lst, e_lstK, e_newLst, toDs_nil, toDs_d, Option.map_some, e_callV, e_callVT, ar_nil, ar_cons, ar_d, ar_t, e_argKT, af_d, af_new, af_exc, up_nil, up_cons, end_ret, end_exc, end_nx, out_d, v_add, v_sub, v_neg, v_lt, v_le, v_gt, v_ge, v_eqI, v_neI, v_gcd, v_abs, v_max, v_int, v_lenT, v_lenL, List.getElem?_cons_zero, List.getElem?_cons_succ, List.set_cons_zero, List.set_cons_succ, List.take_zero, List.take_nil, Bool.false_eq_true, if_false, if_true, eq_self, decide_true, decide_false, Bool.not_true, Bool.not_false, Nat.reduceAdd, Nat.reduceLeDiff, Nat.reduceLT, List.nil_append, List.cons_append, i_non_int, i_non_bool, i_non_str, i_non_tuple, i_non_list, i_bl_int, i_bl_bool, i_bl_str, i_bl_tuple, i_bl_list, n_is_bl, n_no_bl, i_int_int, i_int_bool, i_int_str, i_int_tuple, i_int_list, n_is_int, n_no_int, i_str_int, i_str_bool, i_str_str, i_str_tuple, i_str_list, n_is_str, n_no_str, i_tup_int, i_tup_bool, i_tup_str, i_tup_tuple, i_tup_list, n_is_tup, n_no_tup, i_lst_int, i_lst_bool, i_lst_str, i_lst_tuple, i_lst_list, n_is_lst, n_no_lst, n_is_non, n_no_non, s_d3, s_d4, e_argD3, e_chain, v_toB, v_ix0, v_ix1, v_ix2, e_raise, e_raiseK, q]
  rw [seq_nx e]
  cases x with
  | tup xs =>
    have i1 : ifS (notE (callE isiV [(varE 1), (cE (.ty "tuple"))])) (raiseS "BadTies" (un1 negV (cE (.int 1)))) nextS ⟨[some (.d (.int n)), some (.d (.tup xs)), none], []⟩ = .ok .nx ⟨[some (.d (.int n)), some (.d (.tup xs)), none], []⟩ := rfl
    rw [seq_nx i1]
    unfold outT
    by_cases h12 : 12 < xs.length
    · have e : decide ((12 : Int) < (xs.length : Int)) = true := decide_eq_true (by omega)
      simp only [e_par, e_parK, e_asg, toD_d, e_nameT, e_consT, e_nilT, Option.bind_some, n_nx, n_ct, n_bk, n_ret, e_for, e_itE, e_itA, e_meth, ty_s, e_run1, e_run2, e_run3, e_run4, s_d1, s_d2, s_od, s_oo, s_o1, s_odd, s_t1, s_td, ic_d, ic_o, ic_t, ic_nil, e_argD, e_argDD, List.replicate, Nat.reduceSub, List.length_cons, List.length_nil, bind_ok, bind_exc, bind_bad, e_seq, th_nx, th_ret, th_exc, th_bk, th_ct, e_set, e_setK, e_ret, e_retK, e_drop, e_dropK, e_retN, e_next, e_brk, e_cnt, e_if, e_ifE, e_and, e_or, e_not, onB_t, onB_f, onB_b, e_var, e_varK, e_c, e_bin, e_un, e_call, e_nil, e_cons, e_tup, e_tupK, e_lst, e_lstK, e_newLst, toDs_nil, toDs_d, Option.map_some, e_callV, e_callVT, ar_nil, ar_cons, ar_d, ar_t, e_argKT, af_d, af_new, af_exc, up_nil, up_cons, end_ret, end_exc, end_nx, out_d, v_add, v_sub, v_neg, v_lt, v_le, v_gt, v_ge, v_eqI, v_neI, v_gcd, v_abs, v_max, v_int, v_lenT, v_lenL, List.getElem?_cons_zero, List.getElem?_cons_succ, List.set_cons_zero, List.set_cons_succ, List.take_zero, List.take_nil, Bool.false_eq_true, if_false, if_true, eq_self, decide_true, decide_false, Bool.not_true, Bool.not_false, Nat.reduceAdd, Nat.reduceLeDiff, Nat.reduceLT, List.nil_append, List.cons_append, i_non_int, i_non_bool, i_non_str, i_non_tuple, i_non_list, i_bl_int, i_bl_bool, i_bl_str, i_bl_tuple, i_bl_list, n_is_bl, n_no_bl, i_int_int, i_int_bool, i_int_str, i_int_tuple, i_int_list, n_is_int, n_no_int, i_str_int, i_str_bool, i_str_str, i_str_tuple, i_str_list, n_is_str, n_no_str, i_tup_int, i_tup_bool, i_tup_str, i_tup_tuple, i_tup_list, n_is_tup, n_no_tup, i_lst_int, i_lst_bool, i_lst_str, i_lst_tuple, i_lst_list, n_is_lst, n_no_lst, n_is_non, n_no_non, s_d3, s_d4, e_argD3, e_chain, v_toB, v_ix0, v_ix1, v_ix2, e_raise, e_raiseK, k_MOST_TIES, e, tiesF, h12, th_exc]
      all_goals rfl
    · have e : decide ((12 : Int) < (xs.length : Int)) = false := decide_eq_false (by omega)
      have qt := firsttie_ok (n := n) (xs := xs) h1 (by omega) h.mem
      simp only [tiesF, h12, if_false]
      cases ft : fo (tieB n) 0 xs with
      | none =>
        rw [ft] at qt
        simp only [e_par, e_parK, e_asg, toD_d, e_nameT, e_consT, e_nilT, Option.bind_some, n_nx, n_ct, n_bk, n_ret, e_for, e_itE, e_itA, e_meth, ty_s, e_run1, e_run2, e_run3, e_run4, s_d1, s_d2, s_od, s_oo, s_o1, s_odd, s_t1, s_td, ic_d, ic_o, ic_t, ic_nil, e_argD, e_argDD, List.replicate, Nat.reduceSub, List.length_cons, List.length_nil, bind_ok, bind_exc, bind_bad, e_seq, th_nx, th_ret, th_exc, th_bk, th_ct, e_set, e_setK, e_ret, e_retK, e_drop, e_dropK, e_retN, e_next, e_brk, e_cnt, e_if, e_ifE, e_and, e_or, e_not, onB_t, onB_f, onB_b, e_var, e_varK, e_c, e_bin, e_un, e_call, e_nil, e_cons, e_tup, e_tupK, e_lst, e_lstK, e_newLst, toDs_nil, toDs_d, Option.map_some, e_callV, e_callVT, ar_nil, ar_cons, ar_d, ar_t, e_argKT, af_d, af_new, af_exc, up_nil, up_cons, end_ret, end_exc, end_nx, out_d, v_add, v_sub, v_neg, v_lt, v_le, v_gt, v_ge, v_eqI, v_neI, v_gcd, v_abs, v_max, v_int, v_lenT, v_lenL, List.getElem?_cons_zero, List.getElem?_cons_succ, List.set_cons_zero, List.set_cons_succ, List.take_zero, List.take_nil, Bool.false_eq_true, if_false, if_true, eq_self, decide_true, decide_false, Bool.not_true, Bool.not_false, Nat.reduceAdd, Nat.reduceLeDiff, Nat.reduceLT, List.nil_append, List.cons_append, i_non_int, i_non_bool, i_non_str, i_non_tuple, i_non_list, i_bl_int, i_bl_bool, i_bl_str, i_bl_tuple, i_bl_list, n_is_bl, n_no_bl, i_int_int, i_int_bool, i_int_str, i_int_tuple, i_int_list, n_is_int, n_no_int, i_str_int, i_str_bool, i_str_str, i_str_tuple, i_str_list, n_is_str, n_no_str, i_tup_int, i_tup_bool, i_tup_str, i_tup_tuple, i_tup_list, n_is_tup, n_no_tup, i_lst_int, i_lst_bool, i_lst_str, i_lst_tuple, i_lst_list, n_is_lst, n_no_lst, n_is_non, n_no_non, s_d3, s_d4, e_argD3, e_chain, v_toB, v_ix0, v_ix1, v_ix2, e_raise, e_raiseK, k_MOST_TIES, qt, oD, e]
        all_goals rfl
      | some k =>
        rw [ft] at qt
        simp only [e_par, e_parK, e_asg, toD_d, e_nameT, e_consT, e_nilT, Option.bind_some, n_nx, n_ct, n_bk, n_ret, e_for, e_itE, e_itA, e_meth, ty_s, e_run1, e_run2, e_run3, e_run4, s_d1, s_d2, s_od, s_oo, s_o1, s_odd, s_t1, s_td, ic_d, ic_o, ic_t, ic_nil, e_argD, e_argDD, List.replicate, Nat.reduceSub, List.length_cons, List.length_nil, bind_ok, bind_exc, bind_bad, e_seq, th_nx, th_ret, th_exc, th_bk, th_ct, e_set, e_setK, e_ret, e_retK, e_drop, e_dropK, e_retN, e_next, e_brk, e_cnt, e_if, e_ifE, e_and, e_or, e_not, onB_t, onB_f, onB_b, e_var, e_varK, e_c, e_bin, e_un, e_call, e_nil, e_cons, e_tup, e_tupK, e_lst, e_lstK, e_newLst, toDs_nil, toDs_d, Option.map_some, e_callV, e_callVT, ar_nil, ar_cons, ar_d, ar_t, e_argKT, af_d, af_new, af_exc, up_nil, up_cons, end_ret, end_exc, end_nx, out_d, v_add, v_sub, v_neg, v_lt, v_le, v_gt, v_ge, v_eqI, v_neI, v_gcd, v_abs, v_max, v_int, v_lenT, v_lenL, List.getElem?_cons_zero, List.getElem?_cons_succ, List.set_cons_zero, List.set_cons_succ, List.take_zero, List.take_nil, Bool.false_eq_true, if_false, if_true, eq_self, decide_true, decide_false, Bool.not_true, Bool.not_false, Nat.reduceAdd, Nat.reduceLeDiff, Nat.reduceLT, List.nil_append, List.cons_append, i_non_int, i_non_bool, i_non_str, i_non_tuple, i_non_list, i_bl_int, i_bl_bool, i_bl_str, i_bl_tuple, i_bl_list, n_is_bl, n_no_bl, i_int_int, i_int_bool, i_int_str, i_int_tuple, i_int_list, n_is_int, n_no_int, i_str_int, i_str_bool, i_str_str, i_str_tuple, i_str_list, n_is_str, n_no_str, i_tup_int, i_tup_bool, i_tup_str, i_tup_tuple, i_tup_list, n_is_tup, n_no_tup, i_lst_int, i_lst_bool, i_lst_str, i_lst_tuple, i_lst_list, n_is_lst, n_no_lst, n_is_non, n_no_non, s_d3, s_d4, e_argD3, e_chain, v_toB, v_ix0, v_ix1, v_ix2, e_raise, e_raiseK, k_MOST_TIES, qt, oD, e, th_exc]
        all_goals rfl
  | non => rfl
  | bl b => rfl
  | int b => rfl
  | str b => rfl
  | lst b => rfl
  | klst b => have := h.1; simp [Pl] at this
  | obj b => have := h.1; simp [Pl] at this
  | ty b => have := h.1; simp [Pl] at this
/-! ### told or refused -/
theorem heard_t (x : D) : d__law_a1_heard [.t true "" x] = .ok (.d (.tup [.str "told", x])) [] := rfl
theorem heard_m (x : D) : d__law_a1_heard [.t false "BadMany" x] = .ok (.d (.tup [.str "BadMany", x])) [] := rfl
theorem heard_s (x : D) : d__law_a1_heard [.t false "BadTies" x] = .ok (.d (.tup [.str "BadTies", x])) [] := rfl
theorem heard_w (x : D) : d__law_a1_heard [.t false "BadWorld" x] = .ok (.d (.tup [.str "BadWorld", x])) [] := rfl
theorem heard_o (x : D) : d__law_a1_heard [.t false "TooMany" x] = .ok (.d (.tup [.str "TooMany", x])) [] := rfl
def own4 (nm : Str) : Bool := nm == "BadMany" || nm == "BadTies" || nm == "BadWorld" || nm == "TooMany"
def hrd : RD → Option D
  | .ok (.d y) _ => some (.tup [.str "told", y])
  | .exc nm y _ => if own4 nm then some (.tup [.str nm, y]) else none
  | _ => none
theorem heard_x {nm : Str} (h : own4 nm = true) (x : D) : d__law_a1_heard [.t false nm x] = .ok (.d (.tup [.str nm, x])) [] := by
  unfold own4 at h
  rw [Bool.or_eq_true, Bool.or_eq_true, Bool.or_eq_true, beq_iff_eq, beq_iff_eq, beq_iff_eq, beq_iff_eq] at h
  rcases h with ((rfl | rfl) | rfl) | rfl
  · exact heard_m x
  · exact heard_s x
  · exact heard_w x
  · exact heard_o x
theorem lam_t {caps : List Nat} {fb : S → OE} {st st1 : S} {xs : List D} {y w : D} {b : Bool} {nm : Str} (h1 : frzL caps st = some (xs, st1)) (h2 : thkOf fb st.v.length caps xs = some (b, nm, y)) (h3 : d__law_a1_heard [.t b nm y] = .ok (.d w) []) : lamE d__law_a1_heard caps fb [] st = .ok (.d w) st1 := by
  rw [e_lam, h1]
  simp only [h2, toD_d, e_nil, bind_ok, ar_nil]
  rw [nt_nil, if_pos rfl, h3]
  obtain ⟨vs, cs⟩ := st1
  rw [af_d, up_nil]
theorem lam_c {caps : List Nat} {fb : S → OE} {st st1 : S} {xs : List D} {w : D} {r : RD} (h1 : frzL caps st = some (xs, st1)) (h2 : fb ⟨capV st.v.length caps xs, []⟩ = afterD [] ⟨capV st.v.length caps xs, []⟩ r) (h3 : hrd r = some w) : lamE d__law_a1_heard caps fb [] st = .ok (.d w) st1 := by
  unfold hrd at h3
  split at h3
  · cases h3
    rw [af_d] at h2
    exact lam_t h1 (by unfold thkOf; rw [h2]; rfl) (heard_t _)
  · rename_i nm y c'
    split at h3
    · rename_i e
      cases h3
      rw [af_exc] at h2
      exact lam_t h1 (by unfold thkOf; rw [h2]) (heard_x e _)
    · cases h3
  · cases h3
theorem lam2 {d : List Ar → RD} {i j : Nat} {a b w : D} {vs : List (Option Val)} {cs : List Cell} (ha : vs[i]? = some (some (.d a))) (hb : vs[j]? = some (some (.d b))) (ij : i ≠ j) (h : hrd (d [.d a, .d b]) = some w) :
    lamE d__law_a1_heard [i, j] (callE (callV d) [varE i, varE j]) [] ⟨vs, cs⟩ = .ok (.d w) ⟨vs, cs⟩ :=
  have c := cap2 (a := a) (b := b) (lt_of_some ha) (lt_of_some hb) ij
  lam_c (frz2 ha hb) (call2 c.1 c.2) h
theorem lam1 {d : List Ar → RD} {i : Nat} {a w : D} {f : S → OE} {vs : List (Option Val)} {cs : List Cell} (ha : vs[i]? = some (some (.d a))) (hf : ∀ vs : List (Option Val), vs[i]? = some (some (.d a)) → f ⟨vs, []⟩ = afterD [] ⟨vs, []⟩ (d [.d a])) (h : hrd (d [.d a]) = some w) :
    lamE d__law_a1_heard [i] f [] ⟨vs, cs⟩ = .ok (.d w) ⟨vs, cs⟩ := by
  have fz : frzL [i] ⟨vs, cs⟩ = some ([a], ⟨vs, cs⟩) := by simp only [frzL, ha, toD]
  have c : (capV vs.length [i] [a])[i]? = some (some (.d a)) := by
    simp only [capV]
    rw [List.getElem?_set_self (by rw [List.length_replicate]; exact lt_of_some ha)]
  exact lam_c fz (hf _ c) h
theorem same_cc {fa fb : S → OE} {k j : Nat} {L : List D} {st st1 : S} {vs : List (Option Val)} {cs : List Cell} (h1 : fa st = .ok (.c k) st1) (h2 : fb st1 = .ok (.c j) ⟨vs, cs⟩) (hk : cs[k]? = some (.own L)) (hj : cs[j]? = some (.own L)) (kj : k ≠ j)
    (g : Gd (.lst L)) (sz : szDs L ≤ 999999) : callE (callV d__law_wb_same) [fa, fb] st = .ok (.d (.bl true)) ⟨vs, (cs.set k (.frz L)).set j (.frz L)⟩ := by
  rw [e_call, e_cons, h1, bind_ok, e_cons, h2, bind_ok, e_nil, bind_ok, bind_ok, bind_ok, e_callV, ar_cons, ar_cons, ar_nil]
  have c1 : consA (.c j) ⟨vs, cs⟩ (some ([], [])) = some ([.o L], [j]) := by
    unfold consA; simp only [hj]; rfl
  have c2 : consA (.c k) ⟨vs, cs⟩ (some ([.o L], [j])) = some ([.o L, .o L], [k, j]) := by
    have : ¬ k ∈ [j] := by simpa using kj
    unfold consA; simp only [hk, this]; rfl
  rw [c1, c2, e_argK rfl, same_o g sz, af_d, up_cons, up_cons, up_nil]
theorem same_dd {fa fb : S → OE} {x : D} {st st1 : S} {vs : List (Option Val)} {cs : List Cell} (h1 : fa st = .ok (.d x) st1) (h2 : fb st1 = .ok (.d x) ⟨vs, cs⟩) (g : Gd x) (sz : szD x ≤ 1000000) : callE (callV d__law_wb_same) [fa, fb] st = .ok (.d (.bl true)) ⟨vs, cs⟩ := by
  rw [e_call, e_cons, h1, bind_ok, e_cons, h2, bind_ok, e_nil, bind_ok, bind_ok, bind_ok, e_callV, ar_cons, ar_cons, ar_nil, ar_d, ar_d, e_argK rfl, same_d g sz, af_d, up_nil]
abbrev tld (x : D) : D := .tup [.str "told", x]
/-- what may be heard -/
def Hd (y : D) : Prop := Pl y = true ∧ dep y ≤ 44 ∧ szD y ≤ 20000
theorem Small.hd {x : D} (h : Small x) : Hd (tld x) := by
  have h1 := h.2.1
  have h2 := h.2.2
  have e : PyData.strOk "told" = true := by decide +kernel
  refine ⟨by simp [Pl, Pls, h.1, e], ?_, ?_⟩
  · simp only [dep, deps]; omega
  · simp only [szD, szDs]; omega
theorem Hd.gd {y : D} (h : Hd y) : Gd y ∧ szD y ≤ 1000000 := ⟨⟨h.1, by have := h.2.1; omega⟩, by have := h.2.2; omega⟩
theorem hds {L : List D} (h : ∀ y ∈ L, Hd y) (hl : L.length ≤ 40) : Gd (.lst L) ∧ szDs L ≤ 999999 := by
  refine ⟨⟨?_, ?_⟩, ?_⟩
  · show Pls L = true
    exact Pls_of fun y hy => (h y hy).1
  · have : deps L ≤ 44 := deps_le fun y hy => (h y hy).2.1
    simp only [dep]; omega
  · have : ∀ L : List D, (∀ y ∈ L, Hd y) → szDs L ≤ 20000 * L.length := fun L => by
      induction L with
      | nil => intro _; simp [szDs]
      | cons x r ih =>
        intro h
        have h1 := (h x List.mem_cons_self).2.2
        have h2 := ih fun y hy => h y (List.mem_cons_of_mem _ hy)
        simp only [szDs, List.length_cons]; omega
    have := this L h
    omega
/-! ### forms -/
theorem strB : PyData.strOk "BadWorld" = true ∧ PyData.strOk "TooMany" = true ∧ PyData.strOk "BadTies" = true ∧ PyData.strOk "BadMany" = true := by decide +kernel
theorem hd_bi (i : Int) : Hd (.tup [.str "BadWorld", .int i]) := ⟨by simp [Pl, Pls, strB.1], by simp [dep, deps], by simp [szD, szDs]⟩
theorem hd_ti (i : Int) : Hd (.tup [.str "TooMany", .int i]) := ⟨by simp [Pl, Pls, strB.2.1], by simp [dep, deps], by simp [szD, szDs]⟩
theorem hd_si (i : Int) : Hd (.tup [.str "BadTies", .int i]) := ⟨by simp [Pl, Pls, strB.2.2.1], by simp [dep, deps], by simp [szD, szDs]⟩
theorem hd_bt (i j : Int) : Hd (.tup [.str "BadWorld", .tup [.int i, .int j]]) := ⟨by simp [Pl, Pls, strB.1], by simp [dep, deps], by simp [szD, szDs]⟩
theorem part_form {i : Int} {m : Nat} {p : D → Bool} (y : D) : partF i m p y = none ∨ ∃ nm z, partF i m p y = some (.tup [.str nm, z]) ∧ own4 nm = true ∧ Hd (.tup [.str nm, z]) := by
  cases y with
  | tup ys =>
    simp only [partF]
    split
    · exact .inr ⟨_, _, rfl, by decide +kernel, hd_ti _⟩
    · cases fo p 0 ys with
      | none => exact .inl rfl
      | some k => exact .inr ⟨_, _, rfl, by decide +kernel, hd_bt _ _⟩
  | _ => exact .inr ⟨_, _, rfl, by decide +kernel, hd_bi _⟩
theorem worldF_form (x : D) : worldF x = .non ∨ ∃ nm z, worldF x = .tup [.str nm, z] ∧ own4 nm = true ∧ Hd (.tup [.str nm, z]) := by
  have b : ∀ i, (D.tup [.str "BadWorld", .int i]) = .non ∨ ∃ nm z, (D.tup [.str "BadWorld", .int i]) = .tup [.str nm, z] ∧ own4 nm = true ∧ Hd (.tup [.str nm, z]) := fun i => .inr ⟨_, _, rfl, by decide +kernel, hd_bi _⟩
  unfold worldF
  split
  · unfold headF
    split
    · split
      · rw [rowsF_part]
        rename_i b' c' d' n _
        rcases part_form (i := 1) (m := 40) (p := sumB n) b' with e | ⟨nm, z, e, h⟩
        · rw [e]
          rcases part_form (i := 2) (m := 12) (p := tieB n) c' with e | ⟨nm, z, e, h⟩
          · rw [e]; exact .inl rfl
          · rw [e]; exact .inr ⟨nm, z, rfl, h⟩
        · rw [e]; exact .inr ⟨nm, z, rfl, h⟩
      · exact b 0
    · exact b 0
  · exact b (-1)
/-! ### right -/
theorem right_ok {x : D} (h : Small x) : d__law_a1_right [.d x] = .ok (.d (.bl true)) [] := by
  have q1 := worldfault_ok h
  have q2 := madeworld_ok h
  have q3 := isworld_ok h
  rw [d__law_a1_right, e_run1, s_d1]
  simp only [List.replicate, Nat.reduceSub]
  unfold m__law_a1_right
  have i1 : setS 1 (callE (callV d__law_wb_world_fault) [(varE 0)]) ⟨[some (.d x), none, none], []⟩ = .ok .nx ⟨[some (.d x), some (.d (worldF x)), none], []⟩ := by
    simp only [e_par, e_parK, e_asg, toD_d, e_nameT, e_consT, e_nilT, Option.bind_some, n_nx, n_ct, n_bk, n_ret, e_for, e_itE, e_itA, e_meth, ty_s, e_run1, e_run2, e_run3, e_run4, s_d1, s_d2, s_od, s_oo, s_o1, s_odd, s_t1, s_td, ic_d, ic_o, ic_t, ic_nil, e_argD, e_argDD, List.replicate, Nat.reduceSub, List.length_cons, List.length_nil, bind_ok, bind_exc, bind_bad, e_seq, th_nx, th_ret, th_exc, th_bk, th_ct, e_set, e_setK, e_ret, e_retK, e_drop, e_dropK, e_retN, e_next, e_brk, e_cnt, e_if, e_ifE, e_and, e_or, e_not, onB_t, onB_f, onB_b, e_var, e_varK, e_c, e_bin, e_un, e_call, e_nil, e_cons, e_tup, e_tupK, e_lst, e_lstK, e_newLst, toDs_nil, toDs_d, Option.map_some, e_callV, e_callVT, ar_nil, ar_cons, ar_d, ar_t, e_argKT, af_d, af_new, af_exc, up_nil, up_cons, end_ret, end_exc, end_nx, out_d, v_add, v_sub, v_neg, v_lt, v_le, v_gt, v_ge, v_eqI, v_neI, v_gcd, v_abs, v_max, v_int, v_lenT, v_lenL, List.getElem?_cons_zero, List.getElem?_cons_succ, List.set_cons_zero, List.set_cons_succ, List.take_zero, List.take_nil, Bool.false_eq_true, if_false, if_true, eq_self, decide_true, decide_false, Bool.not_true, Bool.not_false, Nat.reduceAdd, Nat.reduceLeDiff, Nat.reduceLT, List.nil_append, List.cons_append, i_non_int, i_non_bool, i_non_str, i_non_tuple, i_non_list, i_bl_int, i_bl_bool, i_bl_str, i_bl_tuple, i_bl_list, n_is_bl, n_no_bl, i_int_int, i_int_bool, i_int_str, i_int_tuple, i_int_list, n_is_int, n_no_int, i_str_int, i_str_bool, i_str_str, i_str_tuple, i_str_list, n_is_str, n_no_str, i_tup_int, i_tup_bool, i_tup_str, i_tup_tuple, i_tup_list, n_is_tup, n_no_tup, i_lst_int, i_lst_bool, i_lst_str, i_lst_tuple, i_lst_list, n_is_lst, n_no_lst, n_is_non, n_no_non, s_d3, s_d4, e_argD3, e_chain, v_toB, v_ix0, v_ix1, v_ix2, e_raise, e_raiseK, q1]
  rw [seq_nx i1]
  rcases worldF_form x with e | ⟨nm, z, e, h4, hz⟩
  · rw [e] at q2 q3 ⊢
    have l1 : lamE d__law_a1_heard [0] (callE (callV d_made_world) [(varE 0)]) [] ⟨[some (.d x), some (.d .non), none], []⟩ = .ok (.d (tld x)) ⟨[some (.d x), some (.d .non), none], []⟩ := lam1 (d := d_made_world) (a := x) rfl (fun vs hv => call1 hv) (by rw [q2]; rfl)
    have l2 : ∀ cs, lamE d__law_a1_heard [0] (callE (callV d_is_world) [(varE 0)]) [] ⟨[some (.d x), some (.d .non), some (.c 0)], cs⟩ = .ok (.d (tld (.bl true))) ⟨[some (.d x), some (.d .non), some (.c 0)], cs⟩ := fun cs => lam1 (d := d_is_world) (a := x) rfl (fun vs hv => call1 hv) (by rw [q3]; rfl)
    have i2 : setS 2 (lstE [(lamE d__law_a1_heard [0] (callE (callV d_made_world) [(varE 0)]) [])]) ⟨[some (.d x), some (.d .non), none], []⟩ = .ok .nx ⟨[some (.d x), some (.d .non), some (.c 0)], [.own [tld x]]⟩ := by
      rw [e_set, e_lst, e_cons, l1, bind_ok, e_nil, bind_ok]; rfl
    have i3 := app_m (f := lamE d__law_a1_heard [0] (callE (callV d_is_world) [(varE 0)]) []) (i := 2) (k := 0) (xs := [tld x]) (vs := [some (.d x), some (.d .non), some (.c 0)]) (cs := [.own [tld x]]) rfl rfl (l2 _) (by simp)
    rw [seq_nx i2, seq_nx i3]
    have g := hds (L := [tld x, tld (.bl true)]) (fun y hy => by
      rcases List.mem_cons.mp hy with rfl | hy
      · exact h.hd
      · rw [List.mem_singleton.mp hy]; exact Small.hd ⟨rfl, by simp [dep], by simp [szD]⟩) (by simp)
    have i4 := same_cc (fa := varE 2) (fb := lstE [(ifE (bin2 (isNV false) (varE 1) (cE .non)) (tupE [(cE (.str "told")), (varE 0)]) (varE 1)), (tupE [(cE (.str "told")), (bin2 (isNV false) (varE 1) (cE .non))])]) (k := 0) (j := 1) (L := [tld x, tld (.bl true)]) (st := ⟨[some (.d x), some (.d .non), some (.c 0)], [.own [tld x, tld (.bl true)]]⟩) (vs := [some (.d x), some (.d .non), some (.c 0)]) (cs := [.own [tld x, tld (.bl true)], .own [tld x, tld (.bl true)]]) rfl rfl rfl rfl (by decide) g.1 g.2
    show endD 0 (retS _ ⟨[some (.d x), some (.d .non), some (.c 0)], [.own [tld x, tld (.bl true)]]⟩) = _
    rw [e_ret, i4, bind_ok]
    rfl
  · rw [e] at q2 q3 ⊢
    have l1 : lamE d__law_a1_heard [0] (callE (callV d_made_world) [(varE 0)]) [] ⟨[some (.d x), some (.d (.tup [.str nm, z])), none], []⟩ = .ok (.d (.tup [.str nm, z])) ⟨[some (.d x), some (.d (.tup [.str nm, z])), none], []⟩ := lam1 (d := d_made_world) (a := x) rfl (fun vs hv => call1 hv) (by rw [q2]; show (if own4 nm then _ else _) = _; rw [h4]; rfl)
    have l2 : ∀ cs, lamE d__law_a1_heard [0] (callE (callV d_is_world) [(varE 0)]) [] ⟨[some (.d x), some (.d (.tup [.str nm, z])), some (.c 0)], cs⟩ = .ok (.d (tld (.bl false))) ⟨[some (.d x), some (.d (.tup [.str nm, z])), some (.c 0)], cs⟩ := fun cs => lam1 (d := d_is_world) (a := x) rfl (fun vs hv => call1 hv) (by rw [q3]; rfl)
    have i2 : setS 2 (lstE [(lamE d__law_a1_heard [0] (callE (callV d_made_world) [(varE 0)]) [])]) ⟨[some (.d x), some (.d (.tup [.str nm, z])), none], []⟩ = .ok .nx ⟨[some (.d x), some (.d (.tup [.str nm, z])), some (.c 0)], [.own [.tup [.str nm, z]]]⟩ := by
      rw [e_set, e_lst, e_cons, l1, bind_ok, e_nil, bind_ok]; rfl
    have i3 := app_m (f := lamE d__law_a1_heard [0] (callE (callV d_is_world) [(varE 0)]) []) (i := 2) (k := 0) (xs := [.tup [.str nm, z]]) (vs := [some (.d x), some (.d (.tup [.str nm, z])), some (.c 0)]) (cs := [.own [.tup [.str nm, z]]]) rfl rfl (l2 _) (by simp)
    rw [seq_nx i2, seq_nx i3]
    have g := hds (L := [.tup [.str nm, z], tld (.bl false)]) (fun y hy => by
      rcases List.mem_cons.mp hy with rfl | hy
      · exact hz
      · rw [List.mem_singleton.mp hy]; exact Small.hd ⟨rfl, by simp [dep], by simp [szD]⟩) (by simp)
    have i4 := same_cc (fa := varE 2) (fb := lstE [(ifE (bin2 (isNV false) (varE 1) (cE .non)) (tupE [(cE (.str "told")), (varE 0)]) (varE 1)), (tupE [(cE (.str "told")), (bin2 (isNV false) (varE 1) (cE .non))])]) (k := 0) (j := 1) (L := [.tup [.str nm, z], tld (.bl false)]) (st := ⟨[some (.d x), some (.d (.tup [.str nm, z])), some (.c 0)], [.own [.tup [.str nm, z], tld (.bl false)]]⟩) (vs := [some (.d x), some (.d (.tup [.str nm, z])), some (.c 0)]) (cs := [.own [.tup [.str nm, z], tld (.bl false)], .own [.tup [.str nm, z], tld (.bl false)]]) rfl rfl rfl rfl (by decide) g.1 g.2
    show endD 0 (retS _ ⟨[some (.d x), some (.d (.tup [.str nm, z])), some (.c 0)], [.own [.tup [.str nm, z], tld (.bl false)]]⟩) = _
    rw [e_ret, i4, bind_ok]
    rfl
theorem tiesright_ok {n : Int} {x : D} (h1 : 1 ≤ n) (h2 : n ≤ 40) (h : Small x) : d__law_a1_ties_right [.d (.int n), .d x] = .ok (.d (.bl true)) [] := by
  have q1 := tiesfault_ok (n := n) h
  have q2 := madeties_ok h1 h2 h
  rw [d__law_a1_ties_right, e_run2, s_d2]
  simp only [List.replicate, Nat.reduceSub]
  unfold m__law_a1_ties_right
  have i1 : setS 2 (callE (callV d__law_wb_ties_fault) [(varE 0), (varE 1)]) ⟨[some (.d (.int n)), some (.d x), none, none], []⟩ = .ok .nx ⟨[some (.d (.int n)), some (.d x), some (.d (tiesF n x)), none], []⟩ := by
    simp only [e_par, e_parK, e_asg, toD_d, e_nameT, e_consT, e_nilT, Option.bind_some, n_nx, n_ct, n_bk, n_ret, e_for, e_itE, e_itA, e_meth, ty_s, e_run1, e_run2, e_run3, e_run4, s_d1, s_d2, s_od, s_oo, s_o1, s_odd, s_t1, s_td, ic_d, ic_o, ic_t, ic_nil, e_argD, e_argDD, List.replicate, Nat.reduceSub, List.length_cons, List.length_nil, bind_ok, bind_exc, bind_bad, e_seq, th_nx, th_ret, th_exc, th_bk, th_ct, e_set, e_setK, e_ret, e_retK, e_drop, e_dropK, e_retN, e_next, e_brk, e_cnt, e_if, e_ifE, e_and, e_or, e_not, onB_t, onB_f, onB_b, e_var, e_varK, e_c, e_bin, e_un, e_call, e_nil, e_cons, e_tup, e_tupK, e_lst, e_lstK, e_newLst, toDs_nil, toDs_d, Option.map_some, e_callV, e_callVT, ar_nil, ar_cons, ar_d, ar_t, e_argKT, af_d, af_new, af_exc, up_nil, up_cons, end_ret, end_exc, end_nx, out_d, v_add, v_sub, v_neg, v_lt, v_le, v_gt, v_ge, v_eqI, v_neI, v_gcd, v_abs, v_max, v_int, v_lenT, v_lenL, List.getElem?_cons_zero, List.getElem?_cons_succ, List.set_cons_zero, List.set_cons_succ, List.take_zero, List.take_nil, Bool.false_eq_true, if_false, if_true, eq_self, decide_true, decide_false, Bool.not_true, Bool.not_false, Nat.reduceAdd, Nat.reduceLeDiff, Nat.reduceLT, List.nil_append, List.cons_append, i_non_int, i_non_bool, i_non_str, i_non_tuple, i_non_list, i_bl_int, i_bl_bool, i_bl_str, i_bl_tuple, i_bl_list, n_is_bl, n_no_bl, i_int_int, i_int_bool, i_int_str, i_int_tuple, i_int_list, n_is_int, n_no_int, i_str_int, i_str_bool, i_str_str, i_str_tuple, i_str_list, n_is_str, n_no_str, i_tup_int, i_tup_bool, i_tup_str, i_tup_tuple, i_tup_list, n_is_tup, n_no_tup, i_lst_int, i_lst_bool, i_lst_str, i_lst_tuple, i_lst_list, n_is_lst, n_no_lst, n_is_non, n_no_non, s_d3, s_d4, e_argD3, e_chain, v_toB, v_ix0, v_ix1, v_ix2, e_raise, e_raiseK, q1]
  rw [seq_nx i1]
  have key : ∀ y w, tiesF n x = y → hrd (d_made_ties [.d (.int n), .d x]) = some w → Hd w → setS 3 (ifE (bin2 (isNV false) (varE 2) (cE .non)) (tupE [(cE (.str "told")), (varE 1)]) (ifE (callE isiV [(varE 2), (cE (.ty "tuple"))]) (varE 2) (tupE [(cE (.str "BadTies")), (varE 2)]))) ⟨[some (.d (.int n)), some (.d x), some (.d y), none], []⟩ = .ok .nx ⟨[some (.d (.int n)), some (.d x), some (.d y), some (.d w)], []⟩ →
      endD 0 (seqS (setS 3 (ifE (bin2 (isNV false) (varE 2) (cE .non)) (tupE [(cE (.str "told")), (varE 1)]) (ifE (callE isiV [(varE 2), (cE (.ty "tuple"))]) (varE 2) (tupE [(cE (.str "BadTies")), (varE 2)])))) (retS (callE (callV d__law_wb_same) [(lamE d__law_a1_heard [0, 1] (callE (callV d_made_ties) [(varE 0), (varE 1)]) []), (varE 3)])) ⟨[some (.d (.int n)), some (.d x), some (.d y), none], []⟩) = .ok (.d (.bl true)) [] := fun y w e hw hd i2 => by
    rw [seq_nx i2, e_ret, same_dd (fa := lamE d__law_a1_heard [0, 1] (callE (callV d_made_ties) [(varE 0), (varE 1)]) []) (fb := varE 3) (st := ⟨[some (.d (.int n)), some (.d x), some (.d y), some (.d w)], []⟩) (x := w) (st1 := ⟨[some (.d (.int n)), some (.d x), some (.d y), some (.d w)], []⟩) (vs := [some (.d (.int n)), some (.d x), some (.d y), some (.d w)]) (cs := []) (lam2 rfl rfl (by decide) hw) rfl hd.gd.1 hd.gd.2, bind_ok]
    rfl
  rcases tiesF_form n x with e | ⟨l, e⟩ | ⟨i, e⟩
  · rw [e]; exact key _ (tld x) e (by rw [q2]; unfold outT; rw [e]; rfl) h.hd rfl
  · rw [e]; exact key _ _ e (by rw [q2]; unfold outT; rw [e]; rfl) (hd_ti l) rfl
  · rw [e]; exact key _ _ e (by rw [q2]; unfold outT; rw [e]; rfl) (hd_si i) rfl
end Law
end
section
set_option Elab.async false
set_option linter.all false
set_option maxRecDepth 100000
set_option maxHeartbeats 4000000
set_option exponentiation.threshold 5000
namespace Law
open PySem Sh
/-- a jar from which n more may be drawn -/
def Jr (n : Nat) (J : List D) : Prop := ∃ a b c : Int, J = [.int a, .int b, .int c] ∧ 0 ≤ b ∧ b < 2147483647 ∧ 0 ≤ c ∧ c + n ≤ 1000000000000
theorem Jr.mono {n k : Nat} {J : List D} (h : Jr n J) (l : k ≤ n) : Jr k J := by
  obtain ⟨a, b, c, e, h1, h2, h3, h4⟩ := h
  exact ⟨a, b, c, e, h1, h2, h3, by omega⟩
theorem fmod_ge {a m : Int} (h : 0 < m) : 0 ≤ a.fmod m := Int.fmod_nonneg_of_pos a h
theorem fmod_lt {a m : Int} (h : 0 < m) : a.fmod m < m := Int.fmod_lt_of_pos a h
theorem log_lt {a : Int} {n : Nat} (h : a.natAbs < 2 ^ n) (hn : 0 < n) : a.natAbs.log2 < n := by
  by_cases z : a.natAbs = 0
  · rw [z]; simpa using hn
  · exact (Nat.log2_lt z).mpr h
theorem jc0 {x y z : D} {vs : List (Option Val)} {cs : List Cell} : ixV (.c 0) (.d (.int 0)) ⟨vs, .own [x, y, z] :: cs⟩ = .ok (.d x) ⟨vs, .own [x, y, z] :: cs⟩ := rfl
theorem jc1 {x y z : D} {vs : List (Option Val)} {cs : List Cell} : ixV (.c 0) (.d (.int 1)) ⟨vs, .own [x, y, z] :: cs⟩ = .ok (.d y) ⟨vs, .own [x, y, z] :: cs⟩ := rfl
theorem jc2 {x y z : D} {vs : List (Option Val)} {cs : List Cell} : ixV (.c 0) (.d (.int 2)) ⟨vs, .own [x, y, z] :: cs⟩ = .ok (.d z) ⟨vs, .own [x, y, z] :: cs⟩ := rfl
theorem js0 {x y z v : D} {vs : List (Option Val)} {cs : List Cell} : setIx (.d v) (.c 0) (.d (.int 0)) ⟨vs, .own [x, y, z] :: cs⟩ = .ok .nx ⟨vs, .own [v, y, z] :: cs⟩ := rfl
theorem js1 {x y z v : D} {vs : List (Option Val)} {cs : List Cell} : setIx (.d v) (.c 0) (.d (.int 1)) ⟨vs, .own [x, y, z] :: cs⟩ = .ok .nx ⟨vs, .own [x, v, z] :: cs⟩ := rfl
theorem js2 {x y z v : D} {vs : List (Option Val)} {cs : List Cell} : setIx (.d v) (.c 0) (.d (.int 2)) ⟨vs, .own [x, y, z] :: cs⟩ = .ok .nx ⟨vs, .own [x, y, v] :: cs⟩ := rfl
theorem setJ {fe : S → OE} {i : Int} {v : Val} {vs : List (Option Val)} {cs : List Cell} {st2 : S} (h1 : fe ⟨vs, cs⟩ = .ok v ⟨vs, cs⟩) (hv : vs[0]? = some (some (.c 0))) (h2 : setIx v (.c 0) (.d (.int i)) ⟨vs, cs⟩ = .ok .nx st2) : setIxS (varE 0) (cE (.int i)) fe ⟨vs, cs⟩ = .ok .nx st2 := by
  unfold setIxS
  rw [h1, bind_ok, e_var, hv, e_varK, bind_ok, e_c, bind_ok, h2]
theorem take_ok {n : Nat} {J : List D} (h : Jr (n + 1) J) {m : Int} (hm : 1 ≤ m) (hm2 : m < 1000000000000) :
    ∃ (r : Int) (J' : List D), d__law_take [.o J, .d (.int m)] = .ok (.d (.int r)) [.own J'] ∧ 0 ≤ r ∧ r < m ∧ Jr n J' := by
  obtain ⟨a, b, c, rfl, hb, hb2, hc, hc2⟩ := h
  have m0 : m ≠ 0 := by omega
  have ml : m.natAbs.log2 < 9000 := Nat.lt_trans (log_lt (n := 40) (by omega) (by decide)) (by decide)
  rw [d__law_take, e_run2, s_od]
  simp only [List.replicate, Nat.reduceSub]
  unfold m__law_take
  by_cases ha : 0 < a
  · have e0 : decide (0 < a) = true := decide_eq_true ha
    have i0 : ifS (bin2 gtV (bin2 ixV (varE 0) (cE (.int 0))) (cE (.int 0))) (seqS (setS 2 (bin2 modV (callE toIntV [(bin2 ixV (varE 0) (cE (.int 0)))]) (varE 1)))
  (seqS (setIxS (varE 0) (cE (.int 0)) (bin2 divV (bin2 ixV (varE 0) (cE (.int 0))) (varE 1)))
  (retS (varE 2)))) nextS ⟨[some (.c 0), some (.d (.int m)), none], [.own [.int a, .int b, .int c]]⟩ = .ok (.ret (.d (.int (a.fmod m)))) ⟨[some (.c 0), some (.d (.int m)), some (.d (.int (a.fmod m)))], [.own [.int (a.fdiv m), .int b, .int c]]⟩ := by
      rw [if_t (st1 := ⟨[some (.c 0), some (.d (.int m)), none], [.own [.int a, .int b, .int c]]⟩) (by simp only [e_par, e_parK, e_asg, toD_d, e_nameT, e_consT, e_nilT, Option.bind_some, n_nx, n_ct, n_bk, n_ret, e_for, e_itE, e_itA, e_meth, ty_s, e_run1, e_run2, e_run3, e_run4, s_d1, s_d2, s_od, s_oo, s_o1, s_odd, s_t1, s_td, ic_d, ic_o, ic_t, ic_nil, e_argD, e_argDD, List.replicate, Nat.reduceSub, List.length_cons, List.length_nil, bind_ok, bind_exc, bind_bad, e_seq, th_nx, th_ret, th_exc, th_bk, th_ct, e_set, e_setK, e_ret, e_retK, e_drop, e_dropK, e_retN, e_next, e_brk, e_cnt, e_if, e_ifE, e_and, e_or, e_not, onB_t, onB_f, onB_b, e_var, e_varK, e_c, e_bin, e_un, e_call, e_nil, e_cons, e_tup, e_tupK, e_lst, e_lstK, e_newLst, toDs_nil, toDs_d, Option.map_some, e_callV, e_callVT, ar_nil, ar_cons, ar_d, ar_t, e_argKT, af_d, af_new, af_exc, up_nil, up_cons, end_ret, end_exc, end_nx, out_d, v_add, v_sub, v_neg, v_lt, v_le, v_gt, v_ge, v_eqI, v_neI, v_gcd, v_abs, v_max, v_int, v_lenT, v_lenL, List.getElem?_cons_zero, List.getElem?_cons_succ, List.set_cons_zero, List.set_cons_succ, List.take_zero, List.take_nil, Bool.false_eq_true, if_false, if_true, eq_self, decide_true, decide_false, Bool.not_true, Bool.not_false, Nat.reduceAdd, Nat.reduceLeDiff, Nat.reduceLT, List.nil_append, List.cons_append, jc0, e0])]
      rw [seq_nx (st1 := ⟨[some (.c 0), some (.d (.int m)), some (.d (.int (a.fmod m)))], [.own [.int a, .int b, .int c]]⟩) (by simp only [e_par, e_parK, e_asg, toD_d, e_nameT, e_consT, e_nilT, Option.bind_some, n_nx, n_ct, n_bk, n_ret, e_for, e_itE, e_itA, e_meth, ty_s, e_run1, e_run2, e_run3, e_run4, s_d1, s_d2, s_od, s_oo, s_o1, s_odd, s_t1, s_td, ic_d, ic_o, ic_t, ic_nil, e_argD, e_argDD, List.replicate, Nat.reduceSub, List.length_cons, List.length_nil, bind_ok, bind_exc, bind_bad, e_seq, th_nx, th_ret, th_exc, th_bk, th_ct, e_set, e_setK, e_ret, e_retK, e_drop, e_dropK, e_retN, e_next, e_brk, e_cnt, e_if, e_ifE, e_and, e_or, e_not, onB_t, onB_f, onB_b, e_var, e_varK, e_c, e_bin, e_un, e_call, e_nil, e_cons, e_tup, e_tupK, e_lst, e_lstK, e_newLst, toDs_nil, toDs_d, Option.map_some, e_callV, e_callVT, ar_nil, ar_cons, ar_d, ar_t, e_argKT, af_d, af_new, af_exc, up_nil, up_cons, end_ret, end_exc, end_nx, out_d, v_add, v_sub, v_neg, v_lt, v_le, v_gt, v_ge, v_eqI, v_neI, v_gcd, v_abs, v_max, v_int, v_lenT, v_lenL, List.getElem?_cons_zero, List.getElem?_cons_succ, List.set_cons_zero, List.set_cons_succ, List.take_zero, List.take_nil, Bool.false_eq_true, if_false, if_true, eq_self, decide_true, decide_false, Bool.not_true, Bool.not_false, Nat.reduceAdd, Nat.reduceLeDiff, Nat.reduceLT, List.nil_append, List.cons_append, jc0]; rw [Sh.v_mod m0]; simp only [e_par, e_parK, e_asg, toD_d, e_nameT, e_consT, e_nilT, Option.bind_some, n_nx, n_ct, n_bk, n_ret, e_for, e_itE, e_itA, e_meth, ty_s, e_run1, e_run2, e_run3, e_run4, s_d1, s_d2, s_od, s_oo, s_o1, s_odd, s_t1, s_td, ic_d, ic_o, ic_t, ic_nil, e_argD, e_argDD, List.replicate, Nat.reduceSub, List.length_cons, List.length_nil, bind_ok, bind_exc, bind_bad, e_seq, th_nx, th_ret, th_exc, th_bk, th_ct, e_set, e_setK, e_ret, e_retK, e_drop, e_dropK, e_retN, e_next, e_brk, e_cnt, e_if, e_ifE, e_and, e_or, e_not, onB_t, onB_f, onB_b, e_var, e_varK, e_c, e_bin, e_un, e_call, e_nil, e_cons, e_tup, e_tupK, e_lst, e_lstK, e_newLst, toDs_nil, toDs_d, Option.map_some, e_callV, e_callVT, ar_nil, ar_cons, ar_d, ar_t, e_argKT, af_d, af_new, af_exc, up_nil, up_cons, end_ret, end_exc, end_nx, out_d, v_add, v_sub, v_neg, v_lt, v_le, v_gt, v_ge, v_eqI, v_neI, v_gcd, v_abs, v_max, v_int, v_lenT, v_lenL, List.getElem?_cons_zero, List.getElem?_cons_succ, List.set_cons_zero, List.set_cons_succ, List.take_zero, List.take_nil, Bool.false_eq_true, if_false, if_true, eq_self, decide_true, decide_false, Bool.not_true, Bool.not_false, Nat.reduceAdd, Nat.reduceLeDiff, Nat.reduceLT, List.nil_append, List.cons_append])]
      rw [seq_nx (setJ (i := 0) (v := .d (.int (a.fdiv m))) (by simp only [e_par, e_parK, e_asg, toD_d, e_nameT, e_consT, e_nilT, Option.bind_some, n_nx, n_ct, n_bk, n_ret, e_for, e_itE, e_itA, e_meth, ty_s, e_run1, e_run2, e_run3, e_run4, s_d1, s_d2, s_od, s_oo, s_o1, s_odd, s_t1, s_td, ic_d, ic_o, ic_t, ic_nil, e_argD, e_argDD, List.replicate, Nat.reduceSub, List.length_cons, List.length_nil, bind_ok, bind_exc, bind_bad, e_seq, th_nx, th_ret, th_exc, th_bk, th_ct, e_set, e_setK, e_ret, e_retK, e_drop, e_dropK, e_retN, e_next, e_brk, e_cnt, e_if, e_ifE, e_and, e_or, e_not, onB_t, onB_f, onB_b, e_var, e_varK, e_c, e_bin, e_un, e_call, e_nil, e_cons, e_tup, e_tupK, e_lst, e_lstK, e_newLst, toDs_nil, toDs_d, Option.map_some, e_callV, e_callVT, ar_nil, ar_cons, ar_d, ar_t, e_argKT, af_d, af_new, af_exc, up_nil, up_cons, end_ret, end_exc, end_nx, out_d, v_add, v_sub, v_neg, v_lt, v_le, v_gt, v_ge, v_eqI, v_neI, v_gcd, v_abs, v_max, v_int, v_lenT, v_lenL, List.getElem?_cons_zero, List.getElem?_cons_succ, List.set_cons_zero, List.set_cons_succ, List.take_zero, List.take_nil, Bool.false_eq_true, if_false, if_true, eq_self, decide_true, decide_false, Bool.not_true, Bool.not_false, Nat.reduceAdd, Nat.reduceLeDiff, Nat.reduceLT, List.nil_append, List.cons_append, jc0]; rw [Sh.v_div m0 ml]) rfl js0)]
      rfl
    refine ⟨a.fmod m, [.int (a.fdiv m), .int b, .int c], ?_, fmod_ge (by omega), fmod_lt (by omega), _, b, c, rfl, hb, hb2, hc, by omega⟩
    rw [e_seq, i0, th_ret]; rfl
  · have e0 : decide (0 < a) = false := decide_eq_false ha
    have i0 : ifS (bin2 gtV (bin2 ixV (varE 0) (cE (.int 0))) (cE (.int 0))) (seqS (setS 2 (bin2 modV (callE toIntV [(bin2 ixV (varE 0) (cE (.int 0)))]) (varE 1)))
  (seqS (setIxS (varE 0) (cE (.int 0)) (bin2 divV (bin2 ixV (varE 0) (cE (.int 0))) (varE 1)))
  (retS (varE 2)))) nextS ⟨[some (.c 0), some (.d (.int m)), none], [.own [.int a, .int b, .int c]]⟩ = .ok .nx ⟨[some (.c 0), some (.d (.int m)), none], [.own [.int a, .int b, .int c]]⟩ := by
      rw [if_f (st1 := ⟨[some (.c 0), some (.d (.int m)), none], [.own [.int a, .int b, .int c]]⟩) (by simp only [e_par, e_parK, e_asg, toD_d, e_nameT, e_consT, e_nilT, Option.bind_some, n_nx, n_ct, n_bk, n_ret, e_for, e_itE, e_itA, e_meth, ty_s, e_run1, e_run2, e_run3, e_run4, s_d1, s_d2, s_od, s_oo, s_o1, s_odd, s_t1, s_td, ic_d, ic_o, ic_t, ic_nil, e_argD, e_argDD, List.replicate, Nat.reduceSub, List.length_cons, List.length_nil, bind_ok, bind_exc, bind_bad, e_seq, th_nx, th_ret, th_exc, th_bk, th_ct, e_set, e_setK, e_ret, e_retK, e_drop, e_dropK, e_retN, e_next, e_brk, e_cnt, e_if, e_ifE, e_and, e_or, e_not, onB_t, onB_f, onB_b, e_var, e_varK, e_c, e_bin, e_un, e_call, e_nil, e_cons, e_tup, e_tupK, e_lst, e_lstK, e_newLst, toDs_nil, toDs_d, Option.map_some, e_callV, e_callVT, ar_nil, ar_cons, ar_d, ar_t, e_argKT, af_d, af_new, af_exc, up_nil, up_cons, end_ret, end_exc, end_nx, out_d, v_add, v_sub, v_neg, v_lt, v_le, v_gt, v_ge, v_eqI, v_neI, v_gcd, v_abs, v_max, v_int, v_lenT, v_lenL, List.getElem?_cons_zero, List.getElem?_cons_succ, List.set_cons_zero, List.set_cons_succ, List.take_zero, List.take_nil, Bool.false_eq_true, if_false, if_true, eq_self, decide_true, decide_false, Bool.not_true, Bool.not_false, Nat.reduceAdd, Nat.reduceLeDiff, Nat.reduceLT, List.nil_append, List.cons_append, jc0, e0])]
      rfl
    rw [seq_nx i0]
    rw [seq_nx (setJ (i := 2) (v := .d (.int (c + 1))) (by simp only [e_par, e_parK, e_asg, toD_d, e_nameT, e_consT, e_nilT, Option.bind_some, n_nx, n_ct, n_bk, n_ret, e_for, e_itE, e_itA, e_meth, ty_s, e_run1, e_run2, e_run3, e_run4, s_d1, s_d2, s_od, s_oo, s_o1, s_odd, s_t1, s_td, ic_d, ic_o, ic_t, ic_nil, e_argD, e_argDD, List.replicate, Nat.reduceSub, List.length_cons, List.length_nil, bind_ok, bind_exc, bind_bad, e_seq, th_nx, th_ret, th_exc, th_bk, th_ct, e_set, e_setK, e_ret, e_retK, e_drop, e_dropK, e_retN, e_next, e_brk, e_cnt, e_if, e_ifE, e_and, e_or, e_not, onB_t, onB_f, onB_b, e_var, e_varK, e_c, e_bin, e_un, e_call, e_nil, e_cons, e_tup, e_tupK, e_lst, e_lstK, e_newLst, toDs_nil, toDs_d, Option.map_some, e_callV, e_callVT, ar_nil, ar_cons, ar_d, ar_t, e_argKT, af_d, af_new, af_exc, up_nil, up_cons, end_ret, end_exc, end_nx, out_d, v_add, v_sub, v_neg, v_lt, v_le, v_gt, v_ge, v_eqI, v_neI, v_gcd, v_abs, v_max, v_int, v_lenT, v_lenL, List.getElem?_cons_zero, List.getElem?_cons_succ, List.set_cons_zero, List.set_cons_succ, List.take_zero, List.take_nil, Bool.false_eq_true, if_false, if_true, eq_self, decide_true, decide_false, Bool.not_true, Bool.not_false, Nat.reduceAdd, Nat.reduceLeDiff, Nat.reduceLT, List.nil_append, List.cons_append, jc2]) rfl js2)]
    have l1 : b.natAbs.log2 + (39373 : Int).natAbs.log2 < 1000000 := by
      have := log_lt (a := b) (n := 31) (by omega) (by decide)
      have := log_lt (a := 39373) (n := 31) (by decide) (by decide)
      omega
    have l2 : (7919 : Int).natAbs.log2 + (c + 1).natAbs.log2 < 1000000 := by
      have := log_lt (a := c + 1) (n := 50) (by omega) (by decide)
      have := log_lt (a := 7919) (n := 31) (by decide) (by decide)
      omega
    generalize hB : (b * 39373 + 7919 * (c + 1) + 7).fmod 2147483647 = B
    have B0 : 0 ≤ B := by rw [← hB]; exact fmod_ge (by decide)
    have B1 : B < 2147483647 := by rw [← hB]; exact fmod_lt (by decide)
    rw [seq_nx (setJ (i := 1) (v := .d (.int B)) (by
      simp only [e_par, e_parK, e_asg, toD_d, e_nameT, e_consT, e_nilT, Option.bind_some, n_nx, n_ct, n_bk, n_ret, e_for, e_itE, e_itA, e_meth, ty_s, e_run1, e_run2, e_run3, e_run4, s_d1, s_d2, s_od, s_oo, s_o1, s_odd, s_t1, s_td, ic_d, ic_o, ic_t, ic_nil, e_argD, e_argDD, List.replicate, Nat.reduceSub, List.length_cons, List.length_nil, bind_ok, bind_exc, bind_bad, e_seq, th_nx, th_ret, th_exc, th_bk, th_ct, e_set, e_setK, e_ret, e_retK, e_drop, e_dropK, e_retN, e_next, e_brk, e_cnt, e_if, e_ifE, e_and, e_or, e_not, onB_t, onB_f, onB_b, e_var, e_varK, e_c, e_bin, e_un, e_call, e_nil, e_cons, e_tup, e_tupK, e_lst, e_lstK, e_newLst, toDs_nil, toDs_d, Option.map_some, e_callV, e_callVT, ar_nil, ar_cons, ar_d, ar_t, e_argKT, af_d, af_new, af_exc, up_nil, up_cons, end_ret, end_exc, end_nx, out_d, v_add, v_sub, v_neg, v_lt, v_le, v_gt, v_ge, v_eqI, v_neI, v_gcd, v_abs, v_max, v_int, v_lenT, v_lenL, List.getElem?_cons_zero, List.getElem?_cons_succ, List.set_cons_zero, List.set_cons_succ, List.take_zero, List.take_nil, Bool.false_eq_true, if_false, if_true, eq_self, decide_true, decide_false, Bool.not_true, Bool.not_false, Nat.reduceAdd, Nat.reduceLeDiff, Nat.reduceLT, List.nil_append, List.cons_append, jc1, jc2]
      rw [Sh.v_mul l1]; simp only [e_par, e_parK, e_asg, toD_d, e_nameT, e_consT, e_nilT, Option.bind_some, n_nx, n_ct, n_bk, n_ret, e_for, e_itE, e_itA, e_meth, ty_s, e_run1, e_run2, e_run3, e_run4, s_d1, s_d2, s_od, s_oo, s_o1, s_odd, s_t1, s_td, ic_d, ic_o, ic_t, ic_nil, e_argD, e_argDD, List.replicate, Nat.reduceSub, List.length_cons, List.length_nil, bind_ok, bind_exc, bind_bad, e_seq, th_nx, th_ret, th_exc, th_bk, th_ct, e_set, e_setK, e_ret, e_retK, e_drop, e_dropK, e_retN, e_next, e_brk, e_cnt, e_if, e_ifE, e_and, e_or, e_not, onB_t, onB_f, onB_b, e_var, e_varK, e_c, e_bin, e_un, e_call, e_nil, e_cons, e_tup, e_tupK, e_lst, e_lstK, e_newLst, toDs_nil, toDs_d, Option.map_some, e_callV, e_callVT, ar_nil, ar_cons, ar_d, ar_t, e_argKT, af_d, af_new, af_exc, up_nil, up_cons, end_ret, end_exc, end_nx, out_d, v_add, v_sub, v_neg, v_lt, v_le, v_gt, v_ge, v_eqI, v_neI, v_gcd, v_abs, v_max, v_int, v_lenT, v_lenL, List.getElem?_cons_zero, List.getElem?_cons_succ, List.set_cons_zero, List.set_cons_succ, List.take_zero, List.take_nil, Bool.false_eq_true, if_false, if_true, eq_self, decide_true, decide_false, Bool.not_true, Bool.not_false, Nat.reduceAdd, Nat.reduceLeDiff, Nat.reduceLT, List.nil_append, List.cons_append, jc2]
      rw [Sh.v_mul l2]; simp only [e_par, e_parK, e_asg, toD_d, e_nameT, e_consT, e_nilT, Option.bind_some, n_nx, n_ct, n_bk, n_ret, e_for, e_itE, e_itA, e_meth, ty_s, e_run1, e_run2, e_run3, e_run4, s_d1, s_d2, s_od, s_oo, s_o1, s_odd, s_t1, s_td, ic_d, ic_o, ic_t, ic_nil, e_argD, e_argDD, List.replicate, Nat.reduceSub, List.length_cons, List.length_nil, bind_ok, bind_exc, bind_bad, e_seq, th_nx, th_ret, th_exc, th_bk, th_ct, e_set, e_setK, e_ret, e_retK, e_drop, e_dropK, e_retN, e_next, e_brk, e_cnt, e_if, e_ifE, e_and, e_or, e_not, onB_t, onB_f, onB_b, e_var, e_varK, e_c, e_bin, e_un, e_call, e_nil, e_cons, e_tup, e_tupK, e_lst, e_lstK, e_newLst, toDs_nil, toDs_d, Option.map_some, e_callV, e_callVT, ar_nil, ar_cons, ar_d, ar_t, e_argKT, af_d, af_new, af_exc, up_nil, up_cons, end_ret, end_exc, end_nx, out_d, v_add, v_sub, v_neg, v_lt, v_le, v_gt, v_ge, v_eqI, v_neI, v_gcd, v_abs, v_max, v_int, v_lenT, v_lenL, List.getElem?_cons_zero, List.getElem?_cons_succ, List.set_cons_zero, List.set_cons_succ, List.take_zero, List.take_nil, Bool.false_eq_true, if_false, if_true, eq_self, decide_true, decide_false, Bool.not_true, Bool.not_false, Nat.reduceAdd, Nat.reduceLeDiff, Nat.reduceLT, List.nil_append, List.cons_append]
      rw [Sh.v_mod (by decide), hB]) rfl js1)]
    have l3 : B.natAbs.log2 + B.natAbs.log2 < 1000000 := by
      have := log_lt (a := B) (n := 31) (by omega) (by decide)
      omega
    refine ⟨(((B * B).fmod 2147483629).fdiv 32).fmod m, [.int a, .int B, .int (c + 1)], ?_, fmod_ge (by omega), fmod_lt (by omega), a, B, c + 1, rfl, B0, B1, by omega, by omega⟩
    have i1 : bin2 modV (callE toIntV [(bin2 divV (bin2 modV (callE toIntV [(bin2 mulV (bin2 ixV (varE 0) (cE (.int 1))) (bin2 ixV (varE 0) (cE (.int 1))))]) (cE (.int 2147483629))) (cE (.int 32)))]) (varE 1) ⟨[some (.c 0), some (.d (.int m)), none], [.own [.int a, .int B, .int (c + 1)]]⟩ =
        .ok (.d (.int ((((B * B).fmod 2147483629).fdiv 32).fmod m))) ⟨[some (.c 0), some (.d (.int m)), none], [.own [.int a, .int B, .int (c + 1)]]⟩ := by
      simp only [e_par, e_parK, e_asg, toD_d, e_nameT, e_consT, e_nilT, Option.bind_some, n_nx, n_ct, n_bk, n_ret, e_for, e_itE, e_itA, e_meth, ty_s, e_run1, e_run2, e_run3, e_run4, s_d1, s_d2, s_od, s_oo, s_o1, s_odd, s_t1, s_td, ic_d, ic_o, ic_t, ic_nil, e_argD, e_argDD, List.replicate, Nat.reduceSub, List.length_cons, List.length_nil, bind_ok, bind_exc, bind_bad, e_seq, th_nx, th_ret, th_exc, th_bk, th_ct, e_set, e_setK, e_ret, e_retK, e_drop, e_dropK, e_retN, e_next, e_brk, e_cnt, e_if, e_ifE, e_and, e_or, e_not, onB_t, onB_f, onB_b, e_var, e_varK, e_c, e_bin, e_un, e_call, e_nil, e_cons, e_tup, e_tupK, e_lst, e_lstK, e_newLst, toDs_nil, toDs_d, Option.map_some, e_callV, e_callVT, ar_nil, ar_cons, ar_d, ar_t, e_argKT, af_d, af_new, af_exc, up_nil, up_cons, end_ret, end_exc, end_nx, out_d, v_add, v_sub, v_neg, v_lt, v_le, v_gt, v_ge, v_eqI, v_neI, v_gcd, v_abs, v_max, v_int, v_lenT, v_lenL, List.getElem?_cons_zero, List.getElem?_cons_succ, List.set_cons_zero, List.set_cons_succ, List.take_zero, List.take_nil, Bool.false_eq_true, if_false, if_true, eq_self, decide_true, decide_false, Bool.not_true, Bool.not_false, Nat.reduceAdd, Nat.reduceLeDiff, Nat.reduceLT, List.nil_append, List.cons_append, jc1]
      rw [Sh.v_mul l3]; simp only [e_par, e_parK, e_asg, toD_d, e_nameT, e_consT, e_nilT, Option.bind_some, n_nx, n_ct, n_bk, n_ret, e_for, e_itE, e_itA, e_meth, ty_s, e_run1, e_run2, e_run3, e_run4, s_d1, s_d2, s_od, s_oo, s_o1, s_odd, s_t1, s_td, ic_d, ic_o, ic_t, ic_nil, e_argD, e_argDD, List.replicate, Nat.reduceSub, List.length_cons, List.length_nil, bind_ok, bind_exc, bind_bad, e_seq, th_nx, th_ret, th_exc, th_bk, th_ct, e_set, e_setK, e_ret, e_retK, e_drop, e_dropK, e_retN, e_next, e_brk, e_cnt, e_if, e_ifE, e_and, e_or, e_not, onB_t, onB_f, onB_b, e_var, e_varK, e_c, e_bin, e_un, e_call, e_nil, e_cons, e_tup, e_tupK, e_lst, e_lstK, e_newLst, toDs_nil, toDs_d, Option.map_some, e_callV, e_callVT, ar_nil, ar_cons, ar_d, ar_t, e_argKT, af_d, af_new, af_exc, up_nil, up_cons, end_ret, end_exc, end_nx, out_d, v_add, v_sub, v_neg, v_lt, v_le, v_gt, v_ge, v_eqI, v_neI, v_gcd, v_abs, v_max, v_int, v_lenT, v_lenL, List.getElem?_cons_zero, List.getElem?_cons_succ, List.set_cons_zero, List.set_cons_succ, List.take_zero, List.take_nil, Bool.false_eq_true, if_false, if_true, eq_self, decide_true, decide_false, Bool.not_true, Bool.not_false, Nat.reduceAdd, Nat.reduceLeDiff, Nat.reduceLT, List.nil_append, List.cons_append]
      rw [Sh.v_mod (by decide)]; simp only [e_par, e_parK, e_asg, toD_d, e_nameT, e_consT, e_nilT, Option.bind_some, n_nx, n_ct, n_bk, n_ret, e_for, e_itE, e_itA, e_meth, ty_s, e_run1, e_run2, e_run3, e_run4, s_d1, s_d2, s_od, s_oo, s_o1, s_odd, s_t1, s_td, ic_d, ic_o, ic_t, ic_nil, e_argD, e_argDD, List.replicate, Nat.reduceSub, List.length_cons, List.length_nil, bind_ok, bind_exc, bind_bad, e_seq, th_nx, th_ret, th_exc, th_bk, th_ct, e_set, e_setK, e_ret, e_retK, e_drop, e_dropK, e_retN, e_next, e_brk, e_cnt, e_if, e_ifE, e_and, e_or, e_not, onB_t, onB_f, onB_b, e_var, e_varK, e_c, e_bin, e_un, e_call, e_nil, e_cons, e_tup, e_tupK, e_lst, e_lstK, e_newLst, toDs_nil, toDs_d, Option.map_some, e_callV, e_callVT, ar_nil, ar_cons, ar_d, ar_t, e_argKT, af_d, af_new, af_exc, up_nil, up_cons, end_ret, end_exc, end_nx, out_d, v_add, v_sub, v_neg, v_lt, v_le, v_gt, v_ge, v_eqI, v_neI, v_gcd, v_abs, v_max, v_int, v_lenT, v_lenL, List.getElem?_cons_zero, List.getElem?_cons_succ, List.set_cons_zero, List.set_cons_succ, List.take_zero, List.take_nil, Bool.false_eq_true, if_false, if_true, eq_self, decide_true, decide_false, Bool.not_true, Bool.not_false, Nat.reduceAdd, Nat.reduceLeDiff, Nat.reduceLT, List.nil_append, List.cons_append]
      rw [Sh.v_div (by decide) (by decide)]; simp only [e_par, e_parK, e_asg, toD_d, e_nameT, e_consT, e_nilT, Option.bind_some, n_nx, n_ct, n_bk, n_ret, e_for, e_itE, e_itA, e_meth, ty_s, e_run1, e_run2, e_run3, e_run4, s_d1, s_d2, s_od, s_oo, s_o1, s_odd, s_t1, s_td, ic_d, ic_o, ic_t, ic_nil, e_argD, e_argDD, List.replicate, Nat.reduceSub, List.length_cons, List.length_nil, bind_ok, bind_exc, bind_bad, e_seq, th_nx, th_ret, th_exc, th_bk, th_ct, e_set, e_setK, e_ret, e_retK, e_drop, e_dropK, e_retN, e_next, e_brk, e_cnt, e_if, e_ifE, e_and, e_or, e_not, onB_t, onB_f, onB_b, e_var, e_varK, e_c, e_bin, e_un, e_call, e_nil, e_cons, e_tup, e_tupK, e_lst, e_lstK, e_newLst, toDs_nil, toDs_d, Option.map_some, e_callV, e_callVT, ar_nil, ar_cons, ar_d, ar_t, e_argKT, af_d, af_new, af_exc, up_nil, up_cons, end_ret, end_exc, end_nx, out_d, v_add, v_sub, v_neg, v_lt, v_le, v_gt, v_ge, v_eqI, v_neI, v_gcd, v_abs, v_max, v_int, v_lenT, v_lenL, List.getElem?_cons_zero, List.getElem?_cons_succ, List.set_cons_zero, List.set_cons_succ, List.take_zero, List.take_nil, Bool.false_eq_true, if_false, if_true, eq_self, decide_true, decide_false, Bool.not_true, Bool.not_false, Nat.reduceAdd, Nat.reduceLeDiff, Nat.reduceLT, List.nil_append, List.cons_append]
      rw [Sh.v_mod m0]
    rw [e_ret, i1, bind_ok]
    rfl
theorem take_c {n i j : Nat} {J : List D} {m : Int} {fm : S → OE} {vs : List (Option Val)} {cs cs2 : List Cell} (hv : vs[i]? = some (some (.c j))) (hm0 : fm ⟨vs, cs⟩ = .ok (.d (.int m)) ⟨vs, cs2⟩) (hc : cs2[j]? = some (.own J)) (h : Jr (n + 1) J) (hm : 1 ≤ m) (hm2 : m < 1000000000000) :
    ∃ (r : Int) (J' : List D), callE (callV d__law_take) [varE i, fm] ⟨vs, cs⟩ = .ok (.d (.int r)) ⟨vs, cs2.set j (.own J')⟩ ∧ 0 ≤ r ∧ r < m ∧ Jr n J' := by
  obtain ⟨r, J', h1, h2, h3, h4⟩ := take_ok h hm hm2
  refine ⟨r, J', ?_, h2, h3, h4⟩
  have c2 : consA (.c j) ⟨vs, cs2⟩ (some ([.d (.int m)], [])) = some ([.o J, .d (.int m)], [j]) := by
    unfold consA; simp only [hc]; rfl
  rw [e_call, e_cons, e_var, hv, e_varK, bind_ok, e_cons, hm0, bind_ok, e_nil, bind_ok, bind_ok, bind_ok, e_callV, ar_cons, ar_cons, ar_nil, ar_d, c2, e_argK rfl, h1, af_d, up_cons, up_nil]
theorem one_ok {n : Nat} {J L : List D} (h : Jr (n + 1) J) (hL : 1 ≤ L.length) (hL2 : L.length ≤ 1000000) :
    ∃ (y : D) (J' : List D), d__law_one [.o J, .o L] = .ok (.d y) [.own J', .own L] ∧ y ∈ L ∧ Jr n J' := by
  have ln : callE lenV [varE 1] ⟨[some (.c 0), some (.c 1)], [.own J, .own L]⟩ = .ok (.d (.int L.length)) ⟨[some (.c 0), some (.c 1)], [.own J, .own L]⟩ := rfl
  obtain ⟨r, J', h1, h2, h3, h4⟩ := take_c (i := 0) (j := 0) (vs := [some (.c 0), some (.c 1)]) (cs := [.own J, .own L]) rfl ln rfl h (by omega) (by omega)
  obtain ⟨t, rfl⟩ := Int.eq_ofNat_of_zero_le h2
  have hr2 : t < L.length := by omega
  refine ⟨L[t], J', ?_, List.getElem_mem hr2, h4⟩
  rw [d__law_one, e_run2, s_oo]
  unfold m__law_one
  have i1 : bin2 ixV (varE 1) (callE (callV d__law_take) [(varE 0), (callE lenV [(varE 1)])]) ⟨[some (.c 0), some (.c 1)], [.own J, .own L]⟩ = .ok (.d L[t]) ⟨[some (.c 0), some (.c 1)], [.own J', .own L]⟩ := by
    rw [e_bin, e_var]
    simp only [List.getElem?_cons_succ, List.getElem?_cons_zero, e_varK, bind_ok]
    rw [h1, bind_ok]
    exact Sh.v_ixC (cl := .own L) rfl (atI_nat hr2)
  rw [e_ret]
  show endD _ ((bin2 ixV (varE 1) (callE (callV d__law_take) [(varE 0), (callE lenV [(varE 1)])]) ⟨[some (.c 0), some (.c 1)], [.own J, .own L]⟩).bind retK) = _
  rw [i1, bind_ok]
  rfl
theorem one_c {n i j k : Nat} {J L : List D} {fL : S → OE} {vs : List (Option Val)} {cs cs2 : List Cell} (hv : vs[i]? = some (some (.c j))) (hf : fL ⟨vs, cs⟩ = .ok (.c k) ⟨vs, cs2⟩) (hj : cs2[j]? = some (.own J)) (hk : cs2[k]? = some (.own L)) (jk : j ≠ k)
    (h : Jr (n + 1) J) (hL : 1 ≤ L.length) (hL2 : L.length ≤ 1000000) :
    ∃ (y : D) (J' : List D), callE (callV d__law_one) [varE i, fL] ⟨vs, cs⟩ = .ok (.d y) ⟨vs, (cs2.set j (.own J')).set k (.own L)⟩ ∧ y ∈ L ∧ Jr n J' := by
  obtain ⟨y, J', h1, h2, h3⟩ := one_ok h hL hL2
  refine ⟨y, J', ?_, h2, h3⟩
  have c1 : consA (.c k) ⟨vs, cs2⟩ (some ([], [])) = some ([.o L], [k]) := by
    unfold consA; simp only [hk]; rfl
  have c2 : consA (.c j) ⟨vs, cs2⟩ (some ([.o L], [k])) = some ([.o J, .o L], [j, k]) := by
    have : ¬ j ∈ [k] := by simpa using jk
    unfold consA; simp only [hj, this]; rfl
  rw [e_call, e_cons, e_var, hv, e_varK, bind_ok, e_cons, hf, bind_ok, e_nil, bind_ok, bind_ok, bind_ok, e_callV, ar_cons, ar_cons, ar_nil, c1, c2, e_argK rfl, h1, af_d, up_cons, up_cons, up_nil]
end Law
end
section
set_option Elab.async false
set_option linter.all false
set_option maxRecDepth 100000
set_option maxHeartbeats 4000000
set_option exponentiation.threshold 5000
namespace Law
open PySem Sh
def pBody : S → OS := (seqS (setS 4 (callE toIntV [(callE maxV [(bin2 ixV (varE 0) (varE 3)), (bin2 subV (un1 negV (cE (.int 1))) (bin2 ixV (varE 0) (varE 3)))])]))
  (seqS (setS 2 (bin2 modV (callE toIntV [(bin2 addV (bin2 addV (bin2 mulV (varE 2) (cE (.int 48271))) (bin2 modV (varE 4) (cE (.int 2147483629)))) (cE (.int 11)))]) (cE (.int 2147483647))))
  (setS 1 (ifE (andE (bin2 geV (varE 4) (bin2 powV (cE (.int 10)) (cE (.int 12)))) (bin2 ltV (varE 1) (bin2 powV (cE (.int 10)) (cE (.int 60))))) (callE toIntV [(bin2 addV (bin2 mulV (varE 1) (bin2 powV (cE (.int 10)) (cE (.int 60)))) (bin2 modV (varE 4) (bin2 powV (cE (.int 10)) (cE (.int 60)))))]) (varE 1)))))
theorem pw12 (st : S) : powV (.d (.int 10)) (.d (.int 12)) st = .ok (.d (.int 1000000000000)) st := rfl
theorem pw60 (st : S) : powV (.d (.int 10)) (.d (.int 60)) st = .ok (.d (.int 1000000000000000000000000000000000000000000000000000000000000)) st := rfl
theorem p_body {y0 : D} {j z a b : Int} {s4 : Option Val} (hz : ∀ st, ixV (.d y0) (.d (.int j)) st = .ok (.d (.int z)) st) (ha : 0 ≤ a) (hb : 0 ≤ b) (hb2 : b < 2147483647) :
    ∃ a' b' s4', pBody ⟨[some (.d y0), some (.d (.int a)), some (.d (.int b)), some (.d (.int j)), s4], []⟩ = .ok .nx ⟨[some (.d y0), some (.d (.int a')), some (.d (.int b')), some (.d (.int j)), s4'], []⟩ ∧ 0 ≤ a' ∧ 0 ≤ b' ∧ b' < 2147483647 := by
  generalize hc : (if -1 - z > z then -1 - z else z) = c
  have i1 : setS 4 (callE toIntV [(callE maxV [(bin2 ixV (varE 0) (varE 3)), (bin2 subV (un1 negV (cE (.int 1))) (bin2 ixV (varE 0) (varE 3)))])]) ⟨[some (.d y0), some (.d (.int a)), some (.d (.int b)), some (.d (.int j)), s4], []⟩ = .ok .nx ⟨[some (.d y0), some (.d (.int a)), some (.d (.int b)), some (.d (.int j)), some (.d (.int c))], []⟩ := by
    simp only [e_par, e_parK, e_asg, toD_d, e_nameT, e_consT, e_nilT, Option.bind_some, n_nx, n_ct, n_bk, n_ret, e_for, e_itE, e_itA, e_meth, ty_s, e_run1, e_run2, e_run3, e_run4, s_d1, s_d2, s_od, s_oo, s_o1, s_odd, s_t1, s_td, ic_d, ic_o, ic_t, ic_nil, e_argD, e_argDD, List.replicate, Nat.reduceSub, List.length_cons, List.length_nil, bind_ok, bind_exc, bind_bad, e_seq, th_nx, th_ret, th_exc, th_bk, th_ct, e_set, e_setK, e_ret, e_retK, e_drop, e_dropK, e_retN, e_next, e_brk, e_cnt, e_if, e_ifE, e_and, e_or, e_not, onB_t, onB_f, onB_b, e_var, e_varK, e_c, e_bin, e_un, e_call, e_nil, e_cons, e_tup, e_tupK, e_lst, e_lstK, e_newLst, toDs_nil, toDs_d, Option.map_some, e_callV, e_callVT, ar_nil, ar_cons, ar_d, ar_t, e_argKT, af_d, af_new, af_exc, up_nil, up_cons, end_ret, end_exc, end_nx, out_d, v_add, v_sub, v_neg, v_lt, v_le, v_gt, v_ge, v_eqI, v_neI, v_gcd, v_abs, v_max, v_int, v_lenT, v_lenL, List.getElem?_cons_zero, List.getElem?_cons_succ, List.set_cons_zero, List.set_cons_succ, List.take_zero, List.take_nil, Bool.false_eq_true, if_false, if_true, eq_self, decide_true, decide_false, Bool.not_true, Bool.not_false, Nat.reduceAdd, Nat.reduceLeDiff, Nat.reduceLT, List.nil_append, List.cons_append, hz]
    rw [← hc]
  have l1 : b.natAbs.log2 + (48271 : Int).natAbs.log2 < 1000000 := by
    have := log_lt (a := b) (n := 31) (by omega) (by decide)
    have := log_lt (a := 48271) (n := 31) (by decide) (by decide)
    omega
  generalize hB : (b * 48271 + c.fmod 2147483629 + 11).fmod 2147483647 = B
  have B0 : 0 ≤ B := by rw [← hB]; exact fmod_ge (by decide)
  have B1 : B < 2147483647 := by rw [← hB]; exact fmod_lt (by decide)
  have i2 : setS 2 (bin2 modV (callE toIntV [(bin2 addV (bin2 addV (bin2 mulV (varE 2) (cE (.int 48271))) (bin2 modV (varE 4) (cE (.int 2147483629)))) (cE (.int 11)))]) (cE (.int 2147483647))) ⟨[some (.d y0), some (.d (.int a)), some (.d (.int b)), some (.d (.int j)), some (.d (.int c))], []⟩ = .ok .nx ⟨[some (.d y0), some (.d (.int a)), some (.d (.int B)), some (.d (.int j)), some (.d (.int c))], []⟩ := by
    simp only [e_par, e_parK, e_asg, toD_d, e_nameT, e_consT, e_nilT, Option.bind_some, n_nx, n_ct, n_bk, n_ret, e_for, e_itE, e_itA, e_meth, ty_s, e_run1, e_run2, e_run3, e_run4, s_d1, s_d2, s_od, s_oo, s_o1, s_odd, s_t1, s_td, ic_d, ic_o, ic_t, ic_nil, e_argD, e_argDD, List.replicate, Nat.reduceSub, List.length_cons, List.length_nil, bind_ok, bind_exc, bind_bad, e_seq, th_nx, th_ret, th_exc, th_bk, th_ct, e_set, e_setK, e_ret, e_retK, e_drop, e_dropK, e_retN, e_next, e_brk, e_cnt, e_if, e_ifE, e_and, e_or, e_not, onB_t, onB_f, onB_b, e_var, e_varK, e_c, e_bin, e_un, e_call, e_nil, e_cons, e_tup, e_tupK, e_lst, e_lstK, e_newLst, toDs_nil, toDs_d, Option.map_some, e_callV, e_callVT, ar_nil, ar_cons, ar_d, ar_t, e_argKT, af_d, af_new, af_exc, up_nil, up_cons, end_ret, end_exc, end_nx, out_d, v_add, v_sub, v_neg, v_lt, v_le, v_gt, v_ge, v_eqI, v_neI, v_gcd, v_abs, v_max, v_int, v_lenT, v_lenL, List.getElem?_cons_zero, List.getElem?_cons_succ, List.set_cons_zero, List.set_cons_succ, List.take_zero, List.take_nil, Bool.false_eq_true, if_false, if_true, eq_self, decide_true, decide_false, Bool.not_true, Bool.not_false, Nat.reduceAdd, Nat.reduceLeDiff, Nat.reduceLT, List.nil_append, List.cons_append]
    rw [Sh.v_mul l1]; simp only [e_par, e_parK, e_asg, toD_d, e_nameT, e_consT, e_nilT, Option.bind_some, n_nx, n_ct, n_bk, n_ret, e_for, e_itE, e_itA, e_meth, ty_s, e_run1, e_run2, e_run3, e_run4, s_d1, s_d2, s_od, s_oo, s_o1, s_odd, s_t1, s_td, ic_d, ic_o, ic_t, ic_nil, e_argD, e_argDD, List.replicate, Nat.reduceSub, List.length_cons, List.length_nil, bind_ok, bind_exc, bind_bad, e_seq, th_nx, th_ret, th_exc, th_bk, th_ct, e_set, e_setK, e_ret, e_retK, e_drop, e_dropK, e_retN, e_next, e_brk, e_cnt, e_if, e_ifE, e_and, e_or, e_not, onB_t, onB_f, onB_b, e_var, e_varK, e_c, e_bin, e_un, e_call, e_nil, e_cons, e_tup, e_tupK, e_lst, e_lstK, e_newLst, toDs_nil, toDs_d, Option.map_some, e_callV, e_callVT, ar_nil, ar_cons, ar_d, ar_t, e_argKT, af_d, af_new, af_exc, up_nil, up_cons, end_ret, end_exc, end_nx, out_d, v_add, v_sub, v_neg, v_lt, v_le, v_gt, v_ge, v_eqI, v_neI, v_gcd, v_abs, v_max, v_int, v_lenT, v_lenL, List.getElem?_cons_zero, List.getElem?_cons_succ, List.set_cons_zero, List.set_cons_succ, List.take_zero, List.take_nil, Bool.false_eq_true, if_false, if_true, eq_self, decide_true, decide_false, Bool.not_true, Bool.not_false, Nat.reduceAdd, Nat.reduceLeDiff, Nat.reduceLT, List.nil_append, List.cons_append]
    rw [Sh.v_mod (by decide)]; simp only [e_par, e_parK, e_asg, toD_d, e_nameT, e_consT, e_nilT, Option.bind_some, n_nx, n_ct, n_bk, n_ret, e_for, e_itE, e_itA, e_meth, ty_s, e_run1, e_run2, e_run3, e_run4, s_d1, s_d2, s_od, s_oo, s_o1, s_odd, s_t1, s_td, ic_d, ic_o, ic_t, ic_nil, e_argD, e_argDD, List.replicate, Nat.reduceSub, List.length_cons, List.length_nil, bind_ok, bind_exc, bind_bad, e_seq, th_nx, th_ret, th_exc, th_bk, th_ct, e_set, e_setK, e_ret, e_retK, e_drop, e_dropK, e_retN, e_next, e_brk, e_cnt, e_if, e_ifE, e_and, e_or, e_not, onB_t, onB_f, onB_b, e_var, e_varK, e_c, e_bin, e_un, e_call, e_nil, e_cons, e_tup, e_tupK, e_lst, e_lstK, e_newLst, toDs_nil, toDs_d, Option.map_some, e_callV, e_callVT, ar_nil, ar_cons, ar_d, ar_t, e_argKT, af_d, af_new, af_exc, up_nil, up_cons, end_ret, end_exc, end_nx, out_d, v_add, v_sub, v_neg, v_lt, v_le, v_gt, v_ge, v_eqI, v_neI, v_gcd, v_abs, v_max, v_int, v_lenT, v_lenL, List.getElem?_cons_zero, List.getElem?_cons_succ, List.set_cons_zero, List.set_cons_succ, List.take_zero, List.take_nil, Bool.false_eq_true, if_false, if_true, eq_self, decide_true, decide_false, Bool.not_true, Bool.not_false, Nat.reduceAdd, Nat.reduceLeDiff, Nat.reduceLT, List.nil_append, List.cons_append]
    rw [Sh.v_mod (by decide), hB]; simp only [e_par, e_parK, e_asg, toD_d, e_nameT, e_consT, e_nilT, Option.bind_some, n_nx, n_ct, n_bk, n_ret, e_for, e_itE, e_itA, e_meth, ty_s, e_run1, e_run2, e_run3, e_run4, s_d1, s_d2, s_od, s_oo, s_o1, s_odd, s_t1, s_td, ic_d, ic_o, ic_t, ic_nil, e_argD, e_argDD, List.replicate, Nat.reduceSub, List.length_cons, List.length_nil, bind_ok, bind_exc, bind_bad, e_seq, th_nx, th_ret, th_exc, th_bk, th_ct, e_set, e_setK, e_ret, e_retK, e_drop, e_dropK, e_retN, e_next, e_brk, e_cnt, e_if, e_ifE, e_and, e_or, e_not, onB_t, onB_f, onB_b, e_var, e_varK, e_c, e_bin, e_un, e_call, e_nil, e_cons, e_tup, e_tupK, e_lst, e_lstK, e_newLst, toDs_nil, toDs_d, Option.map_some, e_callV, e_callVT, ar_nil, ar_cons, ar_d, ar_t, e_argKT, af_d, af_new, af_exc, up_nil, up_cons, end_ret, end_exc, end_nx, out_d, v_add, v_sub, v_neg, v_lt, v_le, v_gt, v_ge, v_eqI, v_neI, v_gcd, v_abs, v_max, v_int, v_lenT, v_lenL, List.getElem?_cons_zero, List.getElem?_cons_succ, List.set_cons_zero, List.set_cons_succ, List.take_zero, List.take_nil, Bool.false_eq_true, if_false, if_true, eq_self, decide_true, decide_false, Bool.not_true, Bool.not_false, Nat.reduceAdd, Nat.reduceLeDiff, Nat.reduceLT, List.nil_append, List.cons_append]
  generalize hE : (1000000000000000000000000000000000000000000000000000000000000 : Int) = E
  have E0 : 0 < E := by rw [← hE]; decide
  have E1 : E.natAbs.log2 < 200 := by rw [← hE]; exact log_lt (by decide) (by decide)
  have pE : ∀ st, powV (.d (.int 10)) (.d (.int 60)) st = .ok (.d (.int E)) st := fun st => by rw [← hE]; exact pw60 st
  obtain ⟨a', h1, h2⟩ : ∃ a', setS 1 (ifE (andE (bin2 geV (varE 4) (bin2 powV (cE (.int 10)) (cE (.int 12)))) (bin2 ltV (varE 1) (bin2 powV (cE (.int 10)) (cE (.int 60))))) (callE toIntV [(bin2 addV (bin2 mulV (varE 1) (bin2 powV (cE (.int 10)) (cE (.int 60)))) (bin2 modV (varE 4) (bin2 powV (cE (.int 10)) (cE (.int 60)))))]) (varE 1)) ⟨[some (.d y0), some (.d (.int a)), some (.d (.int B)), some (.d (.int j)), some (.d (.int c))], []⟩ = .ok .nx ⟨[some (.d y0), some (.d (.int a')), some (.d (.int B)), some (.d (.int j)), some (.d (.int c))], []⟩ ∧ 0 ≤ a' := by
    by_cases c1 : (1000000000000 : Int) ≤ c
    · by_cases c2 : a < E
      · have la : a.natAbs.log2 < 200 := by
          apply log_lt
          · have : a.natAbs < E.natAbs := by omega
            have e3 : E.natAbs < 2 ^ 200 := by rw [← hE]; decide
            omega
          · decide
        have lm : a.natAbs.log2 + E.natAbs.log2 < 1000000 := by omega
        refine ⟨a * E + c.fmod E, ?_, ?_⟩
        · simp only [e_par, e_parK, e_asg, toD_d, e_nameT, e_consT, e_nilT, Option.bind_some, n_nx, n_ct, n_bk, n_ret, e_for, e_itE, e_itA, e_meth, ty_s, e_run1, e_run2, e_run3, e_run4, s_d1, s_d2, s_od, s_oo, s_o1, s_odd, s_t1, s_td, ic_d, ic_o, ic_t, ic_nil, e_argD, e_argDD, List.replicate, Nat.reduceSub, List.length_cons, List.length_nil, bind_ok, bind_exc, bind_bad, e_seq, th_nx, th_ret, th_exc, th_bk, th_ct, e_set, e_setK, e_ret, e_retK, e_drop, e_dropK, e_retN, e_next, e_brk, e_cnt, e_if, e_ifE, e_and, e_or, e_not, onB_t, onB_f, onB_b, e_var, e_varK, e_c, e_bin, e_un, e_call, e_nil, e_cons, e_tup, e_tupK, e_lst, e_lstK, e_newLst, toDs_nil, toDs_d, Option.map_some, e_callV, e_callVT, ar_nil, ar_cons, ar_d, ar_t, e_argKT, af_d, af_new, af_exc, up_nil, up_cons, end_ret, end_exc, end_nx, out_d, v_add, v_sub, v_neg, v_lt, v_le, v_gt, v_ge, v_eqI, v_neI, v_gcd, v_abs, v_max, v_int, v_lenT, v_lenL, List.getElem?_cons_zero, List.getElem?_cons_succ, List.set_cons_zero, List.set_cons_succ, List.take_zero, List.take_nil, Bool.false_eq_true, if_false, if_true, eq_self, decide_true, decide_false, Bool.not_true, Bool.not_false, Nat.reduceAdd, Nat.reduceLeDiff, Nat.reduceLT, List.nil_append, List.cons_append, pw12, pE, c1, c2]
          rw [Sh.v_mul lm]; simp only [e_par, e_parK, e_asg, toD_d, e_nameT, e_consT, e_nilT, Option.bind_some, n_nx, n_ct, n_bk, n_ret, e_for, e_itE, e_itA, e_meth, ty_s, e_run1, e_run2, e_run3, e_run4, s_d1, s_d2, s_od, s_oo, s_o1, s_odd, s_t1, s_td, ic_d, ic_o, ic_t, ic_nil, e_argD, e_argDD, List.replicate, Nat.reduceSub, List.length_cons, List.length_nil, bind_ok, bind_exc, bind_bad, e_seq, th_nx, th_ret, th_exc, th_bk, th_ct, e_set, e_setK, e_ret, e_retK, e_drop, e_dropK, e_retN, e_next, e_brk, e_cnt, e_if, e_ifE, e_and, e_or, e_not, onB_t, onB_f, onB_b, e_var, e_varK, e_c, e_bin, e_un, e_call, e_nil, e_cons, e_tup, e_tupK, e_lst, e_lstK, e_newLst, toDs_nil, toDs_d, Option.map_some, e_callV, e_callVT, ar_nil, ar_cons, ar_d, ar_t, e_argKT, af_d, af_new, af_exc, up_nil, up_cons, end_ret, end_exc, end_nx, out_d, v_add, v_sub, v_neg, v_lt, v_le, v_gt, v_ge, v_eqI, v_neI, v_gcd, v_abs, v_max, v_int, v_lenT, v_lenL, List.getElem?_cons_zero, List.getElem?_cons_succ, List.set_cons_zero, List.set_cons_succ, List.take_zero, List.take_nil, Bool.false_eq_true, if_false, if_true, eq_self, decide_true, decide_false, Bool.not_true, Bool.not_false, Nat.reduceAdd, Nat.reduceLeDiff, Nat.reduceLT, List.nil_append, List.cons_append, pE]
          rw [Sh.v_mod (by omega)]; simp only [e_par, e_parK, e_asg, toD_d, e_nameT, e_consT, e_nilT, Option.bind_some, n_nx, n_ct, n_bk, n_ret, e_for, e_itE, e_itA, e_meth, ty_s, e_run1, e_run2, e_run3, e_run4, s_d1, s_d2, s_od, s_oo, s_o1, s_odd, s_t1, s_td, ic_d, ic_o, ic_t, ic_nil, e_argD, e_argDD, List.replicate, Nat.reduceSub, List.length_cons, List.length_nil, bind_ok, bind_exc, bind_bad, e_seq, th_nx, th_ret, th_exc, th_bk, th_ct, e_set, e_setK, e_ret, e_retK, e_drop, e_dropK, e_retN, e_next, e_brk, e_cnt, e_if, e_ifE, e_and, e_or, e_not, onB_t, onB_f, onB_b, e_var, e_varK, e_c, e_bin, e_un, e_call, e_nil, e_cons, e_tup, e_tupK, e_lst, e_lstK, e_newLst, toDs_nil, toDs_d, Option.map_some, e_callV, e_callVT, ar_nil, ar_cons, ar_d, ar_t, e_argKT, af_d, af_new, af_exc, up_nil, up_cons, end_ret, end_exc, end_nx, out_d, v_add, v_sub, v_neg, v_lt, v_le, v_gt, v_ge, v_eqI, v_neI, v_gcd, v_abs, v_max, v_int, v_lenT, v_lenL, List.getElem?_cons_zero, List.getElem?_cons_succ, List.set_cons_zero, List.set_cons_succ, List.take_zero, List.take_nil, Bool.false_eq_true, if_false, if_true, eq_self, decide_true, decide_false, Bool.not_true, Bool.not_false, Nat.reduceAdd, Nat.reduceLeDiff, Nat.reduceLT, List.nil_append, List.cons_append]
        · have := fmod_ge (a := c) E0
          have := Int.mul_nonneg ha (Int.le_of_lt E0)
          omega
      · exact ⟨a, by simp only [e_par, e_parK, e_asg, toD_d, e_nameT, e_consT, e_nilT, Option.bind_some, n_nx, n_ct, n_bk, n_ret, e_for, e_itE, e_itA, e_meth, ty_s, e_run1, e_run2, e_run3, e_run4, s_d1, s_d2, s_od, s_oo, s_o1, s_odd, s_t1, s_td, ic_d, ic_o, ic_t, ic_nil, e_argD, e_argDD, List.replicate, Nat.reduceSub, List.length_cons, List.length_nil, bind_ok, bind_exc, bind_bad, e_seq, th_nx, th_ret, th_exc, th_bk, th_ct, e_set, e_setK, e_ret, e_retK, e_drop, e_dropK, e_retN, e_next, e_brk, e_cnt, e_if, e_ifE, e_and, e_or, e_not, onB_t, onB_f, onB_b, e_var, e_varK, e_c, e_bin, e_un, e_call, e_nil, e_cons, e_tup, e_tupK, e_lst, e_lstK, e_newLst, toDs_nil, toDs_d, Option.map_some, e_callV, e_callVT, ar_nil, ar_cons, ar_d, ar_t, e_argKT, af_d, af_new, af_exc, up_nil, up_cons, end_ret, end_exc, end_nx, out_d, v_add, v_sub, v_neg, v_lt, v_le, v_gt, v_ge, v_eqI, v_neI, v_gcd, v_abs, v_max, v_int, v_lenT, v_lenL, List.getElem?_cons_zero, List.getElem?_cons_succ, List.set_cons_zero, List.set_cons_succ, List.take_zero, List.take_nil, Bool.false_eq_true, if_false, if_true, eq_self, decide_true, decide_false, Bool.not_true, Bool.not_false, Nat.reduceAdd, Nat.reduceLeDiff, Nat.reduceLT, List.nil_append, List.cons_append, pw12, pE, c1, c2], ha⟩
    · exact ⟨a, by simp only [e_par, e_parK, e_asg, toD_d, e_nameT, e_consT, e_nilT, Option.bind_some, n_nx, n_ct, n_bk, n_ret, e_for, e_itE, e_itA, e_meth, ty_s, e_run1, e_run2, e_run3, e_run4, s_d1, s_d2, s_od, s_oo, s_o1, s_odd, s_t1, s_td, ic_d, ic_o, ic_t, ic_nil, e_argD, e_argDD, List.replicate, Nat.reduceSub, List.length_cons, List.length_nil, bind_ok, bind_exc, bind_bad, e_seq, th_nx, th_ret, th_exc, th_bk, th_ct, e_set, e_setK, e_ret, e_retK, e_drop, e_dropK, e_retN, e_next, e_brk, e_cnt, e_if, e_ifE, e_and, e_or, e_not, onB_t, onB_f, onB_b, e_var, e_varK, e_c, e_bin, e_un, e_call, e_nil, e_cons, e_tup, e_tupK, e_lst, e_lstK, e_newLst, toDs_nil, toDs_d, Option.map_some, e_callV, e_callVT, ar_nil, ar_cons, ar_d, ar_t, e_argKT, af_d, af_new, af_exc, up_nil, up_cons, end_ret, end_exc, end_nx, out_d, v_add, v_sub, v_neg, v_lt, v_le, v_gt, v_ge, v_eqI, v_neI, v_gcd, v_abs, v_max, v_int, v_lenT, v_lenL, List.getElem?_cons_zero, List.getElem?_cons_succ, List.set_cons_zero, List.set_cons_succ, List.take_zero, List.take_nil, Bool.false_eq_true, if_false, if_true, eq_self, decide_true, decide_false, Bool.not_true, Bool.not_false, Nat.reduceAdd, Nat.reduceLeDiff, Nat.reduceLT, List.nil_append, List.cons_append, pw12, c1], ha⟩
  refine ⟨a', B, some (.d (.int c)), ?_, h2, B0, B1⟩
  unfold pBody
  rw [seq_nx i1, seq_nx i2, h1]
theorem p_loop {y0 : D} {all : List D} : ∀ (its : List D) (a b : Int) (s3 s4 : Option Val), (∀ y ∈ its, ∃ j z : Int, y = .int j ∧ ∀ st, ixV (.d y0) (.d (.int j)) st = .ok (.d (.int z)) st) → 0 ≤ a → 0 ≤ b → b < 2147483647 →
    ∃ a' b' s3' s4', forL (nameT 3) pBody none all its ⟨[some (.d y0), some (.d (.int a)), some (.d (.int b)), s3, s4], []⟩ = .ok .nx ⟨[some (.d y0), some (.d (.int a')), some (.d (.int b')), s3', s4'], []⟩ ∧ 0 ≤ a' ∧ 0 ≤ b' ∧ b' < 2147483647
  | [], a, b, s3, s4, _, ha, hb, hb2 => ⟨a, b, s3, s4, f_nil gd_none, ha, hb, hb2⟩
  | y :: its, a, b, s3, s4, hi, ha, hb, hb2 => by
    obtain ⟨j, z, rfl, hz⟩ := hi _ List.mem_cons_self
    obtain ⟨a1, b1, s41, e1, e2, e3, e4⟩ := p_body (s4 := s4) hz ha hb hb2
    obtain ⟨a', b', s3', s4', g1, g2⟩ := p_loop (y0 := y0) (all := all) its a1 b1 (some (.d (.int j))) s41 (fun y hy => hi y (List.mem_cons_of_mem _ hy)) e2 e3 e4
    refine ⟨a', b', s3', s4', ?_, g2⟩
    rw [f_cons (st1 := ⟨[some (.d y0), some (.d (.int a)), some (.d (.int b)), some (.d (.int j)), s4], []⟩) gd_none e_nameT, e1, n_nx, g1]
theorem pool_ok {ns : List Int} (hn : ns.length ≤ 63) {y : D} (hy : y = .lst (ns.map D.int) ∨ y = .klst (ns.map D.int)) : ∃ J, d__law_pool [.d y] = .ok (.new J) [] ∧ Jr 100000 J := by
  have ln : ∀ st, lenV [.d y] st = .ok (.d (.int ((ns.map D.int).length))) st := fun st => by rcases hy with rfl | rfl <;> rfl
  have ll : (ns.map D.int).length = ns.length := List.length_map _
  have ix : ∀ (j : Nat) (h : j < ns.length) st, ixV (.d y) (.d (.int j)) st = .ok (.d (.int ns[j])) st := fun j h st => by
    have e : L2.atI (ns.map D.int) (j : Int) = some (D.int ns[j]) := by
      rw [atI_nat (by rw [ll]; exact h), List.getElem_map]
    rcases hy with rfl | rfl
    · unfold ixV seqOf; simp only [e]
    · unfold ixV seqOf; simp only [e]
  have e0 : itA rng1V [(callE lenV [(varE 0)])] ⟨[some (.d y), some (.d (.int 0)), some (.d (.int 7)), none, none], []⟩ = .ok (rngL 0 (ns.map D.int).length, none) ⟨[some (.d y), some (.d (.int 0)), some (.d (.int 7)), none, none], []⟩ :=
    e_rngL (by simp only [e_par, e_parK, e_asg, toD_d, e_nameT, e_consT, e_nilT, Option.bind_some, n_nx, n_ct, n_bk, n_ret, e_for, e_itE, e_itA, e_meth, ty_s, e_run1, e_run2, e_run3, e_run4, s_d1, s_d2, s_od, s_oo, s_o1, s_odd, s_t1, s_td, ic_d, ic_o, ic_t, ic_nil, e_argD, e_argDD, List.replicate, Nat.reduceSub, List.length_cons, List.length_nil, bind_ok, bind_exc, bind_bad, e_seq, th_nx, th_ret, th_exc, th_bk, th_ct, e_set, e_setK, e_ret, e_retK, e_drop, e_dropK, e_retN, e_next, e_brk, e_cnt, e_if, e_ifE, e_and, e_or, e_not, onB_t, onB_f, onB_b, e_var, e_varK, e_c, e_bin, e_un, e_call, e_nil, e_cons, e_tup, e_tupK, e_lst, e_lstK, e_newLst, toDs_nil, toDs_d, Option.map_some, e_callV, e_callVT, ar_nil, ar_cons, ar_d, ar_t, e_argKT, af_d, af_new, af_exc, up_nil, up_cons, end_ret, end_exc, end_nx, out_d, v_add, v_sub, v_neg, v_lt, v_le, v_gt, v_ge, v_eqI, v_neI, v_gcd, v_abs, v_max, v_int, v_lenT, v_lenL, List.getElem?_cons_zero, List.getElem?_cons_succ, List.set_cons_zero, List.set_cons_succ, List.take_zero, List.take_nil, Bool.false_eq_true, if_false, if_true, eq_self, decide_true, decide_false, Bool.not_true, Bool.not_false, Nat.reduceAdd, Nat.reduceLeDiff, Nat.reduceLT, List.nil_append, List.cons_append, ln]) (bgl (by rw [ll]; omega))
  have hi : ∀ w ∈ rngL 0 (ns.map D.int).length, ∃ j z : Int, w = .int j ∧ ∀ st, ixV (.d y) (.d (.int j)) st = .ok (.d (.int z)) st := fun w hw => by
    unfold rngL at hw
    obtain ⟨j, hj, rfl⟩ := List.mem_map.mp hw
    rw [List.mem_range, ll] at hj
    exact ⟨j, ns[j], by simp, fun st => ix j hj st⟩
  obtain ⟨a', b', s3', s4', g1, g2, g3, g4⟩ := p_loop (all := rngL 0 (ns.map D.int).length) _ 0 7 none none hi (by decide) (by decide) (by decide)
  generalize rngL 0 (ns.map D.int).length = R at *
  refine ⟨[.int a', .int b', .int 0], ?_, a', b', 0, rfl, g3, g4, by decide, by decide⟩
  rw [d__law_pool, e_run1, s_d1]
  unfold m__law_pool
  simp only [List.replicate, Nat.reduceSub]
  have i0 : asgS (tupT 2 (consT (nameT 1) (consT (nameT 2) nilT))) (tupE [(cE (.int 0)), (cE (.int 7))]) ⟨[some (.d y), none, none, none, none], []⟩ = .ok .nx ⟨[some (.d y), some (.d (.int 0)), some (.d (.int 7)), none, none], []⟩ := rfl
  rw [seq_nx i0]
  have i1 : forS (itA rng1V [(callE lenV [(varE 0)])]) (nameT 3) pBody ⟨[some (.d y), some (.d (.int 0)), some (.d (.int 7)), none, none], []⟩ = .ok .nx ⟨[some (.d y), some (.d (.int a')), some (.d (.int b')), s3', s4'], []⟩ := by
    rw [e_for, e0, bind_ok]
    exact g1
  unfold pBody at i1
  rw [seq_nx i1]
  rfl
end Law
end
section
set_option Elab.async false
set_option linter.all false
set_option maxRecDepth 100000
set_option maxHeartbeats 4000000
namespace Law
open PySem Sh
def OL : List D := [.non, .str "0", .bl true, .bl false, .int (-1), .int 0, .int 10000000000000000000000000, .tup [], .tup [.int 0], .lst [.int 0], .str "firm"]
def Od (y : D) : Prop := Pl y = true ∧ dep y ≤ 1 ∧ szD y ≤ 2
theorem ol_od {y : D} (h : y ∈ OL) : Od y := by
  unfold OL at h
  simp only [List.mem_cons, List.not_mem_nil, or_false] at h
  rcases h with rfl | rfl | rfl | rfl | rfl | rfl | rfl | rfl | rfl | rfl | rfl
  all_goals exact ⟨by decide +kernel, by decide +kernel, by decide +kernel⟩
def oddE : S → OE := lstE [(cE .non), (cE (.str "0")), (cE (.bl true)), (cE (.bl false)), (un1 negV (cE (.int 1))), (cE (.int 0)), (bin2 powV (cE (.int 10)) (cE (.int 25))), (tupE []), (tupE [(cE (.int 0))]), (lstE [(cE (.int 0))]), (cE (.str "firm"))]
theorem odd_ok {x : D} {J : List D} : oddE ⟨[some (.c 0), some (.d x), none, none, none, none], [.own J]⟩ = .ok (.c 2) ⟨[some (.c 0), some (.d x), none, none, none, none], [.own J, .frz [.int 0], .own OL]⟩ := rfl
theorem odd_step {n : Nat} {x : D} {J : List D} (h : Jr (n + 1) J) : ∃ (o : D) (J' : List D), setS 2 (callE (callV d__law_one) [(varE 0), oddE]) ⟨[some (.c 0), some (.d x), none, none, none, none], [.own J]⟩ = .ok .nx ⟨[some (.c 0), some (.d x), some (.d o), none, none, none], [.own J', .frz [.int 0], .own OL]⟩ ∧ Od o ∧ Jr n J' := by
  obtain ⟨y, J1, m1, m2, m3⟩ := one_c (n := n) (i := 0) (j := 0) (k := 2) (vs := [some (.c 0), some (.d x), none, none, none, none]) rfl (odd_ok (x := x) (J := J)) rfl rfl (by decide) h (by decide) (by decide)
  exact ⟨y, J1, by rw [e_set, m1]; rfl, ol_od m2, m3⟩
/-- what bending leaves -/
def Bn (x y : D) : Prop := Pl y = true ∧ dep y ≤ dep x + 1 ∧ szD y ≤ 2 * szD x + 10
def six (xs : List D) (i : Nat) (o : D) : List D := [.tup (xs.take i ++ [o] ++ xs.drop (i + 1)), .tup (xs.take i ++ xs.drop (i + 1)), .tup (xs.take (i + 1) ++ xs.drop i), .tup (xs.take i ++ (xs.drop i).reverse), .lst xs, .tup (xs ++ [o])]
theorem szDs_rev : ∀ xs : List D, szDs xs.reverse = szDs xs
  | [] => rfl
  | x :: r => by rw [List.reverse_cons, szDs_app, szDs_rev r]; simp only [szDs]; omega
theorem szDs_td (xs : List D) (i : Nat) : szDs (xs.take i) + szDs (xs.drop i) = szDs xs := by rw [← szDs_app, List.take_append_drop]
theorem bn_tup {xs ys : List D} {o : D} (hx : Pl (.tup xs) = true) (ho : Pl o = true) (hd : dep o ≤ dep (.tup xs)) (hm : ∀ y ∈ ys, y ∈ xs ∨ y = o) (hs : szDs ys ≤ 2 * szDs xs + 9) : Bn (.tup xs) (.tup ys) ∧ Bn (.tup xs) (.lst ys) := by
  have h1 : ∀ y ∈ ys, Pl y = true := fun y hy => (hm y hy).elim (plt hx y) fun e => by rw [e]; exact ho
  have h2 : deps ys ≤ dep (.tup xs) := deps_le fun y hy => (hm y hy).elim (fun h => by have := dep_mem h; simp only [dep]; omega) fun e => by rw [e]; exact hd
  constructor
  · refine ⟨Pls_of h1, ?_, ?_⟩
    · simp only [dep] at *; omega
    · simp only [szD]; omega
  · refine ⟨Pls_of h1, ?_, ?_⟩
    · simp only [dep] at *; omega
    · simp only [szD]; omega
theorem mt {xs : List D} {i : Nat} {y : D} (h : y ∈ xs.take i) : y ∈ xs := List.mem_of_mem_take h
theorem md {xs : List D} {i : Nat} {y : D} (h : y ∈ xs.drop i) : y ∈ xs := List.mem_of_mem_drop h
theorem six_bn {xs : List D} {i : Nat} {o y : D} (hx : Pl (.tup xs) = true) (ho : Od o) (hy : y ∈ six xs i o) : Bn (.tup xs) y := by
  have hd : dep o ≤ dep (.tup xs) := by have := ho.2.1; simp only [dep]; omega
  have s1 := szDs_td xs i
  have s2 := szDs_td xs (i + 1)
  have so := ho.2.2
  have key := fun {ys : List D} => bn_tup (ys := ys) hx ho.1 hd
  unfold six at hy
  simp only [List.mem_cons, List.not_mem_nil, or_false] at hy
  rcases hy with rfl | rfl | rfl | rfl | rfl | rfl
  · refine (key (fun y hy => ?_) ?_).1
    · simp only [List.mem_append, List.mem_singleton] at hy
      rcases hy with (h | h) | h
      · exact .inl (mt h)
      · exact .inr h
      · exact .inl (md h)
    · rw [szDs_app, szDs_app]; simp only [szDs]; omega
  · refine (key (fun y hy => ?_) ?_).1
    · rcases List.mem_append.mp hy with h | h
      · exact .inl (mt h)
      · exact .inl (md h)
    · rw [szDs_app]; omega
  · refine (key (fun y hy => ?_) ?_).1
    · rcases List.mem_append.mp hy with h | h
      · exact .inl (mt h)
      · exact .inl (md h)
    · rw [szDs_app]; omega
  · refine (key (fun y hy => ?_) ?_).1
    · rcases List.mem_append.mp hy with h | h
      · exact .inl (mt h)
      · exact .inl (md (List.mem_reverse.mp h))
    · rw [szDs_app, szDs_rev]; omega
  · exact (key (fun y hy => .inl hy) (by omega)).2
  · refine (key (fun y hy => ?_) ?_).1
    · rcases List.mem_append.mp hy with h | h
      · exact .inl h
      · exact .inr (List.mem_singleton.mp h)
    · rw [szDs_app]; simp only [szDs]; omega
def bSome : S → OS := setS 5 (lstE [(bin2 addV (bin2 addV (sliceE (varE 1) noP (atP (varE 3))) (tupE [(varE 2)])) (sliceE (varE 1) (atP (bin2 addV (varE 3) (cE (.int 1)))) noP)), (bin2 addV (sliceE (varE 1) noP (atP (varE 3))) (sliceE (varE 1) (atP (bin2 addV (varE 3) (cE (.int 1)))) noP)), (bin2 addV (sliceE (varE 1) noP (atP (bin2 addV (varE 3) (cE (.int 1))))) (sliceE (varE 1) (atP (varE 3)) noP))])
def bExt : S → OS := dropS (methE "list" extV (varE 5) [(lstE [(bin2 addV (sliceE (varE 1) noP (atP (varE 3))) (revAE (sliceE (varE 1) (atP (varE 3)) noP))), (callE listV [(varE 1)]), (bin2 addV (varE 1) (tupE [(varE 2)]))])])
theorem some_ok {xs : List D} {i : Nat} {b : Int} {o : D} {J : List D} {c1 c2 : Cell} (hi : i < xs.length) (hl : xs.length ≤ 400000) :
    ∃ c5 c6, (∀ g : S → OS, seqS bSome (seqS bExt g) ⟨[some (.c 0), some (.d (.tup xs)), some (.d o), some (.d (.int i)), some (.d (.int b)), none], [.own J, c1, c2]⟩ = g ⟨[some (.c 0), some (.d (.tup xs)), some (.d o), some (.d (.int i)), some (.d (.int b)), some (.c 3)], [.own J, c1, c2, .own (six xs i o), c5, c6]⟩) := by
  have lt := List.length_take (i := i) (l := xs)
  have ld := List.length_drop (i := i) (l := xs)
  have lt1 := List.length_take (i := i + 1) (l := xs)
  have ld1 := List.length_drop (i := i + 1) (l := xs)
  -- slices at any state with these slots
  have T : ∀ s5 cs, sliceE (varE 1) noP (atP (varE 3)) ⟨[some (.c 0), some (.d (.tup xs)), some (.d o), some (.d (.int i)), some (.d (.int b)), s5], cs⟩ = .ok (.d (.tup (xs.take i))) ⟨[some (.c 0), some (.d (.tup xs)), some (.d o), some (.d (.int i)), some (.d (.int b)), s5], cs⟩ := fun s5 cs => sl_take rfl rfl (by omega)
  have D0 : ∀ s5 cs, sliceE (varE 1) (atP (varE 3)) noP ⟨[some (.c 0), some (.d (.tup xs)), some (.d o), some (.d (.int i)), some (.d (.int b)), s5], cs⟩ = .ok (.d (.tup (xs.drop i))) ⟨[some (.c 0), some (.d (.tup xs)), some (.d o), some (.d (.int i)), some (.d (.int b)), s5], cs⟩ := fun s5 cs => sl_drop rfl rfl (by omega)
  have A1 : ∀ s5 cs, bin2 addV (varE 3) (cE (.int 1)) ⟨[some (.c 0), some (.d (.tup xs)), some (.d o), some (.d (.int i)), some (.d (.int b)), s5], cs⟩ = .ok (.d (.int ((i + 1 : Nat) : Int))) ⟨[some (.c 0), some (.d (.tup xs)), some (.d o), some (.d (.int i)), some (.d (.int b)), s5], cs⟩ := fun s5 cs => rfl
  have T1 : ∀ s5 cs, sliceE (varE 1) noP (atP (bin2 addV (varE 3) (cE (.int 1)))) ⟨[some (.c 0), some (.d (.tup xs)), some (.d o), some (.d (.int i)), some (.d (.int b)), s5], cs⟩ = .ok (.d (.tup (xs.take (i + 1)))) ⟨[some (.c 0), some (.d (.tup xs)), some (.d o), some (.d (.int i)), some (.d (.int b)), s5], cs⟩ := fun s5 cs => sl_take rfl (A1 s5 cs) (by omega)
  have D1 : ∀ s5 cs, sliceE (varE 1) (atP (bin2 addV (varE 3) (cE (.int 1)))) noP ⟨[some (.c 0), some (.d (.tup xs)), some (.d o), some (.d (.int i)), some (.d (.int b)), s5], cs⟩ = .ok (.d (.tup (xs.drop (i + 1)))) ⟨[some (.c 0), some (.d (.tup xs)), some (.d o), some (.d (.int i)), some (.d (.int b)), s5], cs⟩ := fun s5 cs => sl_drop rfl (A1 s5 cs) (by omega)
  have O : ∀ s5 cs, tupE [(varE 2)] ⟨[some (.c 0), some (.d (.tup xs)), some (.d o), some (.d (.int i)), some (.d (.int b)), s5], cs⟩ = .ok (.d (.tup [o])) ⟨[some (.c 0), some (.d (.tup xs)), some (.d o), some (.d (.int i)), some (.d (.int b)), s5], cs⟩ := fun s5 cs => rfl
  have F1 := e_addT (e_addT (T none [.own J, c1, c2]) (O none [.own J, c1, c2]) (by simp only [List.length_singleton]; omega)) (D1 none [.own J, c1, c2]) (by simp only [List.length_append, List.length_singleton]; omega)
  have F2 := e_addT (T none [.own J, c1, c2]) (D1 none [.own J, c1, c2]) (by omega)
  have F3 := e_addT (T1 none [.own J, c1, c2]) (D0 none [.own J, c1, c2]) (by omega)
  have h1 : bSome ⟨[some (.c 0), some (.d (.tup xs)), some (.d o), some (.d (.int i)), some (.d (.int b)), none], [.own J, c1, c2]⟩ = .ok .nx ⟨[some (.c 0), some (.d (.tup xs)), some (.d o), some (.d (.int i)), some (.d (.int b)), some (.c 3)], [.own J, c1, c2, .own [.tup (xs.take i ++ [o] ++ xs.drop (i + 1)), .tup (xs.take i ++ xs.drop (i + 1)), .tup (xs.take (i + 1) ++ xs.drop i)]]⟩ := by
    unfold bSome
    rw [e_set, e_lst, e_cons, F1, bind_ok, e_cons, F2, bind_ok, e_cons, F3, bind_ok, e_nil, bind_ok, bind_ok, bind_ok]
    rfl
  generalize hS : [D.tup (xs.take i ++ [o] ++ xs.drop (i + 1)), .tup (xs.take i ++ xs.drop (i + 1)), .tup (xs.take (i + 1) ++ xs.drop i)] = S3 at h1
  have G4 := e_addT (T (some (.c 3)) [.own J, c1, c2, .own S3]) (e_revT (D0 (some (.c 3)) [.own J, c1, c2, .own S3])) (by rw [List.length_reverse]; omega)
  have G6 := e_addT (fa := varE 1) (st := ⟨[some (.c 0), some (.d (.tup xs)), some (.d o), some (.d (.int i)), some (.d (.int b)), some (.c 3)], [.own J, c1, c2, .own S3, .own xs]⟩) rfl (O (some (.c 3)) [.own J, c1, c2, .own S3, .own xs]) (by simp only [List.length_singleton]; omega)
  have h2 : lstE [(bin2 addV (sliceE (varE 1) noP (atP (varE 3))) (revAE (sliceE (varE 1) (atP (varE 3)) noP))), (callE listV [(varE 1)]), (bin2 addV (varE 1) (tupE [(varE 2)]))] ⟨[some (.c 0), some (.d (.tup xs)), some (.d o), some (.d (.int i)), some (.d (.int b)), some (.c 3)], [.own J, c1, c2, .own S3]⟩ =
      .ok (.c 5) ⟨[some (.c 0), some (.d (.tup xs)), some (.d o), some (.d (.int i)), some (.d (.int b)), some (.c 3)], [.own J, c1, c2, .own S3, .frz xs, .own [.tup (xs.take i ++ (xs.drop i).reverse), .lst xs, .tup (xs ++ [o])]]⟩ := by
    have e2 : callE listV [(varE 1)] ⟨[some (.c 0), some (.d (.tup xs)), some (.d o), some (.d (.int i)), some (.d (.int b)), some (.c 3)], [.own J, c1, c2, .own S3]⟩ = .ok (.c 4) ⟨[some (.c 0), some (.d (.tup xs)), some (.d o), some (.d (.int i)), some (.d (.int b)), some (.c 3)], [.own J, c1, c2, .own S3, .own xs]⟩ := rfl
    rw [e_lst, e_cons, G4, bind_ok, e_cons, e2, bind_ok, e_cons, G6, bind_ok, e_nil, bind_ok, bind_ok, bind_ok]
    rfl
  have h3 : bExt ⟨[some (.c 0), some (.d (.tup xs)), some (.d o), some (.d (.int i)), some (.d (.int b)), some (.c 3)], [.own J, c1, c2, .own S3]⟩ = .ok .nx ⟨[some (.c 0), some (.d (.tup xs)), some (.d o), some (.d (.int i)), some (.d (.int b)), some (.c 3)], [.own J, c1, c2, .own (six xs i o), .frz xs, .own [.tup (xs.take i ++ (xs.drop i).reverse), .lst xs, .tup (xs ++ [o])]]⟩ := by
    unfold bExt
    refine drop_m (st1 := ⟨[some (.c 0), some (.d (.tup xs)), some (.d o), some (.d (.int i)), some (.d (.int b)), some (.c 3)], [.own J, c1, c2, .own S3]⟩) rfl rfl h2 (w := .d .non) ?_
    rw [v_extC (xs := S3) (cl := .own [.tup (xs.take i ++ (xs.drop i).reverse), .lst xs, .tup (xs ++ [o])]) rfl rfl (by subst hS; simp [Cell.xs])]
    subst hS
    rfl
  exact ⟨_, _, fun g => by rw [seq_nx h1, seq_nx h3]⟩
end Law
end
section
set_option Elab.async false
set_option linter.all false
set_option maxRecDepth 100000
set_option maxHeartbeats 4000000
namespace Law
open PySem Sh
theorem od_bn {x o : D} (h : Od o) : Bn x o := ⟨h.1, by have := h.2.1; omega, by have := h.2.2; omega⟩
/-- no tuple, or the empty one -/
theorem bent_flat {n k : Nat} {x : D} {J : List D} (h : Jr (n + 1) J) (ht : (∀ st, isiV [.d x, .d (.ty "tuple")] st = .ok (.d (.bl false)) st) ∨ x = .tup []) : ∃ (y : D) (J' : List D), d__law_wb_bent (k + 1) [.o J, .d x] = .ok (.d y) [.own J'] ∧ Bn x y ∧ Jr n J' := by
  obtain ⟨o, J', h1, h2, h3⟩ := odd_step (x := x) h
  refine ⟨o, J', ?_, od_bn h2, h3⟩
  rw [d__law_wb_bent, e_run2, s_od]
  unfold m__law_wb_bent
  simp only [List.replicate, Nat.reduceSub]
  unfold oddE at h1
  rw [seq_nx h1]
  rcases ht with q | rfl
  · rw [e_seq, if_t (st1 := ⟨[some (.c 0), some (.d x), some (.d o), none, none, none], [.own J', .frz [.int 0], .own OL]⟩) (by simp only [e_par, e_parK, e_asg, toD_d, e_nameT, e_consT, e_nilT, Option.bind_some, n_nx, n_ct, n_bk, n_ret, e_for, e_itE, e_itA, e_meth, ty_s, e_run1, e_run2, e_run3, e_run4, s_d1, s_d2, s_od, s_oo, s_o1, s_odd, s_t1, s_td, ic_d, ic_o, ic_t, ic_nil, e_argD, e_argDD, List.replicate, Nat.reduceSub, List.length_cons, List.length_nil, bind_ok, bind_exc, bind_bad, e_seq, th_nx, th_ret, th_exc, th_bk, th_ct, e_set, e_setK, e_ret, e_retK, e_drop, e_dropK, e_retN, e_next, e_brk, e_cnt, e_if, e_ifE, e_and, e_or, e_not, onB_t, onB_f, onB_b, e_var, e_varK, e_c, e_bin, e_un, e_call, e_nil, e_cons, e_tup, e_tupK, e_lst, e_lstK, e_newLst, toDs_nil, toDs_d, Option.map_some, e_callV, e_callVT, ar_nil, ar_cons, ar_d, ar_t, e_argKT, af_d, af_new, af_exc, up_nil, up_cons, end_ret, end_exc, end_nx, out_d, v_add, v_sub, v_neg, v_lt, v_le, v_gt, v_ge, v_eqI, v_neI, v_gcd, v_abs, v_max, v_int, v_lenT, v_lenL, List.getElem?_cons_zero, List.getElem?_cons_succ, List.set_cons_zero, List.set_cons_succ, List.take_zero, List.take_nil, Bool.false_eq_true, if_false, if_true, eq_self, decide_true, decide_false, Bool.not_true, Bool.not_false, Nat.reduceAdd, Nat.reduceLeDiff, Nat.reduceLT, List.nil_append, List.cons_append, i_non_int, i_non_bool, i_non_str, i_non_tuple, i_non_list, i_bl_int, i_bl_bool, i_bl_str, i_bl_tuple, i_bl_list, n_is_bl, n_no_bl, i_int_int, i_int_bool, i_int_str, i_int_tuple, i_int_list, n_is_int, n_no_int, i_str_int, i_str_bool, i_str_str, i_str_tuple, i_str_list, n_is_str, n_no_str, i_tup_int, i_tup_bool, i_tup_str, i_tup_tuple, i_tup_list, n_is_tup, n_no_tup, i_lst_int, i_lst_bool, i_lst_str, i_lst_tuple, i_lst_list, n_is_lst, n_no_lst, n_is_non, n_no_non, s_d3, s_d4, e_argD3, e_chain, v_toB, v_ix0, v_ix1, v_ix2, e_raise, e_raiseK, q])]
    rfl
  · rfl
theorem bn_step {xs : List D} {i : Nat} {y : D} (hx : Pl (.tup xs) = true) (hi : i < xs.length) (h : Bn xs[i] y) : Bn (.tup xs) (.tup (xs.take i ++ [y] ++ xs.drop (i + 1))) := by
  have hm : xs[i] ∈ xs := List.getElem_mem hi
  have s1 := szDs_td xs i
  have s2 : szDs (xs.drop i) = szD xs[i] + szDs (xs.drop (i + 1)) := by
    rw [List.drop_eq_getElem_cons hi]; simp only [szDs]
  have sz := sz_mem hm
  have dm := dep_mem hm
  obtain ⟨b1, b2, b3⟩ := h
  refine ⟨?_, ?_, ?_⟩
  · show Pls _ = true
    refine Pls_of fun z hz => ?_
    simp only [List.mem_append, List.mem_singleton] at hz
    rcases hz with (h | h) | h
    · exact plt hx z (mt h)
    · rw [h]; exact b1
    · exact plt hx z (md h)
  · have : deps (xs.take i ++ [y] ++ xs.drop (i + 1)) ≤ deps xs + 1 := deps_le fun z hz => by
      simp only [List.mem_append, List.mem_singleton] at hz
      rcases hz with (h | h) | h
      · have := dep_mem (mt h); omega
      · rw [h]; omega
      · have := dep_mem (md h); omega
    simp only [dep]; omega
  · simp only [szD]
    rw [szDs_app, szDs_app]; simp only [szDs]; omega
theorem bent_ok : ∀ (k : Nat) {n : Nat} {x : D} {J : List D}, k ≤ 50 → Jr (n + 3 * (k + 1)) J → Pl x = true → dep x ≤ k → szD x ≤ 100000 → ∃ (y : D) (J' : List D), d__law_wb_bent (k + 1) [.o J, .d x] = .ok (.d y) [.own J'] ∧ Bn x y ∧ Jr n J' := by
  intro k
  induction k with
  | zero =>
    intro n x J hk h hp hd hs
    have h1 := h.mono (show n + 1 ≤ n + 3 * (0 + 1) by omega)
    cases x with
    | tup xs => simp only [dep] at hd; omega
    | lst xs => simp only [dep] at hd; omega
    | klst xs => simp [Pl] at hp
    | obj _ => simp [Pl] at hp
    | ty _ => simp [Pl] at hp
    | _ => exact bent_flat h1 (.inl fun _ => rfl)
  | succ k ih =>
    intro n x J hk h hp hd hs
    have h1 := h.mono (show n + 1 ≤ n + 3 * (k + 1 + 1) by omega)
    cases x with
    | klst xs => simp [Pl] at hp
    | obj _ => simp [Pl] at hp
    | ty _ => simp [Pl] at hp
    | tup xs =>
      by_cases he : xs = []
      · subst he; exact bent_flat h1 (.inr rfl)
      have hlen : 0 < xs.length := List.length_pos_iff.mpr he
      have hl : xs.length ≤ 400000 := by
        have := szDs_len xs
        simp only [szD] at hs; omega
      obtain ⟨o, J1, g1, g2, g3⟩ := odd_step (n := n + 3 * (k + 1) + 2) (x := .tup xs) (h.mono (by omega))
      rw [d__law_wb_bent, e_run2, s_od]
      unfold m__law_wb_bent
      simp only [List.replicate, Nat.reduceSub]
      unfold oddE at g1
      rw [seq_nx g1]
      have q2 : ∀ st, eqV false (.d (.tup xs)) (.d (.tup [])) st = .ok (.d (.bl false)) st := fun _ => by
        rw [v_eq dOf_d dOf_d (okD_of hp (by omega)) rfl]
        cases xs with
        | nil => exact absurd rfl he
        | cons a b => rfl
      rw [seq_nx (st1 := ⟨[some (.c 0), some (.d (.tup xs)), some (.d o), none, none, none], [.own J1, .frz [.int 0], .own OL]⟩) (by rw [if_f (st1 := ⟨[some (.c 0), some (.d (.tup xs)), some (.d o), none, none, none], [.own J1, .frz [.int 0], .own OL]⟩) (by simp only [e_par, e_parK, e_asg, toD_d, e_nameT, e_consT, e_nilT, Option.bind_some, n_nx, n_ct, n_bk, n_ret, e_for, e_itE, e_itA, e_meth, ty_s, e_run1, e_run2, e_run3, e_run4, s_d1, s_d2, s_od, s_oo, s_o1, s_odd, s_t1, s_td, ic_d, ic_o, ic_t, ic_nil, e_argD, e_argDD, List.replicate, Nat.reduceSub, List.length_cons, List.length_nil, bind_ok, bind_exc, bind_bad, e_seq, th_nx, th_ret, th_exc, th_bk, th_ct, e_set, e_setK, e_ret, e_retK, e_drop, e_dropK, e_retN, e_next, e_brk, e_cnt, e_if, e_ifE, e_and, e_or, e_not, onB_t, onB_f, onB_b, e_var, e_varK, e_c, e_bin, e_un, e_call, e_nil, e_cons, e_tup, e_tupK, e_lst, e_lstK, e_newLst, toDs_nil, toDs_d, Option.map_some, e_callV, e_callVT, ar_nil, ar_cons, ar_d, ar_t, e_argKT, af_d, af_new, af_exc, up_nil, up_cons, end_ret, end_exc, end_nx, out_d, v_add, v_sub, v_neg, v_lt, v_le, v_gt, v_ge, v_eqI, v_neI, v_gcd, v_abs, v_max, v_int, v_lenT, v_lenL, List.getElem?_cons_zero, List.getElem?_cons_succ, List.set_cons_zero, List.set_cons_succ, List.take_zero, List.take_nil, Bool.false_eq_true, if_false, if_true, eq_self, decide_true, decide_false, Bool.not_true, Bool.not_false, Nat.reduceAdd, Nat.reduceLeDiff, Nat.reduceLT, List.nil_append, List.cons_append, i_non_int, i_non_bool, i_non_str, i_non_tuple, i_non_list, i_bl_int, i_bl_bool, i_bl_str, i_bl_tuple, i_bl_list, n_is_bl, n_no_bl, i_int_int, i_int_bool, i_int_str, i_int_tuple, i_int_list, n_is_int, n_no_int, i_str_int, i_str_bool, i_str_str, i_str_tuple, i_str_list, n_is_str, n_no_str, i_tup_int, i_tup_bool, i_tup_str, i_tup_tuple, i_tup_list, n_is_tup, n_no_tup, i_lst_int, i_lst_bool, i_lst_str, i_lst_tuple, i_lst_list, n_is_lst, n_no_lst, n_is_non, n_no_non, s_d3, s_d4, e_argD3, e_chain, v_toB, v_ix0, v_ix1, v_ix2, e_raise, e_raiseK, q2])]; rfl)]
      obtain ⟨a, J2, t1, t2, t3, t4⟩ := take_c (n := n + 3 * (k + 1) + 1) (i := 0) (j := 0) (m := xs.length) (fm := callE lenV [varE 1]) (vs := [some (.c 0), some (.d (.tup xs)), some (.d o), none, none, none]) (cs := [.own J1, .frz [.int 0], .own OL]) (cs2 := [.own J1, .frz [.int 0], .own OL]) rfl rfl rfl g3 (by omega) (by omega)
      obtain ⟨b, J3, u1, u2, u3, u4⟩ := take_c (n := n + 3 * (k + 1)) (i := 0) (j := 0) (m := 9) (fm := cE (.int 9)) (vs := [some (.c 0), some (.d (.tup xs)), some (.d o), none, none, none]) (cs := [.own J2, .frz [.int 0], .own OL]) (cs2 := [.own J2, .frz [.int 0], .own OL]) rfl rfl rfl t4 (by decide) (by decide)
      obtain ⟨i, rfl⟩ := Int.eq_ofNat_of_zero_le t2
      have hi : i < xs.length := by omega
      have i2 : parS 3 4 (callE (callV d__law_take) [(varE 0), (callE lenV [(varE 1)])]) (callE (callV d__law_take) [(varE 0), (cE (.int 9))]) ⟨[some (.c 0), some (.d (.tup xs)), some (.d o), none, none, none], [.own J1, .frz [.int 0], .own OL]⟩ = .ok .nx ⟨[some (.c 0), some (.d (.tup xs)), some (.d o), some (.d (.int i)), some (.d (.int b)), none], [.own J3, .frz [.int 0], .own OL]⟩ := by
        rw [e_par, e_cons, t1, bind_ok, e_cons]
        simp only [List.set_cons_zero]
        rw [u1]; rfl
      rw [seq_nx i2]
      by_cases c : b < 3
      · have e0 : decide (b < 3) = true := decide_eq_true c
        have hm : xs[i] ∈ xs := List.getElem_mem hi
        have dm := dep_mem hm
        have sm := sz_mem hm
        obtain ⟨y, J4, w1, w2, w3⟩ := ih (n := n) (x := xs[i]) (by omega) u4 (plt hp _ hm) (by simp only [dep] at hd; omega) (by simp only [szD] at hs; omega)
        have ix : bin2 ixV (varE 1) (varE 3) ⟨[some (.c 0), some (.d (.tup xs)), some (.d o), some (.d (.int i)), some (.d (.int b)), none], [.own J3, .frz [.int 0], .own OL]⟩ = .ok (.d xs[i]) ⟨[some (.c 0), some (.d (.tup xs)), some (.d o), some (.d (.int i)), some (.d (.int b)), none], [.own J3, .frz [.int 0], .own OL]⟩ := e_ixT rfl rfl hi
        have w4 := call_jd (d := d__law_wb_bent (k + 1)) (f := bin2 ixV (varE 1) (varE 3)) (i := 0) (x := xs[i]) (j := 0) (vs := [some (.c 0), some (.d (.tup xs)), some (.d o), some (.d (.int i)), some (.d (.int b)), none]) (cs := [.own J3, .frz [.int 0], .own OL]) (cs2 := [.own J3, .frz [.int 0], .own OL]) rfl ix rfl w1
        have lt := List.length_take (i := i) (l := xs)
        have ld1 := List.length_drop (i := i + 1) (l := xs)
        have T : sliceE (varE 1) noP (atP (varE 3)) ⟨[some (.c 0), some (.d (.tup xs)), some (.d o), some (.d (.int i)), some (.d (.int b)), none], [.own J3, .frz [.int 0], .own OL]⟩ = .ok (.d (.tup (xs.take i))) ⟨[some (.c 0), some (.d (.tup xs)), some (.d o), some (.d (.int i)), some (.d (.int b)), none], [.own J3, .frz [.int 0], .own OL]⟩ := sl_take rfl rfl (by omega)
        have D1 : sliceE (varE 1) (atP (bin2 addV (varE 3) (cE (.int 1)))) noP ⟨[some (.c 0), some (.d (.tup xs)), some (.d o), some (.d (.int i)), some (.d (.int b)), none], [.own J4, .frz [.int 0], .own OL]⟩ = .ok (.d (.tup (xs.drop (i + 1)))) ⟨[some (.c 0), some (.d (.tup xs)), some (.d o), some (.d (.int i)), some (.d (.int b)), none], [.own J4, .frz [.int 0], .own OL]⟩ := sl_drop (i := i + 1) rfl rfl (by omega)
        have F := e_addT (e_addT T (e_tup1 w4) (by simp only [List.length_singleton]; omega)) D1 (by simp only [List.length_append, List.length_singleton]; omega)
        refine ⟨_, J4, ?_, bn_step hp hi w2, w3⟩
        rw [e_seq, if_t (st1 := ⟨[some (.c 0), some (.d (.tup xs)), some (.d o), some (.d (.int i)), some (.d (.int b)), none], [.own J3, .frz [.int 0], .own OL]⟩) (by simp only [e_par, e_parK, e_asg, toD_d, e_nameT, e_consT, e_nilT, Option.bind_some, n_nx, n_ct, n_bk, n_ret, e_for, e_itE, e_itA, e_meth, ty_s, e_run1, e_run2, e_run3, e_run4, s_d1, s_d2, s_od, s_oo, s_o1, s_odd, s_t1, s_td, ic_d, ic_o, ic_t, ic_nil, e_argD, e_argDD, List.replicate, Nat.reduceSub, List.length_cons, List.length_nil, bind_ok, bind_exc, bind_bad, e_seq, th_nx, th_ret, th_exc, th_bk, th_ct, e_set, e_setK, e_ret, e_retK, e_drop, e_dropK, e_retN, e_next, e_brk, e_cnt, e_if, e_ifE, e_and, e_or, e_not, onB_t, onB_f, onB_b, e_var, e_varK, e_c, e_bin, e_un, e_call, e_nil, e_cons, e_tup, e_tupK, e_lst, e_lstK, e_newLst, toDs_nil, toDs_d, Option.map_some, e_callV, e_callVT, ar_nil, ar_cons, ar_d, ar_t, e_argKT, af_d, af_new, af_exc, up_nil, up_cons, end_ret, end_exc, end_nx, out_d, v_add, v_sub, v_neg, v_lt, v_le, v_gt, v_ge, v_eqI, v_neI, v_gcd, v_abs, v_max, v_int, v_lenT, v_lenL, List.getElem?_cons_zero, List.getElem?_cons_succ, List.set_cons_zero, List.set_cons_succ, List.take_zero, List.take_nil, Bool.false_eq_true, if_false, if_true, eq_self, decide_true, decide_false, Bool.not_true, Bool.not_false, Nat.reduceAdd, Nat.reduceLeDiff, Nat.reduceLT, List.nil_append, List.cons_append, i_non_int, i_non_bool, i_non_str, i_non_tuple, i_non_list, i_bl_int, i_bl_bool, i_bl_str, i_bl_tuple, i_bl_list, n_is_bl, n_no_bl, i_int_int, i_int_bool, i_int_str, i_int_tuple, i_int_list, n_is_int, n_no_int, i_str_int, i_str_bool, i_str_str, i_str_tuple, i_str_list, n_is_str, n_no_str, i_tup_int, i_tup_bool, i_tup_str, i_tup_tuple, i_tup_list, n_is_tup, n_no_tup, i_lst_int, i_lst_bool, i_lst_str, i_lst_tuple, i_lst_list, n_is_lst, n_no_lst, n_is_non, n_no_non, s_d3, s_d4, e_argD3, e_chain, v_toB, v_ix0, v_ix1, v_ix2, e_raise, e_raiseK, e0]), e_ret, F, bind_ok]
        rfl
      · have e0 : decide (b < 3) = false := decide_eq_false c
        rw [seq_nx (st1 := ⟨[some (.c 0), some (.d (.tup xs)), some (.d o), some (.d (.int i)), some (.d (.int b)), none], [.own J3, .frz [.int 0], .own OL]⟩) (by rw [if_f (st1 := ⟨[some (.c 0), some (.d (.tup xs)), some (.d o), some (.d (.int i)), some (.d (.int b)), none], [.own J3, .frz [.int 0], .own OL]⟩) (by simp only [e_par, e_parK, e_asg, toD_d, e_nameT, e_consT, e_nilT, Option.bind_some, n_nx, n_ct, n_bk, n_ret, e_for, e_itE, e_itA, e_meth, ty_s, e_run1, e_run2, e_run3, e_run4, s_d1, s_d2, s_od, s_oo, s_o1, s_odd, s_t1, s_td, ic_d, ic_o, ic_t, ic_nil, e_argD, e_argDD, List.replicate, Nat.reduceSub, List.length_cons, List.length_nil, bind_ok, bind_exc, bind_bad, e_seq, th_nx, th_ret, th_exc, th_bk, th_ct, e_set, e_setK, e_ret, e_retK, e_drop, e_dropK, e_retN, e_next, e_brk, e_cnt, e_if, e_ifE, e_and, e_or, e_not, onB_t, onB_f, onB_b, e_var, e_varK, e_c, e_bin, e_un, e_call, e_nil, e_cons, e_tup, e_tupK, e_lst, e_lstK, e_newLst, toDs_nil, toDs_d, Option.map_some, e_callV, e_callVT, ar_nil, ar_cons, ar_d, ar_t, e_argKT, af_d, af_new, af_exc, up_nil, up_cons, end_ret, end_exc, end_nx, out_d, v_add, v_sub, v_neg, v_lt, v_le, v_gt, v_ge, v_eqI, v_neI, v_gcd, v_abs, v_max, v_int, v_lenT, v_lenL, List.getElem?_cons_zero, List.getElem?_cons_succ, List.set_cons_zero, List.set_cons_succ, List.take_zero, List.take_nil, Bool.false_eq_true, if_false, if_true, eq_self, decide_true, decide_false, Bool.not_true, Bool.not_false, Nat.reduceAdd, Nat.reduceLeDiff, Nat.reduceLT, List.nil_append, List.cons_append, i_non_int, i_non_bool, i_non_str, i_non_tuple, i_non_list, i_bl_int, i_bl_bool, i_bl_str, i_bl_tuple, i_bl_list, n_is_bl, n_no_bl, i_int_int, i_int_bool, i_int_str, i_int_tuple, i_int_list, n_is_int, n_no_int, i_str_int, i_str_bool, i_str_str, i_str_tuple, i_str_list, n_is_str, n_no_str, i_tup_int, i_tup_bool, i_tup_str, i_tup_tuple, i_tup_list, n_is_tup, n_no_tup, i_lst_int, i_lst_bool, i_lst_str, i_lst_tuple, i_lst_list, n_is_lst, n_no_lst, n_is_non, n_no_non, s_d3, s_d4, e_argD3, e_chain, v_toB, v_ix0, v_ix1, v_ix2, e_raise, e_raiseK, e0])]; rfl)]
        obtain ⟨c5, c6, z1⟩ := some_ok (xs := xs) (i := i) (o := o) (b := b) (J := J3) (c1 := .frz [.int 0]) (c2 := .own OL) hi hl
        unfold bSome bExt at z1
        rw [z1]
        obtain ⟨t, ht⟩ := Int.eq_ofNat_of_zero_le (show 0 ≤ b - 3 by omega)
        have tl : t < (six xs i o).length := by show t < 6; omega
        refine ⟨(six xs i o)[t], J3, ?_, six_bn hp g2 (List.getElem_mem tl), u4.mono (by omega)⟩
        have i8 : bin2 subV (varE 4) (cE (.int 3)) ⟨[some (.c 0), some (.d (.tup xs)), some (.d o), some (.d (.int i)), some (.d (.int b)), some (.c 3)], [.own J3, .frz [.int 0], .own OL, .own (six xs i o), c5, c6]⟩ = .ok (.d (.int t)) ⟨[some (.c 0), some (.d (.tup xs)), some (.d o), some (.d (.int i)), some (.d (.int b)), some (.c 3)], [.own J3, .frz [.int 0], .own OL, .own (six xs i o), c5, c6]⟩ := by
          rw [← ht]; rfl
        have i9 := e_ixC (va := varE 5) (vb := bin2 subV (varE 4) (cE (.int 3))) (st := ⟨[some (.c 0), some (.d (.tup xs)), some (.d o), some (.d (.int i)), some (.d (.int b)), some (.c 3)], [.own J3, .frz [.int 0], .own OL, .own (six xs i o), c5, c6]⟩) (n := 3) (t := t) (L := six xs i o) rfl i8 rfl tl
        rw [e_ret, i9, bind_ok]
        rfl
    | _ => exact bent_flat h1 (.inl fun _ => rfl)
end Law
end
section
set_option Elab.async false
set_option linter.all false
set_option maxRecDepth 100000
set_option maxHeartbeats 4000000
namespace Law
open PySem Sh
/-- the jar at cell nought -/
def Ja (n : Nat) (cs : List Cell) : Prop := ∃ J, cs[0]? = some (.own J) ∧ Jr n J
theorem Ja.mono {n k : Nat} {cs : List Cell} (h : Ja n cs) (l : k ≤ n) : Ja k cs := by
  obtain ⟨J, h1, h2⟩ := h
  exact ⟨J, h1, h2.mono l⟩
theorem Ja.app {n : Nat} {cs ds : List Cell} (h : Ja n cs) : Ja n (cs ++ ds) := by
  obtain ⟨J, h1, h2⟩ := h
  exact ⟨J, get_app h1, h2⟩
theorem Ja.set {n k : Nat} {cs : List Cell} {cl : Cell} (h : Ja n cs) (hk : k ≠ 0) : Ja n (cs.set k cl) := by
  obtain ⟨J, h1, h2⟩ := h
  exact ⟨J, get_set h1 hk, h2⟩
/-- what is no jar stays -/
def Kp (cs cs' : List Cell) : Prop := ∀ (j : Nat) (cl : Cell), j ≠ 0 → cs[j]? = some cl → cs'[j]? = some cl
theorem Kp.refl {cs : List Cell} : Kp cs cs := fun _ _ _ h => h
theorem Kp.trans {a b c : List Cell} (h : Kp a b) (h2 : Kp b c) : Kp a c := fun j cl hj h0 => h2 j cl hj (h j cl hj h0)
theorem Kp.app {cs ds : List Cell} : Kp cs (cs ++ ds) := fun _ _ _ h => get_app h
theorem Kp.set0 {cs : List Cell} {cl : Cell} : Kp cs (cs.set 0 cl) := fun _ _ hj h => get_set h (Ne.symm hj)
theorem Kp.len {cs cs' : List Cell} (h : Kp cs cs') (h0 : 0 < cs'.length) : cs.length ≤ cs'.length := by
  by_cases e : cs.length ≤ 1
  · omega
  · have := h (cs.length - 1) _ (by omega) (List.getElem?_eq_getElem (by omega))
    have := lt_of_some this
    omega
theorem Ja.pos {n : Nat} {cs : List Cell} (h : Ja n cs) : 0 < cs.length := by
  obtain ⟨J, h1, _⟩ := h
  exact lt_of_some h1
theorem takeJ {n i : Nat} {m : Int} {fm : S → OE} {vs : List (Option Val)} {cs cs2 : List Cell} (hv : vs[i]? = some (some (.c 0))) (hm0 : fm ⟨vs, cs⟩ = .ok (.d (.int m)) ⟨vs, cs2⟩) (h : Ja (n + 1) cs2) (hm : 1 ≤ m) (hm2 : m < 1000000000000) :
    ∃ (r : Int) (cs' : List Cell), callE (callV d__law_take) [varE i, fm] ⟨vs, cs⟩ = .ok (.d (.int r)) ⟨vs, cs'⟩ ∧ 0 ≤ r ∧ r < m ∧ Ja n cs' ∧ Kp cs2 cs' := by
  obtain ⟨J, h1, h2⟩ := h
  obtain ⟨r, J', g1, g2, g3, g4⟩ := take_c (cs2 := cs2) hv hm0 h1 h2 hm hm2
  exact ⟨r, _, g1, g2, g3, ⟨J', get_self h1, g4⟩, .set0⟩
theorem oneJ {n i k : Nat} {L : List D} {fL : S → OE} {vs : List (Option Val)} {cs cs2 : List Cell} (hv : vs[i]? = some (some (.c 0))) (hf : fL ⟨vs, cs⟩ = .ok (.c k) ⟨vs, cs2⟩) (hk : cs2[k]? = some (.own L)) (jk : k ≠ 0)
    (h : Ja (n + 1) cs2) (hL : 1 ≤ L.length) (hL2 : L.length ≤ 1000000) :
    ∃ (y : D) (cs' : List Cell), callE (callV d__law_one) [varE i, fL] ⟨vs, cs⟩ = .ok (.d y) ⟨vs, cs'⟩ ∧ y ∈ L ∧ Ja n cs' ∧ Kp cs2 cs' := by
  obtain ⟨J, h1, h2⟩ := h
  obtain ⟨y, J', g1, g2, g3⟩ := one_c (cs2 := cs2) hv hf h1 hk (Ne.symm jk) h2 hL hL2
  refine ⟨y, _, g1, g2, ⟨J', get_set (get_self h1) jk, g3⟩, fun j cl hj hc => ?_⟩
  by_cases e : j = k
  · subst e
    rw [hk] at hc; cases hc
    exact get_self (get_set hk (Ne.symm jk))
  · exact get_set (get_set hc (Ne.symm hj)) (Ne.symm e)
/-! ### a drawn sum -/
theorem sum_ok {n m : Nat} {J : List D} (h : Jr (n + 2 * m) J) (hm : m ≤ 40) : ∃ (ys J' : List D), d__law_wb_sum [.o J, .d (.int m)] = .ok (.d (.tup ys)) [.own J'] ∧ ys.length = m ∧ (∀ y ∈ ys, ∃ i, y = D.int i) ∧ Jr n J' := by
  rw [d__law_wb_sum, e_run2, s_od]
  simp only [List.replicate, Nat.reduceSub]
  unfold m__law_wb_sum
  have hc := comp_inv (f := callE (callV d__law_one) [(varE 0), (lstE [(cE (.int 0)), (cE (.int 0)), (cE (.int 1)), (un1 negV (cE (.int 1))), (cE (.int 2)), (cE (.int 1000)), (un1 negV (cE (.int 1000))), (bin2 subV (callE (callV d__law_take) [(varE 0), (cE (.int 2001))]) (cE (.int 1000)))])]) (it := itA rng1V [(varE 1)]) (g := nameT 2) (us := [2]) (v0 := [some (.c 0), some (.d (.int m)), none]) (ck := none) (L := rngL 0 m) (cs := [.own J]) (st := ⟨[some (.c 0), some (.d (.int m)), none], [.own J]⟩)
    (fun y => ∃ i, y = D.int i) (fun k cs => Ja (n + 2 * k) cs) 0 (e_rngL rfl (bgl (by omega))) (by rw [rng_len]; omega) (fun _ _ _ => gd_none) ⟨J, rfl, by rw [rng_len]; exact h⟩ fun x hx k cs hI => by
      obtain ⟨r, c1, t1, _, _, t2, _⟩ := takeJ (n := n + 2 * k + 1) (i := 0) (m := 2001) (fm := cE (.int 2001)) (vs := [some (.c 0), some (.d (.int m)), some (.d x)]) (cs := cs) (cs2 := cs) rfl rfl (hI.mono (by omega)) (by decide) (by decide)
      have e8 : bin2 subV (callE (callV d__law_take) [(varE 0), (cE (.int 2001))]) (cE (.int 1000)) ⟨[some (.c 0), some (.d (.int m)), some (.d x)], cs⟩ = .ok (.d (.int (r - 1000))) ⟨[some (.c 0), some (.d (.int m)), some (.d x)], c1⟩ := e_subI t1 rfl
      have hl := lst_k (seq_k (f := cE (.int 0)) (st := ⟨[some (.c 0), some (.d (.int m)), some (.d x)], cs⟩) rfl (seq_k (f := cE (.int 0)) rfl (seq_k (f := cE (.int 1)) rfl (seq_k (f := un1 negV (cE (.int 1))) rfl (seq_k (f := cE (.int 2)) rfl (seq_k (f := cE (.int 1000)) rfl (seq_k (f := un1 negV (cE (.int 1000))) rfl (seq_k e8 seq_0)))))))) rfl
      obtain ⟨y, c2, o1, o2, o3, _⟩ := oneJ (n := n + 2 * k) (i := 0) (vs := [some (.c 0), some (.d (.int m)), some (.d x)]) (cs := cs) rfl hl get_new (by have := t2.pos; omega) t2.app (by simp) (by simp)
      refine ⟨⟨[some (.c 0), some (.d (.int m)), some (.d x)], cs⟩, y, _, c2, rfl, o1, ?_, o3⟩
      simp only [List.mem_cons, List.not_mem_nil, or_false] at o2
      rcases o2 with rfl | rfl | rfl | rfl | rfl | rfl | rfl | rfl <;> exact ⟨_, rfl⟩
  obtain ⟨ys, cs', g1, g2, g3, J', g4, g5⟩ := hc
  have e := e_tupC (cl := .own ys) g1 get_new
  rw [e_ret, e, bind_ok]
  refine ⟨ys, J', ?_, by rw [g2, rng_len], g3, g5⟩
  show RD.ok (.d (.tup ys)) ((cs' ++ [Cell.own ys]).take 1) = _
  rw [take1 (get_app g4)]
end Law
end
section
set_option Elab.async false
set_option linter.all false
set_option maxRecDepth 100000
set_option maxHeartbeats 4000000
namespace Law
open PySem Sh
/-- a sum of m whole numbers -/
def Fm (m : Nat) (y : D) : Prop := ∃ ys, y = .tup ys ∧ ys.length = m ∧ ∀ y ∈ ys, ∃ i, y = D.int i
def Ti (m : Nat) (y : D) : Prop := ∃ a b s, y = .tup [a, b, .str s] ∧ Fm m a ∧ Fm m b ∧ (s = "firm" ∨ s = "open")
theorem sumJ {n m i j : Nat} {vs : List (Option Val)} {cs : List Cell} (hv : vs[i]? = some (some (.c 0))) (hm : vs[j]? = some (some (.d (.int m)))) (h : Ja (n + 2 * m) cs) (hm2 : m ≤ 40) :
    ∃ (y : D) (cs' : List Cell), callE (callV d__law_wb_sum) [varE i, varE j] ⟨vs, cs⟩ = .ok (.d y) ⟨vs, cs'⟩ ∧ Fm m y ∧ Ja n cs' ∧ Kp cs cs' := by
  obtain ⟨J, h1, h2⟩ := h
  obtain ⟨ys, J', g1, g2, g3, g4⟩ := sum_ok h2 hm2
  exact ⟨_, _, call_jd (d := d__law_wb_sum) (f := varE j) (i := i) (j := 0) (cs2 := cs) hv (e_var1 hm) h1 g1, ⟨ys, rfl, g2, g3⟩, ⟨J', get_self h1, g4⟩, .set0⟩
def sBody8 : S → OS := (ifS (bin2 (eqV false) (compE (itE (bin2 ixV (varE 6) (varE 7))) (nameT 9) (bin2 (eqV true) (varE 9) (cE (.int 0))) (varE 9) [9]) (lstE [])) (seqS (setS 8 (callE (callV d__law_take) [(varE 0), (varE 2)]))
  (setIxS (varE 6) (varE 7) (callE tupleV [(compE (itA rng1V [(varE 2)]) (nameT 10) (cE (.bl true)) (callE toIntV [(bin2 (eqV false) (varE 10) (varE 8))]) [10])]))) nextS)
theorem mem2 {a b : D} {j : Nat} (hj : j < 2) : [a, b][j]? = some (if j = 0 then a else b) := by
  match j, hj with
  | 0, _ => rfl
  | 1, _ => rfl
theorem set2 {a b x : D} {j : Nat} (hj : j < 2) : [a, b].set j x = [if j = 0 then x else a, if j = 0 then b else x] := by
  match j, hj with
  | 0, _ => rfl
  | 1, _ => rfl
theorem sbody8_ok {n m ks j : Nat} {a b r4 s3 s5 : D} {k4 : Nat} {s8 : Option Val} {cs : List Cell} (hm : 1 ≤ m) (hm2 : m ≤ 40) (hj : j < 2) (h : Ja (n + 1) cs) (hk : ks ≠ 0) (hs : cs[ks]? = some (.own [a, b])) (ha : Fm m a) (hb : Fm m b) :
    ∃ (s8' : Option Val) (a' b' : D) (cs' : List Cell), sBody8 ⟨[some (.c 0), some (.d r4), some (.d (.int m)), some (.d s3), some (.c k4), some (.d s5), some (.c ks), some (.d (.int j)), s8, none, none], cs⟩ = .ok .nx ⟨[some (.c 0), some (.d r4), some (.d (.int m)), some (.d s3), some (.c k4), some (.d s5), some (.c ks), some (.d (.int j)), s8', none, none], cs'⟩ ∧
      Ja n cs' ∧ cs'[ks]? = some (.own [a', b']) ∧ Fm m a' ∧ Fm m b' ∧ ∀ (i : Nat) (cl : Cell), i ≠ 0 → i ≠ ks → cs[i]? = some cl → cs'[i]? = some cl := by
  have hx : Fm m (if j = 0 then a else b) := by split <;> assumption
  obtain ⟨ys, hy, hyl, hyi⟩ := hx
  have ix : bin2 ixV (varE 6) (varE 7) ⟨[some (.c 0), some (.d r4), some (.d (.int m)), some (.d s3), some (.c k4), some (.d s5), some (.c ks), some (.d (.int j)), s8, none, none], cs⟩ = .ok (.d (.tup ys)) ⟨[some (.c 0), some (.d r4), some (.d (.int m)), some (.d s3), some (.c k4), some (.d s5), some (.c ks), some (.d (.int j)), s8, none, none], cs⟩ := by
    have := e_ixC (va := varE 6) (vb := varE 7) (st := ⟨[some (.c 0), some (.d r4), some (.d (.int m)), some (.d s3), some (.c k4), some (.d s5), some (.c ks), some (.d (.int j)), s8, none, none], cs⟩) (n := ks) (t := j) (L := [a, b]) rfl rfl hs hj
    rw [this]
    have e := mem2 (a := a) (b := b) hj
    rw [List.getElem?_eq_getElem hj] at e
    rw [Option.some.inj e, hy]
  have hc := comp_pure (it := itE (bin2 ixV (varE 6) (varE 7))) (g := nameT 9) (t := bin2 (eqV true) (varE 9) (cE (.int 0))) (f := varE 9) (us := [9]) (v0 := [some (.c 0), some (.d r4), some (.d (.int m)), some (.d s3), some (.c k4), some (.d s5), some (.c ks), some (.d (.int j)), s8, none, none]) (cs := cs) (ck := none) (L := ys) (st := ⟨[some (.c 0), some (.d r4), some (.d (.int m)), some (.d s3), some (.c k4), some (.d s5), some (.c ks), some (.d (.int j)), s8, none, none], cs⟩) nzI (fun y => y)
    (fun y => [some (.c 0), some (.d r4), some (.d (.int m)), some (.d s3), some (.c k4), some (.d s5), some (.c ks), some (.d (.int j)), s8, some (.d y), none]) (by rw [e_itE, ix, bind_ok]; rfl) gd_none (by omega) fun y hy => by
      obtain ⟨i, rfl⟩ := hyi y hy
      exact ⟨rfl, rfl, fun _ => rfl⟩
  rw [List.map_id'] at hc
  have e2 : bin2 (eqV false) (compE (itE (bin2 ixV (varE 6) (varE 7))) (nameT 9) (bin2 (eqV true) (varE 9) (cE (.int 0))) (varE 9) [9]) (lstE []) ⟨[some (.c 0), some (.d r4), some (.d (.int m)), some (.d s3), some (.c k4), some (.d s5), some (.c ks), some (.d (.int j)), s8, none, none], cs⟩ = .ok (.d (.bl (ys.filter nzI).isEmpty)) ⟨[some (.c 0), some (.d r4), some (.d (.int m)), some (.d s3), some (.c k4), some (.d s5), some (.c ks), some (.d (.int j)), s8, none, none], cs ++ [Cell.own (ys.filter nzI)] ++ [Cell.own []]⟩ := by
    rw [e_bin, hc, bind_ok, e_lst, e_nil, bind_ok, toDs_nil, e_lstK, e_newLst, bind_ok, v_eqNil (get_app get_new) get_new (ok_ints fun y hy => hyi y (List.mem_filter.mp hy).1).1]
    rfl
  have hs2 : (cs ++ [Cell.own (ys.filter nzI)] ++ [Cell.own []])[ks]? = some (.own [a, b]) := get_app (get_app hs)
  have hJ : Ja (n + 1) (cs ++ [Cell.own (ys.filter nzI)] ++ [Cell.own []]) := h.app.app
  have hkp : Kp cs (cs ++ [Cell.own (ys.filter nzI)] ++ [Cell.own []]) := Kp.trans .app .app
  generalize cs ++ [Cell.own (ys.filter nzI)] ++ [Cell.own []] = c2 at e2 hs2 hJ hkp
  unfold sBody8
  cases e : (ys.filter nzI).isEmpty with
  | false =>
    rw [e] at e2
    exact ⟨s8, a, b, c2, by rw [if_f e2]; rfl, hJ.mono (by omega), hs2, ha, hb, fun i cl h0 h1 h2 => hkp i cl h0 h2⟩
  | true =>
    rw [e] at e2
    obtain ⟨r, c3, t1, _, _, t4, t5⟩ := takeJ (n := n) (i := 0) (m := m) (fm := varE 2) (vs := [some (.c 0), some (.d r4), some (.d (.int m)), some (.d s3), some (.c k4), some (.d s5), some (.c ks), some (.d (.int j)), s8, none, none]) (cs := c2) (cs2 := c2) rfl rfl hJ (by omega) (by omega)
    have hs3 := t5 ks _ hk hs2
    have hc3 := comp_map (it := itA rng1V [(varE 2)]) (g := nameT 10) (f := callE toIntV [(bin2 (eqV false) (varE 10) (varE 8))]) (us := [10]) (v0 := [some (.c 0), some (.d r4), some (.d (.int m)), some (.d s3), some (.c k4), some (.d s5), some (.c ks), some (.d (.int j)), some (.d (.int r)), none, none]) (cs := c3) (ck := none) (L := rngL 0 m) (st := ⟨[some (.c 0), some (.d r4), some (.d (.int m)), some (.d s3), some (.c k4), some (.d s5), some (.c ks), some (.d (.int j)), some (.d (.int r)), none, none], c3⟩)
      (fun y => match y with | .int i => .int (if i == r then 1 else 0) | _ => .int 0) (fun y => [some (.c 0), some (.d r4), some (.d (.int m)), some (.d s3), some (.c k4), some (.d s5), some (.c ks), some (.d (.int j)), some (.d (.int r)), none, some (.d y)]) (e_rngL rfl (bgl (by omega))) gd_none (by rw [rng_len]; omega) fun y hy => by
        obtain ⟨i, _, rfl⟩ := rng_lt y hy
        exact ⟨rfl, rfl⟩
    generalize hz : (rngL 0 m).map (fun y => match y with | .int i => D.int (if i == r then 1 else 0) | _ => .int 0) = zs at hc3
    have hzm : Fm m (.tup zs) := ⟨zs, rfl, by rw [← hz, List.length_map, rng_len], fun y hy => by
      rw [← hz] at hy
      obtain ⟨w, _, rfl⟩ := List.mem_map.mp hy
      cases w <;> exact ⟨_, rfl⟩⟩
    have e5 := e_tupC (cl := .own zs) hc3 get_new
    have hs4 : (c3 ++ [Cell.own zs])[ks]? = some (.own [a, b]) := get_app hs3
    refine ⟨some (.d (.int r)), if j = 0 then .tup zs else a, if j = 0 then b else .tup zs, (c3 ++ [Cell.own zs]).set ks (.own ([a, b].set j (.tup zs))), ?_, t4.app.set hk, ?_, ?_, ?_, ?_⟩
    · rw [if_t e2, seq_nx (set_k t1)]
      exact (setIx_k (fo := varE 6) (fi := varE 7) (w := .c ks) (k := .d (.int j)) (st2 := ⟨[some (.c 0), some (.d r4), some (.d (.int m)), some (.d s3), some (.c k4), some (.d s5), some (.c ks), some (.d (.int j)), some (.d (.int r)), none, none], c3 ++ [Cell.own zs]⟩) (st3 := ⟨[some (.c 0), some (.d r4), some (.d (.int m)), some (.d s3), some (.c k4), some (.d s5), some (.c ks), some (.d (.int j)), some (.d (.int r)), none, none], c3 ++ [Cell.own zs]⟩) e5 rfl rfl).trans (setIx_own hs4 hj)
    · rw [get_self hs4, set2 hj]
    · split
      · exact hzm
      · exact ha
    · split
      · exact hb
      · exact hzm
    · intro i cl h0 h1 h2
      exact get_set (get_app (t5 i cl h0 (hkp i cl h0 h2))) (Ne.symm h1)
/-- one round of ties -/
def tBody : S → OS := (seqS (setS 6 (lstE [(callE (callV d__law_wb_sum) [(varE 0), (varE 2)]), (callE (callV d__law_wb_sum) [(varE 0), (varE 2)])]))
  (seqS (forS (itE (lstE [(cE (.int 0)), (cE (.int 1))])) (nameT 7) sBody8)
  (dropS (methE "list" appV (varE 4) [(tupE [(bin2 ixV (varE 6) (cE (.int 0))), (bin2 ixV (varE 6) (cE (.int 1))), (callE (callV d__law_one) [(varE 0), (lstE [(cE (.str "firm")), (cE (.str "firm")), (cE (.str "firm")), (cE (.str "open"))])])])]))))
theorem tbody_ok {n m k4 : Nat} {r4 s3 s5 : D} {s6 s7 s8 : Option Val} {ts : List D} {cs : List Cell} (hm : 1 ≤ m) (hm2 : m ≤ 8) (h : Ja (n + 35) cs) (hk : k4 ≠ 0) (ht : cs[k4]? = some (.own ts)) (hl : ts.length < 1000) (hts : ∀ y ∈ ts, Ti m y) :
    ∃ (s6' s7' s8' : Option Val) (y : D) (cs' : List Cell), tBody ⟨[some (.c 0), some (.d r4), some (.d (.int m)), some (.d s3), some (.c k4), some (.d s5), s6, s7, s8, none, none], cs⟩ = .ok .nx ⟨[some (.c 0), some (.d r4), some (.d (.int m)), some (.d s3), some (.c k4), some (.d s5), s6', s7', s8', none, none], cs'⟩ ∧
      Ja n cs' ∧ cs'[k4]? = some (.own (ts ++ [y])) ∧ Ti m y := by
  obtain ⟨a, c1, a1, a2, a3, a4⟩ := sumJ (n := n + 35 - 2 * m) (m := m) (i := 0) (j := 2) (vs := [some (.c 0), some (.d r4), some (.d (.int m)), some (.d s3), some (.c k4), some (.d s5), s6, s7, s8, none, none]) (cs := cs) rfl rfl (h.mono (by omega)) (by omega)
  obtain ⟨b, c2, b1, b2, b3, b4⟩ := sumJ (n := n + 3) (m := m) (i := 0) (j := 2) (vs := [some (.c 0), some (.d r4), some (.d (.int m)), some (.d s3), some (.c k4), some (.d s5), s6, s7, s8, none, none]) (cs := c1) rfl rfl (a3.mono (by omega)) (by omega)
  have e1 := set_k (i := 6) (lst_k (seq_k a1 (seq_k b1 seq_0)) rfl)
  have p2 := b3.pos
  have k2 : c2[k4]? = some (.own ts) := b4 k4 _ hk (a4 k4 _ hk ht)
  have e2 : lstE [(cE (.int 0)), (cE (.int 1))] ⟨[some (.c 0), some (.d r4), some (.d (.int m)), some (.d s3), some (.c k4), some (.d s5), some (.c c2.length), s7, s8, none, none], c2 ++ [.own [a, b]]⟩ = .ok (.c (c2 ++ [Cell.own [a, b]]).length) ⟨[some (.c 0), some (.d r4), some (.d (.int m)), some (.d s3), some (.c k4), some (.d s5), some (.c c2.length), s7, s8, none, none], c2 ++ [.own [a, b]] ++ [.own [.int 0, .int 1]]⟩ := lst_k (seq_k (f := cE (.int 0)) rfl (seq_k (f := cE (.int 1)) rfl seq_0)) rfl
  have lw : (c2 ++ [Cell.own [a, b]] ++ [Cell.own [D.int 0, .int 1]])[(c2 ++ [Cell.own [a, b]]).length]? = some (.own [.int 0, .int 1]) := get_new
  have lkl : (c2 ++ [Cell.own [a, b]]).length = c2.length + 1 := by simp
  generalize hkl : (c2 ++ [Cell.own [a, b]]).length = kl at e2 lw
  obtain ⟨st3, f1, s7', s8', a', b', c3, rfl, i1, i2, i3, i4, i5, i6⟩ := for_inv (it := itE (lstE [(cE (.int 0)), (cE (.int 1))])) (g := nameT 7) (b := sBody8) (ck := some kl) (L := [.int 0, .int 1])
    (st := ⟨[some (.c 0), some (.d r4), some (.d (.int m)), some (.d s3), some (.c k4), some (.d s5), some (.c c2.length), s7, s8, none, none], c2 ++ [.own [a, b]]⟩)
    (fun k st => ∃ s7 s8 a b cs, st = ⟨[some (.c 0), some (.d r4), some (.d (.int m)), some (.d s3), some (.c k4), some (.d s5), some (.c c2.length), s7, s8, none, none], cs⟩ ∧ Ja (n + 1 + k) cs ∧ cs[c2.length]? = some (.own [a, b]) ∧ Fm m a ∧ Fm m b ∧ cs[k4]? = some (.own ts) ∧ cs[kl]? = some (.own [.int 0, .int 1])) 0
    (by rw [e_itE, e2, bind_ok]; exact v_itC (st := ⟨_, _⟩) lw)
    (fun k st ⟨_, _, _, _, cs, e, _, _, _, _, _, h⟩ => by subst e; exact gd_own (st := ⟨_, cs⟩) h rfl)
    ⟨s7, s8, a, b, _, rfl, (b3.app.app).mono (by simp only [List.length_cons, List.length_nil]; omega), get_app get_new, a2, b2, get_app (get_app k2), lw⟩
    (fun x hx k st ⟨s7, s8, a, b, cs, e, h1, h2, h3, h4, h5, h6⟩ => by
      subst e
      have hx : ∃ j : Nat, j < 2 ∧ x = .int j := by
        rcases List.mem_cons.mp hx with rfl | hx
        · exact ⟨0, by decide, rfl⟩
        · rw [List.mem_singleton.mp hx]; exact ⟨1, by decide, rfl⟩
      obtain ⟨j, hj, rfl⟩ := hx
      obtain ⟨s8', a', b', cs', g1, g2, g3, g4, g5, g6⟩ := sbody8_ok (n := n + 1 + k) (r4 := r4) (s3 := s3) (s5 := s5) (k4 := k4) (s8 := s8) hm (by omega) hj h1 (by omega) h2 h3 h4
      have l1 := lt_of_some k2
      exact ⟨_, _, rfl, g1, some (.d (.int j)), s8', a', b', cs', rfl, g2, g3, g4, g5, g6 k4 _ hk (by omega) h5, g6 _ _ (by omega) (by omega) h6⟩)
  have ol : lstE [(cE (.str "firm")), (cE (.str "firm")), (cE (.str "firm")), (cE (.str "open"))] ⟨[some (.c 0), some (.d r4), some (.d (.int m)), some (.d s3), some (.c k4), some (.d s5), some (.c c2.length), s7', s8', none, none], c3⟩ = .ok (.c c3.length) ⟨[some (.c 0), some (.d r4), some (.d (.int m)), some (.d s3), some (.c k4), some (.d s5), some (.c c2.length), s7', s8', none, none], c3 ++ [.own [.str "firm", .str "firm", .str "firm", .str "open"]]⟩ := lst_k (seq_k (f := cE (.str "firm")) rfl (seq_k (f := cE (.str "firm")) rfl (seq_k (f := cE (.str "firm")) rfl (seq_k (f := cE (.str "open")) rfl seq_0)))) rfl
  have p3 := i1.pos
  obtain ⟨y, c4, o1, o2, o3, o4⟩ := oneJ (n := n) (i := 0) (vs := [some (.c 0), some (.d r4), some (.d (.int m)), some (.d s3), some (.c k4), some (.d s5), some (.c c2.length), s7', s8', none, none]) (cs := c3) rfl ol get_new (by omega) (i1.app.mono (by omega)) (by simp) (by simp)
  have hs : ∃ s : Str, y = .str s ∧ (s = "firm" ∨ s = "open") := by
    simp only [List.mem_cons, List.not_mem_nil, or_false] at o2
    rcases o2 with rfl | rfl | rfl | rfl
    · exact ⟨_, rfl, .inl rfl⟩
    · exact ⟨_, rfl, .inl rfl⟩
    · exact ⟨_, rfl, .inl rfl⟩
    · exact ⟨_, rfl, .inr rfl⟩
  obtain ⟨s, rfl, hs⟩ := hs
  have x0 : bin2 ixV (varE 6) (cE (.int 0)) ⟨[some (.c 0), some (.d r4), some (.d (.int m)), some (.d s3), some (.c k4), some (.d s5), some (.c c2.length), s7', s8', none, none], c3⟩ = .ok (.d a') ⟨[some (.c 0), some (.d r4), some (.d (.int m)), some (.d s3), some (.c k4), some (.d s5), some (.c c2.length), s7', s8', none, none], c3⟩ := e_ixC (n := c2.length) (t := 0) (L := [a', b']) rfl rfl i2 (by simp)
  have x1 : bin2 ixV (varE 6) (cE (.int 1)) ⟨[some (.c 0), some (.d r4), some (.d (.int m)), some (.d s3), some (.c k4), some (.d s5), some (.c c2.length), s7', s8', none, none], c3⟩ = .ok (.d b') ⟨[some (.c 0), some (.d r4), some (.d (.int m)), some (.d s3), some (.c k4), some (.d s5), some (.c c2.length), s7', s8', none, none], c3⟩ := e_ixC (n := c2.length) (t := 1) (L := [a', b']) rfl rfl i2 (by simp)
  have e9 := e_tup3 x0 x1 o1
  have k5 : c4[k4]? = some (.own ts) := o4 k4 _ hk (get_app i5)
  have e10 := drop_m (g := appV) (fo := varE 4) (k := k4) (st1 := ⟨[some (.c 0), some (.d r4), some (.d (.int m)), some (.d s3), some (.c k4), some (.d s5), some (.c c2.length), s7', s8', none, none], c3⟩) (st := ⟨[some (.c 0), some (.d r4), some (.d (.int m)), some (.d s3), some (.c k4), some (.d s5), some (.c c2.length), s7', s8', none, none], c3⟩) rfl (by show (c3[k4]?).isSome = true; rw [i5]; rfl) e9 (v_app k5 (by omega))
  refine ⟨some (.c c2.length), s7', s8', .tup [a', b', .str s], _, ?_, o3.set hk, get_self k5, a', b', s, rfl, i3, i4, hs⟩
  unfold tBody
  rw [seq_nx e1]
  exact (seq_nx f1).trans e10
end Law
end
section
set_option Elab.async false
set_option linter.all false
set_option maxRecDepth 100000
set_option maxHeartbeats 4000000
namespace Law
open PySem Sh
def Wd (w : D) : Prop := ∃ (m : Nat) (rows ties : List D), w = .tup [.int m, .tup rows, .tup ties] ∧ 1 ≤ m ∧ m ≤ 8 ∧ rows.length ≤ 3 ∧ (∀ y ∈ rows, Fm m y) ∧ ties.length ≤ 4 ∧ ∀ y ∈ ties, Ti m y
theorem world_ok {n : Nat} {J : List D} (h : Jr (n + 250) J) : ∃ (w : D) (J' : List D), d__law_wb_world [.o J, .d (.int 8)] = .ok (.d w) [.own J'] ∧ Wd w ∧ Jr n J' := by
  rw [d__law_wb_world, e_run2, s_od]
  simp only [List.replicate, Nat.reduceSub]
  unfold m__law_wb_world
  have l1 : lstE [(cE (.int 1)), (cE (.int 1)), (cE (.int 2)), (cE (.int 2)), (cE (.int 3)), (cE (.int 4)), (varE 1)] ⟨[some (.c 0), some (.d (.int 8)), none, none, none, none, none, none, none, none, none], [.own J]⟩ = .ok (.c 1) ⟨[some (.c 0), some (.d (.int 8)), none, none, none, none, none, none, none, none, none], [.own J, .own [.int 1, .int 1, .int 2, .int 2, .int 3, .int 4, .int 8]]⟩ := rfl
  obtain ⟨y, c1, o1, o2, o3, _⟩ := oneJ (n := n + 249) (i := 0) (vs := [some (.c 0), some (.d (.int 8)), none, none, none, none, none, none, none, none, none]) (cs := [.own J]) rfl l1 rfl (by decide) ⟨J, rfl, h⟩ (by simp) (by simp)
  have hm : ∃ m : Nat, y = .int m ∧ 1 ≤ m ∧ m ≤ 8 := by
    simp only [List.mem_cons, List.not_mem_nil, or_false] at o2
    rcases o2 with rfl | rfl | rfl | rfl | rfl | rfl | rfl
    · exact ⟨1, rfl, by decide, by decide⟩
    · exact ⟨1, rfl, by decide, by decide⟩
    · exact ⟨2, rfl, by decide, by decide⟩
    · exact ⟨2, rfl, by decide, by decide⟩
    · exact ⟨3, rfl, by decide, by decide⟩
    · exact ⟨4, rfl, by decide, by decide⟩
    · exact ⟨8, rfl, by decide, by decide⟩
  obtain ⟨m, rfl, hm, hm2⟩ := hm
  have e1 := set_k (i := 2) o1
  obtain ⟨r, c2, t1, t2, t3, t4, _⟩ := takeJ (n := n + 248) (i := 0) (m := 4) (fm := cE (.int 4)) (vs := [some (.c 0), some (.d (.int 8)), some (.d (.int m)), none, none, none, none, none, none, none, none]) (cs := c1) (cs2 := c1) rfl rfl o3 (by decide) (by decide)
  obtain ⟨a, rfl⟩ := Int.eq_ofNat_of_zero_le t2
  obtain ⟨rows, c3, r1, r2, r3, r4⟩ := comp_inv (f := callE (callV d__law_wb_sum) [(varE 0), (varE 2)]) (it := itA rng1V [(callE (callV d__law_take) [(varE 0), (cE (.int 4))])]) (g := nameT 5) (us := [5]) (v0 := [some (.c 0), some (.d (.int 8)), some (.d (.int m)), none, none, none, none, none, none, none, none]) (ck := none) (L := rngL 0 a) (cs := c2) (st := ⟨[some (.c 0), some (.d (.int 8)), some (.d (.int m)), none, none, none, none, none, none, none, none], c1⟩)
    (Fm m) (fun k cs => Ja (n + 200 + 16 * k) cs) 0 (e_rngL t1 (bgl (by omega))) (by rw [rng_len]; omega) (fun _ _ _ => gd_none) (by rw [rng_len]; exact t4.mono (by omega)) fun x hx k cs hI => by
      obtain ⟨y, cs', g1, g2, g3, _⟩ := sumJ (n := n + 200 + 16 * k) (m := m) (i := 0) (j := 2) (vs := [some (.c 0), some (.d (.int 8)), some (.d (.int m)), none, none, some (.d x), none, none, none, none, none]) (cs := cs) rfl rfl (hI.mono (by omega)) (by omega)
      exact ⟨_, y, _, cs', rfl, g1, g2, g3⟩
  have e2 := set_k (i := 3) (e_tupC (cl := .own rows) r1 get_new)
  have rl : rows.length ≤ 3 := by rw [r2, rng_len]; omega
  have e3 : setS 4 (lstE []) ⟨[some (.c 0), some (.d (.int 8)), some (.d (.int m)), some (.d (.tup rows)), none, none, none, none, none, none, none], c3 ++ [.own rows]⟩ = .ok .nx ⟨[some (.c 0), some (.d (.int 8)), some (.d (.int m)), some (.d (.tup rows)), some (.c (c3 ++ [Cell.own rows]).length), none, none, none, none, none, none], c3 ++ [.own rows] ++ [.own []]⟩ := set_k (lst_k seq_0 rfl)
  have k4n : (c3 ++ [Cell.own rows]).length ≠ 0 := by simp
  have k4h : (c3 ++ [Cell.own rows] ++ [Cell.own []])[(c3 ++ [Cell.own rows]).length]? = some (.own []) := get_new
  have k4J : Ja (n + 200) (c3 ++ [Cell.own rows] ++ [Cell.own []]) := (r4.app.app).mono (by omega)
  generalize (c3 ++ [Cell.own rows]).length = k4 at e3 k4n k4h
  generalize c3 ++ [Cell.own rows] ++ [Cell.own []] = c4 at e3 k4h k4J
  obtain ⟨q, c5, u1, u2, u3, u4, u5⟩ := takeJ (n := n + 199) (i := 0) (m := 5) (fm := cE (.int 5)) (vs := [some (.c 0), some (.d (.int 8)), some (.d (.int m)), some (.d (.tup rows)), some (.c k4), none, none, none, none, none, none]) (cs := c4) (cs2 := c4) rfl rfl k4J (by decide) (by decide)
  obtain ⟨b, rfl⟩ := Int.eq_ofNat_of_zero_le u2
  obtain ⟨st6, f1, s5, s6, s7, s8, ties, c6, rfl, i1, i2, i3, i4⟩ := for_inv (it := itA rng1V [(callE (callV d__law_take) [(varE 0), (cE (.int 5))])]) (g := nameT 5) (b := tBody) (ck := none) (L := rngL 0 b)
    (st := ⟨[some (.c 0), some (.d (.int 8)), some (.d (.int m)), some (.d (.tup rows)), some (.c k4), none, none, none, none, none, none], c4⟩)
    (fun k st => ∃ s5 s6 s7 s8 ts cs, st = ⟨[some (.c 0), some (.d (.int 8)), some (.d (.int m)), some (.d (.tup rows)), some (.c k4), s5, s6, s7, s8, none, none], cs⟩ ∧ Ja (n + 35 * k) cs ∧ cs[k4]? = some (.own ts) ∧ ts.length + k = b ∧ ∀ y ∈ ts, Ti m y) 0
    (e_rngL u1 (bgl (by omega))) (fun _ _ _ => gd_none)
    ⟨_, _, _, _, [], _, rfl, u4.mono (by rw [rng_len]; omega), u5 k4 _ k4n k4h, by simp [rng_len], fun y hy => (nomatch hy)⟩
    (fun x hx k st ⟨s5, s6, s7, s8, ts, cs, e, h1, h2, h3, h4⟩ => by
      subst e
      obtain ⟨s6', s7', s8', y, cs', g1, g2, g3, g4⟩ := tbody_ok (n := n + 35 * k) (r4 := .int 8) (s3 := .tup rows) (s5 := x) (s6 := s6) (s7 := s7) (s8 := s8) hm hm2 (h1.mono (by omega)) k4n h2 (by omega) h4
      refine ⟨_, _, rfl, g1, some (.d x), s6', s7', s8', ts ++ [y], cs', rfl, g2, g3, by simp only [List.length_append, List.length_singleton]; omega, fun z hz => ?_⟩
      rcases List.mem_append.mp hz with hz | hz
      · exact h4 z hz
      · rw [List.mem_singleton.mp hz]; exact g4)
  obtain ⟨J', j1, j2⟩ := i1
  refine ⟨.tup [.int m, .tup rows, .tup ties], J', ?_, ⟨m, rows, ties, rfl, hm, hm2, rl, r3, by omega, i4⟩, j2.mono (by omega)⟩
  have e7 : callE tupleV [(varE 4)] ⟨[some (.c 0), some (.d (.int 8)), some (.d (.int m)), some (.d (.tup rows)), some (.c k4), s5, s6, s7, s8, none, none], c6⟩ = _ := e_tupC (cl := .own ties) rfl i2
  have e8 := e_tup3 (f := varE 2) (g := varE 3) (st := ⟨[some (.c 0), some (.d (.int 8)), some (.d (.int m)), some (.d (.tup rows)), some (.c k4), s5, s6, s7, s8, none, none], c6⟩) rfl rfl e7
  have e9 : retS (tupE [(varE 2), (varE 3), (callE tupleV [(varE 4)])]) ⟨[some (.c 0), some (.d (.int 8)), some (.d (.int m)), some (.d (.tup rows)), some (.c k4), s5, s6, s7, s8, none, none], c6⟩ = .ok (.ret (.d (.tup [.int m, .tup rows, .tup ties]))) ⟨[some (.c 0), some (.d (.int 8)), some (.d (.int m)), some (.d (.tup rows)), some (.c k4), s5, s6, s7, s8, none, none], c6⟩ := by
    rw [e_ret, e8, bind_ok]; rfl
  have all : (seqS (setS 2 (callE (callV d__law_one) [(varE 0), (lstE [(cE (.int 1)), (cE (.int 1)), (cE (.int 2)), (cE (.int 2)), (cE (.int 3)), (cE (.int 4)), (varE 1)])]))
  (seqS (setS 3 (callE tupleV [(compE (itA rng1V [(callE (callV d__law_take) [(varE 0), (cE (.int 4))])]) (nameT 5) (cE (.bl true)) (callE (callV d__law_wb_sum) [(varE 0), (varE 2)]) [5])]))
  (seqS (setS 4 (lstE []))
  (seqS (forS (itA rng1V [(callE (callV d__law_take) [(varE 0), (cE (.int 5))])]) (nameT 5) tBody)
  (retS (tupE [(varE 2), (varE 3), (callE tupleV [(varE 4)])])))))) ⟨[some (.c 0), some (.d (.int 8)), none, none, none, none, none, none, none, none, none], [.own J]⟩ = .ok (.ret (.d (.tup [.int m, .tup rows, .tup ties]))) ⟨[some (.c 0), some (.d (.int 8)), some (.d (.int m)), some (.d (.tup rows)), some (.c k4), s5, s6, s7, s8, none, none], c6⟩ :=
    (seq_nx e1).trans ((seq_nx e2).trans ((seq_nx e3).trans ((seq_nx f1).trans e9)))
  refine (congrArg (endD 1) all).trans ?_
  show RD.ok (.d _) (c6.take 1) = _
  rw [take1 j1]
end Law
end
section
set_option Elab.async false
set_option linter.all false
set_option maxRecDepth 100000
set_option maxHeartbeats 4000000
namespace Law
open PySem Sh
/-- plain, of this depth, of this size -/
def Q (d s : Nat) (y : D) : Prop := Pl y = true ∧ dep y ≤ d ∧ szD y ≤ s
theorem Q.up {d s d2 s2 : Nat} {y : D} (h : Q d s y) (hd : d ≤ d2) (hs : s ≤ s2) : Q d2 s2 y := ⟨h.1, Nat.le_trans h.2.1 hd, Nat.le_trans h.2.2 hs⟩
theorem Q.small {d s : Nat} {y : D} (h : Q d s y) (hd : d ≤ 40 := by omega) (hs : s ≤ 10000 := by omega) : Small y := h.up hd hs
theorem q_list {d s n : Nat} {xs : List D} (h : ∀ y ∈ xs, Q d s y) (hl : xs.length ≤ n) : Pls xs = true ∧ deps xs ≤ d ∧ szDs xs ≤ n * s := by
  refine ⟨Pls_of fun y hy => (h y hy).1, deps_le fun y hy => (h y hy).2.1, ?_⟩
  have : ∀ L : List D, (∀ y ∈ L, Q d s y) → szDs L ≤ L.length * s := fun L => by
    induction L with
    | nil => intro _; simp [szDs]
    | cons x r ih =>
      intro h
      have h1 := (h x List.mem_cons_self).2.2
      have h2 := ih fun y hy => h y (List.mem_cons_of_mem _ hy)
      simp only [szDs, List.length_cons]
      rw [Nat.succ_mul]; omega
  exact Nat.le_trans (this xs h) (Nat.mul_le_mul_right s hl)
theorem q_tup {d s n : Nat} {xs : List D} (h : ∀ y ∈ xs, Q d s y) (hl : xs.length ≤ n) : Q (d + 1) (n * s + 1) (.tup xs) := by
  obtain ⟨h1, h2, h3⟩ := q_list h hl
  exact ⟨h1, by simp only [dep]; omega, by simp only [szD]; omega⟩
theorem q_lst {d s n : Nat} {xs : List D} (h : ∀ y ∈ xs, Q d s y) (hl : xs.length ≤ n) : Q (d + 1) (n * s + 1) (.lst xs) := by
  obtain ⟨h1, h2, h3⟩ := q_list h hl
  exact ⟨h1, by simp only [dep]; omega, by simp only [szD]; omega⟩
theorem q_t2 {d s1 s2 : Nat} {a b : D} (ha : Q d s1 a) (hb : Q d s2 b) : Q (d + 1) (s1 + s2 + 1) (.tup [a, b]) := by
  obtain ⟨a1, a2, a3⟩ := ha
  obtain ⟨b1, b2, b3⟩ := hb
  exact ⟨by simp [Pl, Pls, a1, b1], by simp only [dep, deps]; omega, by simp only [szD, szDs]; omega⟩
theorem q_t3 {d s1 s2 s3 : Nat} {a b c : D} (ha : Q d s1 a) (hb : Q d s2 b) (hc : Q d s3 c) : Q (d + 1) (s1 + s2 + s3 + 1) (.tup [a, b, c]) := by
  obtain ⟨a1, a2, a3⟩ := ha
  obtain ⟨b1, b2, b3⟩ := hb
  obtain ⟨c1, c2, c3⟩ := hc
  exact ⟨by simp [Pl, Pls, a1, b1, c1], by simp only [dep, deps]; omega, by simp only [szD, szDs]; omega⟩
theorem q_l3 {d s1 s2 s3 : Nat} {a b c : D} (ha : Q d s1 a) (hb : Q d s2 b) (hc : Q d s3 c) : Q (d + 1) (s1 + s2 + s3 + 1) (.lst [a, b, c]) := by
  obtain ⟨a1, a2, a3⟩ := ha
  obtain ⟨b1, b2, b3⟩ := hb
  obtain ⟨c1, c2, c3⟩ := hc
  exact ⟨by simp [Pl, Pls, a1, b1, c1], by simp only [dep, deps]; omega, by simp only [szD, szDs]; omega⟩
theorem q_int (i : Int) : Q 0 1 (.int i) := ⟨rfl, by simp [dep], by simp [szD]⟩
theorem q_non : Q 0 1 .non := ⟨rfl, by simp [dep], by simp [szD]⟩
theorem q_bl (b : Bool) : Q 0 1 (.bl b) := ⟨rfl, by simp [dep], by simp [szD]⟩
theorem q_nil : Q 1 1 (.tup []) := ⟨rfl, by simp [dep, deps], by simp [szD, szDs]⟩
theorem q_str {s : Str} (h : PyData.strOk s = true) : Q 0 1 (.str s) := ⟨h, by simp [dep], by simp [szD]⟩
theorem so : PyData.strOk "firm" = true ∧ PyData.strOk "open" = true ∧ PyData.strOk "loose" = true ∧ PyData.strOk "0" = true ∧ PyData.strOk "1" = true := by decide +kernel
theorem fm_q {m : Nat} {y : D} (h : Fm m y) (hm : m ≤ 8) : Q 1 9 y := by
  obtain ⟨ys, rfl, hl, hi⟩ := h
  have := q_tup (d := 0) (s := 1) (n := 8) (xs := ys) (fun y hy => by obtain ⟨i, rfl⟩ := hi y hy; exact q_int i) (by omega)
  exact this.up (by omega) (by omega)
theorem ti_q {m : Nat} {y : D} (h : Ti m y) (hm : m ≤ 8) : Q 2 20 y := by
  obtain ⟨a, b, s, rfl, ha, hb, hs⟩ := h
  have hq : Q 1 1 (.str s) := (q_str (by rcases hs with rfl | rfl; exact so.1; exact so.2.1)).up (by omega) (by omega)
  exact (q_t3 (fm_q ha hm) (fm_q hb hm) hq).up (by omega) (by omega)
/-- a part of a thing; a thing -/
abbrev E (y : D) : Prop := Q 10 100 y
abbrev Tg (y : D) : Prop := Q 12 9200 y
def TL (xs : List D) : Prop := (∀ y ∈ xs, E y) ∧ xs.length ≤ 45
theorem TL.tup {xs : List D} (h : TL xs) : Q 11 4501 (.tup xs) := (q_tup h.1 h.2).up (by omega) (by omega)
theorem TL.lst {xs : List D} (h : TL xs) : Q 11 4501 (.lst xs) := (q_lst h.1 h.2).up (by omega) (by omega)
theorem E.t {y : D} (h : E y) : Q 11 4501 y := h.up (by omega) (by omega)
theorem tg3 {a b c : D} (ha : E a) (hb : Q 11 4501 b) (hc : Q 11 4501 c) : Tg (.tup [a, b, c]) := (q_t3 (ha.up (by omega) (Nat.le_refl _)) hb hc).up (by omega) (by omega)
theorem TL.app {xs ys : List D} (hx : ∀ y ∈ xs, E y) (hy : ∀ y ∈ ys, E y) (hl : xs.length + ys.length ≤ 45) : TL (xs ++ ys) :=
  ⟨fun y h => (List.mem_append.mp h).elim (hx y) (hy y), by rw [List.length_append]; exact hl⟩
theorem TL.rep {x : D} {k : Nat} (h : E x) (hk : k ≤ 45) : TL (List.replicate k x) := ⟨fun y hy => by rw [(List.mem_replicate.mp hy).2]; exact h, by rw [List.length_replicate]; exact hk⟩
/-! ### lists that grow -/
structure Tt (n k5 b : Nat) (cs : List Cell) : Prop where
  ja : Ja n cs
  nz : k5 ≠ 0
  some_ : ∃ L, cs[k5]? = some (.own L) ∧ (∀ y ∈ L, Tg y) ∧ L.length ≤ b
/-- what is neither jar nor this list stays -/
def Ko (k5 : Nat) (cs cs' : List Cell) : Prop := ∀ (j : Nat) (cl : Cell), j ≠ 0 → j ≠ k5 → cs[j]? = some cl → cs'[j]? = some cl
theorem Kp.ko {k5 : Nat} {cs cs' : List Cell} (h : Kp cs cs') : Ko k5 cs cs' := fun j cl h0 _ hc => h j cl h0 hc
theorem Ko.trans {k5 : Nat} {a b c : List Cell} (h : Ko k5 a b) (h2 : Ko k5 b c) : Ko k5 a c := fun j cl h0 h1 hc => h2 j cl h0 h1 (h j cl h0 h1 hc)
theorem Tt.kp {n n' k5 b : Nat} {cs cs' : List Cell} (h : Tt n k5 b cs) (hk : Kp cs cs') (hj : Ja n' cs') : Tt n' k5 b cs' := by
  obtain ⟨h1, h2, L, h3, h4⟩ := h
  exact ⟨hj, h2, L, hk k5 _ h2 h3, h4⟩
theorem Tt.mono {n n' k5 b b' : Nat} {cs : List Cell} (h : Tt n k5 b cs) (hn : n' ≤ n) (hb : b ≤ b') : Tt n' k5 b' cs := by
  obtain ⟨h1, h2, L, h3, h4, h5⟩ := h
  exact ⟨h1.mono hn, h2, L, h3, h4, by omega⟩
theorem ext_t {n k5 b c k : Nat} {f : S → OE} {vs : List (Option Val)} {cs cs' : List Cell} {ys : List D} (hv : vs[5]? = some (some (.c k5))) (h0 : (cs[k5]?).isSome = true) (hf : f ⟨vs, cs⟩ = .ok (.c k) ⟨vs, cs'⟩) (hk : cs'[k]? = some (.own ys)) (hy : ∀ y ∈ ys, Tg y) (hl : ys.length ≤ c) (hb : b + c ≤ 1000) (h : Tt n k5 b cs') :
    ∃ cs'', dropS (methE "list" extV (varE 5) [f]) ⟨vs, cs⟩ = .ok .nx ⟨vs, cs''⟩ ∧ Tt n k5 (b + c) cs'' ∧ Ko k5 cs' cs'' := by
  obtain ⟨h1, h2, L, h3, h4, h5⟩ := h
  refine ⟨_, drop_m (st1 := ⟨vs, cs⟩) (by rw [e_var, hv, e_varK]) h0 hf (v_extC h3 hk (by show L.length + ys.length ≤ _; omega)), ⟨h1.set h2, h2, _, get_self h3, fun y hm => ?_, ?_⟩, fun j cl hj hj2 hc => get_set hc (Ne.symm hj2)⟩
  · rcases List.mem_append.mp hm with hm | hm
    · exact h4 y hm
    · exact hy y hm
  · rw [List.length_append]
    show L.length + ys.length ≤ _
    omega
theorem app_t {n k5 b : Nat} {f : S → OE} {vs : List (Option Val)} {cs cs' : List Cell} {y : D} (hv : vs[5]? = some (some (.c k5))) (h0 : (cs[k5]?).isSome = true) (hf : f ⟨vs, cs⟩ = .ok (.d y) ⟨vs, cs'⟩) (hy : Tg y) (hb : b ≤ 1000) (h : Tt n k5 b cs') :
    ∃ cs'', dropS (methE "list" appV (varE 5) [f]) ⟨vs, cs⟩ = .ok .nx ⟨vs, cs''⟩ ∧ Tt n k5 (b + 1) cs'' ∧ Ko k5 cs' cs'' := by
  obtain ⟨h1, h2, L, h3, h4, h5⟩ := h
  refine ⟨_, drop_m (st1 := ⟨vs, cs⟩) (by rw [e_var, hv, e_varK]) h0 hf (v_app h3 (by omega)), ⟨h1.set h2, h2, _, get_self h3, fun z hm => ?_, ?_⟩, fun j cl hj hj2 hc => get_set hc (Ne.symm hj2)⟩
  · rcases List.mem_append.mp hm with hm | hm
    · exact h4 z hm
    · rw [List.mem_singleton.mp hm]; exact hy
  · rw [List.length_append, List.length_singleton]; omega
theorem Tt.some {n k5 b : Nat} {cs : List Cell} (h : Tt n k5 b cs) : (cs[k5]?).isSome = true := by
  obtain ⟨_, _, L, h3, _⟩ := h
  rw [h3]; rfl
end Law
end
section
set_option Elab.async false
set_option linter.all false
set_option maxRecDepth 100000
set_option maxHeartbeats 4000000
namespace Law
open PySem Sh
section
variable {n k5 k7 m b : Nat} {w odd : D} {rs ts us : List D} {s9 s10 : Option Val} {cs : List Cell} {o7 : Option Val}
abbrev V13 (w : D) (m : Nat) (rs ts us : List D) (k5 : Nat) (o7 o8 o9 o10 : Option Val) : List (Option Val) := [some (.c 0), some (.d w), some (.d (.int m)), some (.d (.tup rs)), some (.d (.tup ts)), some (.c k5), some (.d (.tup us)), o7, o8, o9, o10, none, none]
theorem lenJ {i k : Nat} {xs : List D} {vs : List (Option Val)} (hv : vs[0]? = some (some (.c 0))) (hx : vs[i]? = some (some (.d (.tup xs)))) (h : Ja (n + 1) cs) (hl : xs.length ≤ 1000) :
    ∃ (a : Nat) (cs' : List Cell), callE (callV d__law_take) [(varE 0), (bin2 addV (callE lenV [(varE i)]) (cE (.int 1)))] ⟨vs, cs⟩ = .ok (.d (.int a)) ⟨vs, cs'⟩ ∧ a ≤ xs.length ∧ Ja n cs' ∧ Kp cs cs' := by
  have e : bin2 addV (callE lenV [(varE i)]) (cE (.int 1)) ⟨vs, cs⟩ = .ok (.d (.int ((xs.length : Int) + 1))) ⟨vs, cs⟩ := by
    rw [e_bin, e_call, e_cons, e_var, hx, e_varK, bind_ok, e_nil, bind_ok, bind_ok]; rfl
  obtain ⟨r, cs', t1, t2, t3, t4, t5⟩ := takeJ (n := n) hv e h (by omega) (by omega)
  obtain ⟨a, rfl⟩ := Int.eq_ofNat_of_zero_le t2
  exact ⟨a, cs', t1, by omega, t4, t5⟩
/-- xs[:at] + (x, ..) + xs[at:] -/
theorem e_mid {i a a2 : Nat} {xs ys : List D} {vs : List (Option Val)} {f fe : S → OE} (hx : vs[i]? = some (some (.d (.tup xs)))) (ha : vs[9]? = some (some (.d (.int a)))) (hf : f ⟨vs, cs⟩ = .ok (.d (.tup ys)) ⟨vs, cs⟩) (he : fe ⟨vs, cs⟩ = .ok (.d (.int a2)) ⟨vs, cs⟩) (hl : xs.length ≤ 1000) (hl2 : ys.length ≤ 1000) :
    bin2 addV (bin2 addV (sliceE (varE i) noP (atP (varE 9))) f) (sliceE (varE i) (atP fe) noP) ⟨vs, cs⟩ = .ok (.d (.tup (xs.take a ++ ys ++ xs.drop a2))) ⟨vs, cs⟩ := by
  have lt := List.length_take (i := a) (l := xs)
  have ld := List.length_drop (i := a2) (l := xs)
  exact e_addT (e_addT (sl_takeA (e_var1 hx) (e_var1 ha)) hf (by omega)) (sl_dropA (e_var1 hx) he) (by rw [List.length_append]; omega)
theorem tl_mid {a a2 : Nat} {xs ys : List D} (hx : ∀ y ∈ xs, Sh.wf y = Sh.wf y) : True := trivial
def oBody : S → OS := (seqS (setS 9 (callE (callV d__law_take) [(varE 0), (bin2 addV (callE lenV [(varE 3)]) (cE (.int 1)))]))
  (seqS (dropS (methE "list" appV (varE 5) [(tupE [(varE 2), (bin2 addV (bin2 addV (sliceE (varE 3) noP (atP (varE 9))) (tupE [(varE 8)])) (sliceE (varE 3) (atP (varE 9)) noP)), (varE 4)])]))
  (seqS (dropS (methE "list" appV (varE 5) [(tupE [(varE 2), (bin2 addV (bin2 addV (sliceE (varE 3) noP (atP (varE 9))) (tupE [(varE 8), (cE .non)])) (sliceE (varE 3) (atP (bin2 addV (varE 9) (cE (.int 1)))) noP)), (tupE [(cE .non)])])]))
  (seqS (setS 10 (callE (callV d__law_one) [(varE 0), (lstE [(tupE [(varE 8), (varE 6), (cE (.str "firm"))]), (tupE [(varE 6), (varE 8), (cE (.str "open"))])])]))
  (seqS (setS 9 (callE (callV d__law_take) [(varE 0), (bin2 addV (callE lenV [(varE 4)]) (cE (.int 1)))]))
  (dropS (methE "list" appV (varE 5) [(tupE [(varE 2), (varE 3), (bin2 addV (bin2 addV (sliceE (varE 4) noP (atP (varE 9))) (tupE [(varE 10)])) (sliceE (varE 4) (atP (varE 9)) noP))])])))))))
theorem midE {a a2 : Nat} {xs ys : List D} (hx : ∀ y ∈ xs, E y) (hy : ∀ y ∈ ys, E y) (hl : xs.length ≤ 10) (hl2 : ys.length ≤ 10) : Q 11 4501 (.tup (xs.take a ++ ys ++ xs.drop a2)) := by
  have lt := List.length_take (i := a) (l := xs)
  have ld := List.length_drop (i := a2) (l := xs)
  refine TL.tup ⟨fun y h => ?_, by rw [List.length_append, List.length_append]; omega⟩
  simp only [List.mem_append] at h
  rcases h with (h | h) | h
  · exact hx y (mt h)
  · exact hy y h
  · exact hx y (md h)
theorem one1 {P : D → Prop} {x : D} (h : P x) : ∀ y ∈ [x], P y := fun y hy => by rw [List.mem_singleton.mp hy]; exact h
theorem one2 {P : D → Prop} {x z : D} (h : P x) (h2 : P z) : ∀ y ∈ [x, z], P y := fun y hy => by
  rcases List.mem_cons.mp hy with rfl | hy
  · exact h
  · rw [List.mem_singleton.mp hy]; exact h2
theorem obody_ok (hm : m ≤ 8) (hr : ∀ y ∈ rs, Fm m y) (hrl : rs.length ≤ 3) (ht : ∀ y ∈ ts, Ti m y) (htl : ts.length ≤ 4) (hu : Fm m (.tup us)) (ho : Q 4 30 odd) (hb : b ≤ 900) (h : Tt (n + 3) k5 b cs) :
    ∃ s9' s10' cs', oBody ⟨V13 w m rs ts us k5 o7 (some (.d odd)) s9 s10, cs⟩ = .ok .nx ⟨V13 w m rs ts us k5 o7 (some (.d odd)) s9' s10', cs'⟩ ∧ Tt n k5 (b + 3) cs' ∧ Ko k5 cs cs' := by
  have er : ∀ y ∈ rs, E y := fun y hy => (fm_q (hr y hy) hm).up (by omega) (by omega)
  have et : ∀ y ∈ ts, E y := fun y hy => (ti_q (ht y hy) hm).up (by omega) (by omega)
  have eo : E odd := ho.up (by omega) (by omega)
  have ei : E (.int m) := (q_int _).up (by omega) (by omega)
  have en : E .non := q_non.up (by omega) (by omega)
  have tr : Q 11 4501 (.tup rs) := TL.tup ⟨er, by omega⟩
  have tt : Q 11 4501 (.tup ts) := TL.tup ⟨et, by omega⟩
  obtain ⟨a, c1, a1, a2, a3, a4⟩ := lenJ (n := n + 2) (i := 3) (k := 0) (xs := rs) (vs := V13 w m rs ts us k5 o7 (some (.d odd)) s9 s10) rfl rfl (h.ja.mono (by omega)) (by omega)
  have h1 := h.kp a4 a3
  have e1 := set_k (i := 9) a1
  have f1 := e_tup3 (f := varE 2) (k := varE 4) (st := ⟨V13 w m rs ts us k5 o7 (some (.d odd)) (some (.d (.int a))) s10, c1⟩) rfl (e_mid (i := 3) (a := a) (a2 := a) (xs := rs) (ys := [odd]) (f := tupE [(varE 8)]) (fe := varE 9) rfl rfl rfl rfl (by omega) (by simp)) rfl
  obtain ⟨c2, e2, h2, o2⟩ := app_t (vs := V13 w m rs ts us k5 o7 (some (.d odd)) (some (.d (.int a))) s10) rfl h1.some f1 (tg3 ei (midE er (one1 eo) (by omega) (by simp)) tt) (by omega) h1
  have f2 := e_tup3 (f := varE 2) (k := tupE [(cE .non)]) (st := ⟨V13 w m rs ts us k5 o7 (some (.d odd)) (some (.d (.int a))) s10, c2⟩) rfl (e_mid (i := 3) (a := a) (a2 := a + 1) (xs := rs) (ys := [odd, .non]) (f := tupE [(varE 8), (cE .non)]) (fe := bin2 addV (varE 9) (cE (.int 1))) rfl rfl rfl rfl (by omega) (by simp)) rfl
  obtain ⟨c3, e3, h3, o3⟩ := app_t (vs := V13 w m rs ts us k5 o7 (some (.d odd)) (some (.d (.int a))) s10) rfl h2.some f2 (tg3 ei (midE er (one2 eo en) (by omega) (by simp)) ((q_tup (n := 1) (one1 q_non) (by simp)).up (by omega) (by omega))) (by omega) h2
  have l4 : lstE [(tupE [(varE 8), (varE 6), (cE (.str "firm"))]), (tupE [(varE 6), (varE 8), (cE (.str "open"))])] ⟨V13 w m rs ts us k5 o7 (some (.d odd)) (some (.d (.int a))) s10, c3⟩ = .ok (.c c3.length) ⟨V13 w m rs ts us k5 o7 (some (.d odd)) (some (.d (.int a))) s10, c3 ++ [.own [.tup [odd, .tup us, .str "firm"], .tup [.tup us, odd, .str "open"]]]⟩ := rfl
  have p3 := h3.ja.pos
  obtain ⟨y, c4, t1, t2, t3, t4⟩ := oneJ (n := n + 1) (i := 0) (vs := V13 w m rs ts us k5 o7 (some (.d odd)) (some (.d (.int a))) s10) (cs := c3) rfl l4 get_new (by omega) h3.ja.app (by simp) (by simp)
  have hy : E y := by
    have uq := fm_q hu hm
    have u1 : Q 4 9 (.tup us) := uq.up (by omega) (by omega)
    have z1 : Q 4 1 (.str "firm") := (q_str so.1).up (by omega) (by omega)
    have z2 : Q 4 1 (.str "open") := (q_str so.2.1).up (by omega) (by omega)
    have q1 : E (.tup [odd, .tup us, .str "firm"]) := (q_t3 ho u1 z1).up (by omega) (by omega)
    have q2 : E (.tup [.tup us, odd, .str "open"]) := (q_t3 u1 ho z2).up (by omega) (by omega)
    rcases List.mem_cons.mp t2 with rfl | t2
    · exact q1
    · rw [List.mem_singleton.mp t2]; exact q2
  have h4 : Tt (n + 1) k5 (b + 1 + 1) c4 := (h3.kp (n' := n + 2) .app h3.ja.app).kp t4 t3
  have e4 := set_k (i := 10) t1
  obtain ⟨a', c5, b1, b2, b3, b4⟩ := lenJ (n := n) (i := 4) (k := 0) (xs := ts) (vs := V13 w m rs ts us k5 o7 (some (.d odd)) (some (.d (.int a))) (some (.d y))) rfl rfl t3 (by omega)
  have h5 := h4.kp b4 b3
  have e5 := set_k (i := 9) b1
  have f6 := e_tup3 (f := varE 2) (g := varE 3) (st := ⟨V13 w m rs ts us k5 o7 (some (.d odd)) (some (.d (.int a'))) (some (.d y)), c5⟩) rfl rfl (e_mid (i := 4) (a := a') (a2 := a') (xs := ts) (ys := [y]) (f := tupE [(varE 10)]) (fe := varE 9) rfl rfl rfl rfl (by omega) (by simp))
  obtain ⟨c6, e6, h6, o6⟩ := app_t (vs := V13 w m rs ts us k5 o7 (some (.d odd)) (some (.d (.int a'))) (some (.d y))) rfl h5.some f6 (tg3 ei tr (midE et (one1 hy) (by omega) (by simp))) (by omega) h5
  refine ⟨some (.d (.int a')), some (.d y), c6, ?_, h6.mono (by omega) (by omega), ((((a4.ko.trans o2).trans o3).trans (Kp.trans .app t4).ko).trans b4.ko).trans o6⟩
  exact (seq_nx e1).trans ((seq_nx e2).trans ((seq_nx e3).trans ((seq_nx e4).trans ((seq_nx e5).trans e6))))
def pBody5 : S → OS := (seqS (setS 9 (callE (callV d__law_take) [(varE 0), (bin2 addV (callE lenV [(varE 4)]) (cE (.int 1)))]))
  (dropS (methE "list" appV (varE 5) [(tupE [(varE 2), (varE 3), (bin2 addV (bin2 addV (sliceE (varE 4) noP (atP (varE 9))) (tupE [(varE 8), (cE (.int 5))])) (sliceE (varE 4) (atP (varE 9)) noP))])])))
theorem pbody_ok (hm : m ≤ 8) (hr : ∀ y ∈ rs, Fm m y) (hrl : rs.length ≤ 3) (ht : ∀ y ∈ ts, Ti m y) (htl : ts.length ≤ 4) (ho : E odd) (hb : b ≤ 900) (h : Tt (n + 1) k5 b cs) :
    ∃ s9' cs', pBody5 ⟨V13 w m rs ts us k5 o7 (some (.d odd)) s9 s10, cs⟩ = .ok .nx ⟨V13 w m rs ts us k5 o7 (some (.d odd)) s9' s10, cs'⟩ ∧ Tt n k5 (b + 1) cs' ∧ Ko k5 cs cs' := by
  have er : ∀ y ∈ rs, E y := fun y hy => (fm_q (hr y hy) hm).up (by omega) (by omega)
  have et : ∀ y ∈ ts, E y := fun y hy => (ti_q (ht y hy) hm).up (by omega) (by omega)
  have ei : E (.int m) := (q_int _).up (by omega) (by omega)
  have e5' : E (.int 5) := (q_int _).up (by omega) (by omega)
  have tr : Q 11 4501 (.tup rs) := TL.tup ⟨er, by omega⟩
  obtain ⟨a, c1, a1, a2, a3, a4⟩ := lenJ (n := n) (i := 4) (k := 0) (xs := ts) (vs := V13 w m rs ts us k5 o7 (some (.d odd)) s9 s10) rfl rfl h.ja (by omega)
  have h1 := h.kp a4 a3
  have e1 := set_k (i := 9) a1
  have f1 := e_tup3 (f := varE 2) (g := varE 3) (st := ⟨V13 w m rs ts us k5 o7 (some (.d odd)) (some (.d (.int a))) s10, c1⟩) rfl rfl (e_mid (i := 4) (a := a) (a2 := a) (xs := ts) (ys := [odd, .int 5]) (f := tupE [(varE 8), (cE (.int 5))]) (fe := varE 9) rfl rfl rfl rfl (by omega) (by simp))
  obtain ⟨c2, e2, h2, o2⟩ := app_t (vs := V13 w m rs ts us k5 o7 (some (.d odd)) (some (.d (.int a))) s10) rfl h1.some f1 (tg3 ei tr (midE et (one2 ho e5') (by omega) (by simp))) (by omega) h1
  exact ⟨_, c2, (seq_nx e1).trans e2, h2, a4.ko.trans o2⟩
end
end Law
end
section
set_option Elab.async false
set_option linter.all false
set_option maxRecDepth 100000
set_option maxHeartbeats 4000000
namespace Law
open PySem Sh
theorem mul_rep {x : D} {n : Int} (h1 : 1 ≤ n) (h2 : n ≤ 1000) (st : S) : mulW (.d (.tup [x])) (.d (.int n)) st = .ok (.d (.tup (List.replicate n.toNat x))) st := by
  unfold mulW
  by_cases e : n = 1
  · subst e; rfl
  · have e1 : ((n == 1) = false) := beq_eq_false_iff_ne.mpr e
    simp only [List.isEmpty_cons, Bool.false_or, e1, Bool.false_and, Bool.false_eq_true, if_false]
    unfold mulV
    exact (if_pos ⟨by simp, by omega, h2, by simp⟩).trans (by rw [flat_one])
theorem e_mul {x : D} {n : Int} {f g : S → OE} {st st1 st2 : S} (hf : f st = .ok (.d (.tup [x])) st1) (hg : g st1 = .ok (.d (.int n)) st2) (h1 : 1 ≤ n) (h2 : n ≤ 1000) : bin2 mulW f g st = .ok (.d (.tup (List.replicate n.toNat x))) st2 := by
  rw [e_bin, hf, bind_ok, hg, bind_ok, mul_rep h1 h2]
theorem bentJ {n i : Nat} {x : D} {f : S → OE} {vs : List (Option Val)} {cs cs2 : List Cell} (hv : vs[i]? = some (some (.c 0))) (hf : f ⟨vs, cs⟩ = .ok (.d x) ⟨vs, cs2⟩) (h : Ja (n + 36) cs2) (hp : Pl x = true) (hd : dep x ≤ 11) (hs : szD x ≤ 100000) :
    ∃ (y : D) (cs' : List Cell), callE (callV (d__law_wb_bent 12)) [varE i, f] ⟨vs, cs⟩ = .ok (.d y) ⟨vs, cs'⟩ ∧ Bn x y ∧ Ja n cs' ∧ Kp cs2 cs' := by
  obtain ⟨J, h1, h2⟩ := h
  obtain ⟨y, J', g1, g2, g3⟩ := bent_ok 11 (n := n) (x := x) (by decide) h2 hp hd hs
  exact ⟨y, _, call_jd (d := d__law_wb_bent 12) (f := f) (i := i) (j := 0) (cs2 := cs2) hv hf h1 g1, g2, ⟨J', get_self h1, g3⟩, .set0⟩
def KL : List D := [.int 0, .int 41, .int (-1), .bl true, .non, .str "1", .tup [.int 1], .int 100000000000000000000]
def KE : S → OE := lstE [(cE (.int 0)), (cE (.int 41)), (un1 negV (cE (.int 1))), (cE (.bl true)), (cE .non), (cE (.str "1")), (tupE [(cE (.int 1))]), (bin2 powV (cE (.int 10)) (cE (.int 20)))]
theorem ke_ok {vs : List (Option Val)} {cs : List Cell} : KE ⟨vs, cs⟩ = .ok (.c cs.length) ⟨vs, cs ++ [.own KL]⟩ :=
  lst_k (seq_k (f := cE (.int 0)) rfl (seq_k (f := cE (.int 41)) rfl (seq_k (f := un1 negV (cE (.int 1))) rfl (seq_k (f := cE (.bl true)) rfl (seq_k (f := cE .non) rfl (seq_k (f := cE (.str "1")) rfl (seq_k (f := tupE [(cE (.int 1))]) rfl (seq_k (f := bin2 powV (cE (.int 10)) (cE (.int 20))) rfl seq_0)))))))) rfl
theorem kl_e {y : D} (h : y ∈ KL) : Q 1 2 y := by
  unfold KL at h
  simp only [List.mem_cons, List.not_mem_nil, or_false] at h
  rcases h with rfl | rfl | rfl | rfl | rfl | rfl | rfl | rfl
  all_goals exact ⟨by decide +kernel, by decide +kernel, by decide +kernel⟩
def KM : List D := [.int 1000, .int (-1000), .int 1001, .int (-1001), .non, .str "0", .tup [.int 0, .int 1]]
def KF : S → OE := lstE [(cE (.int 1000)), (un1 negV (cE (.int 1000))), (cE (.int 1001)), (un1 negV (cE (.int 1001))), (cE .non), (cE (.str "0")), (tupE [(cE (.int 0)), (cE (.int 1))])]
theorem kf_ok {vs : List (Option Val)} {cs : List Cell} : KF ⟨vs, cs⟩ = .ok (.c cs.length) ⟨vs, cs ++ [.own KM]⟩ :=
  lst_k (seq_k (f := cE (.int 1000)) rfl (seq_k (f := un1 negV (cE (.int 1000))) rfl (seq_k (f := cE (.int 1001)) rfl (seq_k (f := un1 negV (cE (.int 1001))) rfl (seq_k (f := cE .non) rfl (seq_k (f := cE (.str "0")) rfl (seq_k (f := tupE [(cE (.int 0)), (cE (.int 1))]) rfl seq_0))))))) rfl
theorem km_e {y : D} (h : y ∈ KM) : Q 1 3 y := by
  unfold KM at h
  simp only [List.mem_cons, List.not_mem_nil, or_false] at h
  rcases h with rfl | rfl | rfl | rfl | rfl | rfl | rfl
  all_goals exact ⟨by decide +kernel, by decide +kernel, by decide +kernel⟩
def unitsOf (m : Nat) : List D := (rngL 0 m).map fun y => match y with | .int i => D.int (if i == 0 then 1 else 0) | _ => .int 0
theorem units_fm (m : Nat) : Fm m (.tup (unitsOf m)) := ⟨_, rfl, by unfold unitsOf; rw [List.length_map, rng_len], fun y hy => by
  unfold unitsOf at hy
  obtain ⟨w, _, rfl⟩ := List.mem_map.mp hy
  cases w <;> exact ⟨_, rfl⟩⟩
def oddsOf (m : Nat) : List D := [.tup ((unitsOf m).drop 1), .tup (unitsOf m ++ [.int 0]), .lst (unitsOf m), .non, .tup [], .int 5, .tup (List.replicate m (.int 0)), .tup ((unitsOf m).take ((unitsOf m).length - 1) ++ [.bl true])] ++ KM.map fun y => .tup ((unitsOf m).take ((unitsOf m).length - 1) ++ [y])
theorem odds_q {m : Nat} (hm : m ≤ 8) {y : D} (h : y ∈ oddsOf m) : Q 4 30 y := by
  obtain ⟨us, e, hl, hi⟩ := units_fm m
  have e : unitsOf m = us := by cases e; rfl
  have ui : ∀ y ∈ us, Q 1 3 y := fun y hy => by obtain ⟨i, rfl⟩ := hi y hy; exact (q_int i).up (by omega) (by omega)
  have it : ∀ y ∈ us.take (us.length - 1), Q 1 3 y := fun y hy => ui y (mt hy)
  have lt := List.length_take (i := us.length - 1) (l := us)
  have ld := List.length_drop (i := 1) (l := us)
  have ap : ∀ {xs : List D} {z : D}, (∀ y ∈ xs, Q 1 3 y) → xs.length ≤ 8 → Q 1 3 z → Q 4 30 (.tup (xs ++ [z])) := fun {xs z} h1 h2 h3 =>
    (q_tup (d := 1) (s := 3) (n := 9) (fun y hy => (List.mem_append.mp hy).elim (h1 y) fun h => by rw [List.mem_singleton.mp h]; exact h3) (by rw [List.length_append, List.length_singleton]; omega)).up (by omega) (by omega)
  unfold oddsOf at h
  rw [e] at h
  rcases List.mem_append.mp h with h | h
  · simp only [List.mem_cons, List.not_mem_nil, or_false] at h
    rcases h with rfl | rfl | rfl | rfl | rfl | rfl | rfl | rfl
    · exact (q_tup (d := 1) (s := 3) (n := 8) (fun y hy => ui y (md hy)) (by omega)).up (by omega) (by omega)
    · exact ap ui (by omega) ((q_int 0).up (by omega) (by omega))
    · exact (q_lst (d := 1) (s := 3) (n := 8) ui (by omega)).up (by omega) (by omega)
    · exact q_non.up (by omega) (by omega)
    · exact q_nil.up (by omega) (by omega)
    · exact (q_int 5).up (by omega) (by omega)
    · exact (q_tup (d := 1) (s := 3) (n := 8) (fun y hy => by rw [(List.mem_replicate.mp hy).2]; exact (q_int 0).up (by omega) (by omega)) (by rw [List.length_replicate]; omega)).up (by omega) (by omega)
    · exact ap it (by omega) ((q_bl true).up (by omega) (by omega))
  · obtain ⟨z, hz, rfl⟩ := List.mem_map.mp h
    exact ap it (by omega) (km_e hz)
section
variable {n m : Nat} {rs ts : List D} {J : List D}
abbrev wOf (m : Nat) (rs ts : List D) : D := .tup [.int m, .tup rs, .tup ts]
abbrev V0 (m : Nat) (rs ts : List D) (k5 : Nat) : List (Option Val) := [some (.c 0), some (.d (wOf m rs ts)), some (.d (.int m)), some (.d (.tup rs)), some (.d (.tup ts)), some (.c k5), none, none, none, none, none, none, none]
/-- the first list -/
theorem th_b (hm : m ≤ 8) (hr : ∀ y ∈ rs, Fm m y) (hrl : rs.length ≤ 3) (ht : ∀ y ∈ ts, Ti m y) (htl : ts.length ≤ 4) (h : Jr n J) :
    ∃ cs, setS 5 (lstE [(varE 1), (callE listV [(varE 1)]), (cE .non), (cE (.int 0)), (tupE []), (tupE [(varE 2), (varE 3)]), (bin2 addV (varE 1) (tupE [(cE (.int 0))])), (tupE [(varE 2), (callE listV [(varE 3)]), (cE .non)]), (tupE [(varE 2), (cE .non), (cE .non)])]) ⟨[some (.c 0), some (.d (wOf m rs ts)), some (.d (.int m)), some (.d (.tup rs)), some (.d (.tup ts)), none, none, none, none, none, none, none, none], [.own J]⟩ = .ok .nx ⟨V0 m rs ts 3, cs⟩ ∧ Tt n 3 9 cs := by
  have er : ∀ y ∈ rs, E y := fun y hy => (fm_q (hr y hy) hm).up (by omega) (by omega)
  have et : ∀ y ∈ ts, E y := fun y hy => (ti_q (ht y hy) hm).up (by omega) (by omega)
  have ei : E (.int m) := (q_int _).up (by omega) (by omega)
  have en : E .non := q_non.up (by omega) (by omega)
  have tr : Q 11 4501 (.tup rs) := TL.tup ⟨er, by omega⟩
  have tt : Q 11 4501 (.tup ts) := TL.tup ⟨et, by omega⟩
  refine ⟨[.own J, .frz [.int m, .tup rs, .tup ts], .frz rs, .own [wOf m rs ts, .lst [.int m, .tup rs, .tup ts], .non, .int 0, .tup [], .tup [.int m, .tup rs], .tup [.int m, .tup rs, .tup ts, .int 0], .tup [.int m, .lst rs, .non], .tup [.int m, .non, .non]]], rfl, ⟨J, rfl, h⟩, by decide, _, rfl, fun y hy => ?_, by simp⟩
  simp only [List.mem_cons, List.not_mem_nil, or_false] at hy
  rcases hy with rfl | rfl | rfl | rfl | rfl | rfl | rfl | rfl | rfl
  · exact tg3 ei tr tt
  · exact (q_l3 (ei.up (by omega) (Nat.le_refl _)) tr tt).up (by omega) (by omega)
  · exact q_non.up (by omega) (by omega)
  · exact (q_int 0).up (by omega) (by omega)
  · exact q_nil.up (by omega) (by omega)
  · exact (q_t2 (ei.up (by omega) (Nat.le_refl _)) tr).up (by omega) (by omega)
  · obtain ⟨a1, a2, a3⟩ := tr
    obtain ⟨b1, b2, b3⟩ := tt
    exact ⟨by simp [Pl, Pls] at a1 b1 ⊢; exact ⟨a1, b1⟩, by simp only [dep, deps] at *; omega, by simp only [szD, szDs] at *; omega⟩
  · exact tg3 ei (TL.lst ⟨er, by omega⟩) en.t
  · exact tg3 ei en.t en.t
end
end Law
end
section
set_option Elab.async false
set_option linter.all false
set_option maxRecDepth 100000
set_option maxHeartbeats 4000000
namespace Law
open PySem Sh
section
variable {n m b k5 : Nat} {rs ts : List D} {cs : List Cell}
structure Hy (m : Nat) (rs ts : List D) : Prop where
  m1 : 1 ≤ m
  m8 : m ≤ 8
  r : ∀ y ∈ rs, Fm m y
  rl : rs.length ≤ 3
  t : ∀ y ∈ ts, Ti m y
  tl : ts.length ≤ 4
theorem Hy.ei (H : Hy m rs ts) : E (.int m) := (q_int _).up (by omega) (by omega)
theorem e_non : E .non := q_non.up (by omega) (by omega)
theorem Hy.tr (H : Hy m rs ts) : TL rs := ⟨fun y hy => (fm_q (H.r y hy) H.m8).up (by omega) (by omega), by have := H.rl; omega⟩
theorem Hy.tt (H : Hy m rs ts) : TL ts := ⟨fun y hy => (ti_q (H.t y hy) H.m8).up (by omega) (by omega), by have := H.tl; omega⟩
theorem all3 {P : D → Prop} {x y z : D} (h : P x) (h2 : P y) (h3 : P z) : ∀ w ∈ [x, y, z], P w := fun w hw => by
  rcases List.mem_cons.mp hw with rfl | hw
  · exact h
  · exact one2 h2 h3 w hw
theorem all4 {P : D → Prop} {x y z u : D} (h : P x) (h2 : P y) (h3 : P z) (h4 : P u) : ∀ w ∈ [x, y, z, u], P w := fun w hw => by
  rcases List.mem_cons.mp hw with rfl | hw
  · exact h
  · exact all3 h2 h3 h4 w hw
theorem Tt.app {ds : List Cell} (h : Tt n k5 b cs) : Tt n k5 b (cs ++ ds) := h.kp .app h.ja.app
theorem th_c (H : Hy m rs ts) (hb : b ≤ 500) (h : Tt n k5 b cs) :
    ∃ cs', dropS (methE "list" extV (varE 5) [(lstE [(tupE [(varE 2), (varE 3), (callE listV [(varE 4)])]), (tupE [(varE 2), (varE 3), (cE .non)]), (tupE [(varE 2), (bin2 mulW (tupE [(cE .non)]) (cE (.int 41))), (cE .non)]), (tupE [(varE 2), (bin2 mulW (tupE [(cE .non)]) (cE (.int 40))), (cE (.int 5))])])]) ⟨V0 m rs ts k5, cs⟩ = .ok .nx ⟨V0 m rs ts k5, cs'⟩ ∧ Tt n k5 (b + 4) cs' ∧ Ko k5 cs cs' := by
  have e1 : tupE [(varE 2), (varE 3), (callE listV [(varE 4)])] ⟨V0 m rs ts k5, cs⟩ = .ok (.d (.tup [.int m, .tup rs, .lst ts])) ⟨V0 m rs ts k5, cs ++ [.frz ts]⟩ := by
    rw [e_tup, seq_k (f := varE 2) (v := .d (.int m)) (st1 := ⟨V0 m rs ts k5, cs⟩) (ws := [.d (.tup rs), .c cs.length]) (st2 := ⟨V0 m rs ts k5, cs ++ [.own ts]⟩) rfl (seq_k (f := varE 3) rfl (seq_k (f := callE listV [(varE 4)]) rfl seq_0)), bind_ok]
    have g : (cs ++ [Cell.own ts])[cs.length]? = some (.own ts) := get_new
    simp only [toDs, toD, g, set_new]
    rfl
  have e2 : tupE [(varE 2), (varE 3), (cE .non)] ⟨V0 m rs ts k5, cs ++ [.frz ts]⟩ = .ok (.d (.tup [.int m, .tup rs, .non])) ⟨V0 m rs ts k5, cs ++ [.frz ts]⟩ := rfl
  have e3 := e_tup3 (f := varE 2) (k := cE .non) (st := ⟨V0 m rs ts k5, cs ++ [.frz ts]⟩) rfl (e_mul (x := .non) (n := 41) (f := tupE [(cE .non)]) (g := cE (.int 41)) rfl rfl (by decide) (by decide)) rfl
  have e4 := e_tup3 (f := varE 2) (k := cE (.int 5)) (st := ⟨V0 m rs ts k5, cs ++ [.frz ts]⟩) rfl (e_mul (x := .non) (n := 40) (f := tupE [(cE .non)]) (g := cE (.int 40)) rfl rfl (by decide) (by decide)) rfl
  have l := lst_k (seq_k e1 (seq_k e2 (seq_k e3 (seq_k e4 seq_0)))) rfl
  obtain ⟨cs', g1, g2, g3⟩ := ext_t (c := 4) rfl h.some l get_new (all4 (tg3 H.ei H.tr.tup H.tt.lst) (tg3 H.ei H.tr.tup e_non.t) (tg3 H.ei (TL.rep e_non (by decide)).tup e_non.t) (tg3 H.ei (TL.rep e_non (by decide)).tup (E.t ((q_int 5).up (by omega) (by omega))))) (by simp) (by omega) h.app.app
  exact ⟨cs', g1, g2, (Kp.trans .app .app).ko.trans g3⟩
theorem th_d (H : Hy m rs ts) (hb : b ≤ 500) (h : Tt n k5 b cs) :
    ∃ cs', dropS (methE "list" extV (varE 5) [(lstE [(tupE [(varE 2), (varE 3), (bin2 mulW (tupE [(cE .non)]) (cE (.int 13)))]), (tupE [(varE 2), (varE 3), (bin2 mulW (tupE [(cE .non)]) (cE (.int 12)))]), (tupE [(bin2 addV (varE 2) (cE (.int 1))), (varE 3), (varE 4)])])]) ⟨V0 m rs ts k5, cs⟩ = .ok .nx ⟨V0 m rs ts k5, cs'⟩ ∧ Tt n k5 (b + 3) cs' ∧ Ko k5 cs cs' := by
  have e3 := e_tup3 (f := varE 2) (g := varE 3) (st := ⟨V0 m rs ts k5, cs⟩) rfl rfl (e_mul (x := .non) (n := 13) (f := tupE [(cE .non)]) (g := cE (.int 13)) rfl rfl (by decide) (by decide))
  have e4 := e_tup3 (f := varE 2) (g := varE 3) (st := ⟨V0 m rs ts k5, cs⟩) rfl rfl (e_mul (x := .non) (n := 12) (f := tupE [(cE .non)]) (g := cE (.int 12)) rfl rfl (by decide) (by decide))
  have e5 : tupE [(bin2 addV (varE 2) (cE (.int 1))), (varE 3), (varE 4)] ⟨V0 m rs ts k5, cs⟩ = .ok (.d (.tup [.int ((m : Int) + 1), .tup rs, .tup ts])) ⟨V0 m rs ts k5, cs⟩ := rfl
  have l := lst_k (seq_k e3 (seq_k e4 (seq_k e5 seq_0))) rfl
  obtain ⟨cs', g1, g2, g3⟩ := ext_t (c := 3) rfl h.some l get_new (all3 (tg3 H.ei H.tr.tup (TL.rep e_non (by decide)).tup) (tg3 H.ei H.tr.tup (TL.rep e_non (by decide)).tup) (tg3 ((q_int _).up (by omega) (by omega)) H.tr.tup H.tt.tup)) (by simp) (by omega) h.app
  exact ⟨cs', g1, g2, Kp.app.ko.trans g3⟩
theorem th_e (H : Hy m rs ts) (hb : b ≤ 500) (h : Tt n k5 b cs) :
    ∃ cs', dropS (methE "list" extV (varE 5) [(compE (itE KE) (nameT 11) (cE (.bl true)) (tupE [(varE 11), (varE 3), (varE 4)]) [11])]) ⟨V0 m rs ts k5, cs⟩ = .ok .nx ⟨V0 m rs ts k5, cs'⟩ ∧ Tt n k5 (b + 8) cs' ∧ Ko k5 cs cs' := by
  have hc := comp_map (it := itE KE) (g := nameT 11) (f := tupE [(varE 11), (varE 3), (varE 4)]) (us := [11]) (v0 := V0 m rs ts k5) (cs := cs ++ [.own KL]) (ck := some cs.length) (L := KL) (st := ⟨V0 m rs ts k5, cs⟩) (fun y => .tup [y, .tup rs, .tup ts]) (fun y => [some (.c 0), some (.d (wOf m rs ts)), some (.d (.int m)), some (.d (.tup rs)), some (.d (.tup ts)), some (.c k5), none, none, none, none, none, some (.d y), none])
    (by rw [e_itE, ke_ok, bind_ok]; exact v_itC (st := ⟨_, _⟩) get_new) (gd_own (st := ⟨_, _⟩) get_new rfl) (by decide) fun y hy => ⟨rfl, rfl⟩
  obtain ⟨cs', g1, g2, g3⟩ := ext_t (c := 8) rfl h.some hc get_new (fun y hy => by
    obtain ⟨z, hz, rfl⟩ := List.mem_map.mp hy
    exact tg3 ((kl_e hz).up (by omega) (by omega)) H.tr.tup H.tt.tup) (by simp [KL]) (by omega) h.app.app
  exact ⟨cs', g1, g2, (Kp.trans .app .app).ko.trans g3⟩
abbrev V1 (m : Nat) (rs ts : List D) (k5 : Nat) (o7 : Option Val) : List (Option Val) := V13 (wOf m rs ts) m rs ts (unitsOf m) k5 o7 none none none
theorem th_f (H : Hy m rs ts) (h : Tt n k5 b cs) :
    ∃ cs', setS 6 (callE tupleV [(compE (itA rng1V [(varE 2)]) (nameT 12) (cE (.bl true)) (callE toIntV [(bin2 (eqV false) (varE 12) (cE (.int 0)))]) [12])]) ⟨V0 m rs ts k5, cs⟩ = .ok .nx ⟨V1 m rs ts k5 none, cs'⟩ ∧ Tt n k5 b cs' := by
  have m8 := H.m8
  have hc := comp_map (it := itA rng1V [(varE 2)]) (g := nameT 12) (f := callE toIntV [(bin2 (eqV false) (varE 12) (cE (.int 0)))]) (us := [12]) (v0 := V0 m rs ts k5) (cs := cs) (ck := none) (L := rngL 0 m) (st := ⟨V0 m rs ts k5, cs⟩) (fun y => match y with | .int i => D.int (if i == 0 then 1 else 0) | _ => .int 0) (fun y => [some (.c 0), some (.d (wOf m rs ts)), some (.d (.int m)), some (.d (.tup rs)), some (.d (.tup ts)), some (.c k5), none, none, none, none, none, none, some (.d y)])
    (e_rngL rfl (bgl (by omega))) gd_none (by rw [rng_len]; omega) fun y hy => by
      obtain ⟨i, _, rfl⟩ := rng_lt y hy
      exact ⟨rfl, rfl⟩
  have e := e_tupC (cl := .own (unitsOf m)) hc get_new
  exact ⟨_, set_k e, h.app⟩
theorem th_g (H : Hy m rs ts) (h : Tt n k5 b cs) :
    ∃ k7 cs', seqS (setS 7 (lstE [(sliceE (varE 6) (atP (cE (.int 1))) noP), (bin2 addV (varE 6) (tupE [(cE (.int 0))])), (callE listV [(varE 6)]), (cE .non), (tupE []), (cE (.int 5)), (bin2 mulW (tupE [(cE (.int 0))]) (varE 2)), (bin2 addV (sliceE (varE 6) noP (atP (un1 negV (cE (.int 1))))) (tupE [(cE (.bl true))]))]))
      (dropS (methE "list" extV (varE 7) [(compE (itE KF) (nameT 11) (cE (.bl true)) (bin2 addV (sliceE (varE 6) noP (atP (un1 negV (cE (.int 1))))) (tupE [(varE 11)])) [11])])) ⟨V1 m rs ts k5 none, cs⟩ = .ok .nx ⟨V1 m rs ts k5 (some (.c k7)), cs'⟩ ∧ Tt n k5 b cs' ∧ cs'[k7]? = some (.own (oddsOf m)) ∧ k7 ≠ 0 ∧ k7 ≠ k5 := by
  obtain ⟨us, e, hl, hi⟩ := units_fm m
  have hV : V1 m rs ts k5 = fun o7 => V13 (wOf m rs ts) m rs ts (unitsOf m) k5 o7 none none none := rfl
  rw [hV]
  have e : unitsOf m = us := by cases e; rfl
  have m1 := H.m1
  have m8 := H.m8
  have lt := List.length_take (i := us.length - 1) (l := us)
  unfold oddsOf
  rw [e]
  simp only []
  have g1 : sliceE (varE 6) (atP (cE (.int 1))) noP ⟨V13 (wOf m rs ts) m rs ts us k5 none none none none, cs⟩ = .ok (.d (.tup (us.drop 1))) ⟨V13 (wOf m rs ts) m rs ts us k5 none none none none, cs⟩ := sl_dropA (i := 1) rfl rfl
  have g2 : bin2 addV (varE 6) (tupE [(cE (.int 0))]) ⟨V13 (wOf m rs ts) m rs ts us k5 none none none none, cs⟩ = .ok (.d (.tup (us ++ [.int 0]))) ⟨V13 (wOf m rs ts) m rs ts us k5 none none none none, cs⟩ := e_addT rfl rfl (by simp only [List.length_singleton]; omega)
  have g7 : bin2 mulW (tupE [(cE (.int 0))]) (varE 2) ⟨V13 (wOf m rs ts) m rs ts us k5 none none none none, cs ++ [.own us]⟩ = .ok (.d (.tup (List.replicate m (.int 0)))) ⟨V13 (wOf m rs ts) m rs ts us k5 none none none none, cs ++ [.own us]⟩ := e_mul (n := m) rfl rfl (by omega) (by omega)
  have g8 : bin2 addV (sliceE (varE 6) noP (atP (un1 negV (cE (.int 1))))) (tupE [(cE (.bl true))]) ⟨V13 (wOf m rs ts) m rs ts us k5 none none none none, cs ++ [.own us]⟩ = .ok (.d (.tup (us.take (us.length - 1) ++ [.bl true]))) ⟨V13 (wOf m rs ts) m rs ts us k5 none none none none, cs ++ [.own us]⟩ := e_addT (sl_init rfl rfl) rfl (by simp only [List.length_singleton]; omega)
  have hq := seq_k g1 (seq_k g2 (seq_k (f := callE listV [(varE 6)]) (v := .c cs.length) (st1 := ⟨V13 (wOf m rs ts) m rs ts us k5 none none none none, cs ++ [.own us]⟩) rfl (seq_k (f := cE .non) rfl (seq_k (f := tupE []) rfl (seq_k (f := cE (.int 5)) rfl (seq_k g7 (seq_k g8 seq_0)))))))
  have g : (cs ++ [Cell.own us])[cs.length]? = some (.own us) := get_new
  have l := set_k (i := 7) (lst_k hq (xs := [.tup (us.drop 1), .tup (us ++ [.int 0]), .lst us, .non, .tup [], .int 5, .tup (List.replicate m (.int 0)), .tup (us.take (us.length - 1) ++ [.bl true])]) (vs := V13 (wOf m rs ts) m rs ts us k5 none none none none) (cs := cs ++ [.frz us]) (by simp only [toDs, toD, g, set_new]))
  have k7 : (cs ++ [Cell.frz us] ++ [Cell.own [.tup (us.drop 1), .tup (us ++ [.int 0]), .lst us, .non, .tup [], .int 5, .tup (List.replicate m (.int 0)), .tup (us.take (us.length - 1) ++ [.bl true])]])[(cs ++ [Cell.frz us]).length]? = some (.own [.tup (us.drop 1), .tup (us ++ [.int 0]), .lst us, .non, .tup [], .int 5, .tup (List.replicate m (.int 0)), .tup (us.take (us.length - 1) ++ [.bl true])]) := get_new
  have k70 : (cs ++ [Cell.frz us]).length ≠ 0 := by simp
  have k75 : (cs ++ [Cell.frz us]).length ≠ k5 := by
    obtain ⟨_, _, L, q, _⟩ := h
    have := lt_of_some q
    simp only [List.length_append, List.length_singleton]; omega
  have ht : Tt n k5 b (cs ++ [Cell.frz us] ++ [Cell.own [.tup (us.drop 1), .tup (us ++ [.int 0]), .lst us, .non, .tup [], .int 5, .tup (List.replicate m (.int 0)), .tup (us.take (us.length - 1) ++ [.bl true])]]) := h.app.app
  generalize (cs ++ [Cell.frz us]).length = k at l k7 k70 k75
  generalize hS : [D.tup (us.drop 1), .tup (us ++ [.int 0]), .lst us, .non, .tup [], .int 5, .tup (List.replicate m (.int 0)), .tup (us.take (us.length - 1) ++ [.bl true])] = S8 at l k7 ht
  have hS8 : S8.length = 8 := by rw [← hS]; rfl
  generalize cs ++ [Cell.frz us] ++ [Cell.own S8] = c2 at l k7 ht
  have hc := comp_map (it := itE KF) (g := nameT 11) (f := bin2 addV (sliceE (varE 6) noP (atP (un1 negV (cE (.int 1))))) (tupE [(varE 11)])) (us := [11]) (v0 := V13 (wOf m rs ts) m rs ts us k5 (some (.c k)) none none none) (cs := c2 ++ [.own KM]) (ck := some c2.length) (L := KM) (st := ⟨V13 (wOf m rs ts) m rs ts us k5 (some (.c k)) none none none, c2⟩) (fun y => .tup (us.take (us.length - 1) ++ [y])) (fun y => [some (.c 0), some (.d (wOf m rs ts)), some (.d (.int m)), some (.d (.tup rs)), some (.d (.tup ts)), some (.c k5), some (.d (.tup us)), some (.c k), none, none, none, some (.d y), none])
    (by rw [e_itE, kf_ok, bind_ok]; exact v_itC (st := ⟨_, _⟩) get_new) (gd_own (st := ⟨_, _⟩) get_new rfl) (by decide) fun y hy => ⟨rfl, e_addT (sl_init rfl rfl) rfl (by simp only [List.length_singleton]; omega)⟩
  have k72 : (c2 ++ [Cell.own KM] ++ [Cell.own (KM.map fun y => .tup (us.take (us.length - 1) ++ [y]))])[k]? = some (.own S8) := get_app (get_app k7)
  have e9 := drop_m (g := extV) (fo := varE 7) (k := k) (st1 := ⟨V13 (wOf m rs ts) m rs ts us k5 (some (.c k)) none none none, c2⟩) (st := ⟨V13 (wOf m rs ts) m rs ts us k5 (some (.c k)) none none none, c2⟩) rfl (by show (c2[k]?).isSome = true; rw [k7]; rfl) hc (v_extC k72 get_new (by rw [hS8]; show 8 + (KM.map _).length ≤ _; rw [List.length_map]; decide))
  refine ⟨k, _, (seq_nx l).trans e9, ?_, get_self k72, k70, k75⟩
  have ht2 : Tt n k5 b (c2 ++ [Cell.own KM] ++ [Cell.own (KM.map fun y => .tup (us.take (us.length - 1) ++ [y]))]) := ht.app.app
  obtain ⟨a1, a2, L, a3, a4⟩ := ht2
  exact ⟨a1.set k70, a2, L, get_set a3 k75, a4⟩
end
end Law
end
section
set_option Elab.async false
set_option linter.all false
set_option maxRecDepth 100000
set_option maxHeartbeats 4000000
namespace Law
open PySem Sh
section
variable {n m b k5 k7 : Nat} {rs ts : List D} {cs : List Cell}
theorem th_i (H : Hy m rs ts) (h : Tt (n + 45) 3 24 cs) (h7 : cs[k7]? = some (.own (oddsOf m))) (k70 : k7 ≠ 0) (k75 : k7 ≠ 3) :
    ∃ o8 o9 o10 cs', forS (itE (varE 7)) (nameT 8) oBody ⟨V1 m rs ts 3 (some (.c k7)), cs⟩ = .ok .nx ⟨V13 (wOf m rs ts) m rs ts (unitsOf m) 3 (some (.c k7)) o8 o9 o10, cs'⟩ ∧ Tt n 3 100 cs' := by
  have ol : (oddsOf m).length = 15 := by simp [oddsOf, KM]
  obtain ⟨st2, f1, o8, o9, o10, cs', rfl, g1, _, _⟩ := for_inv (it := itE (varE 7)) (g := nameT 8) (b := oBody) (ck := some k7) (L := oddsOf m) (st := ⟨V1 m rs ts 3 (some (.c k7)), cs⟩)
    (fun k st => ∃ o8 o9 o10 cs, st = ⟨V13 (wOf m rs ts) m rs ts (unitsOf m) 3 (some (.c k7)) o8 o9 o10, cs⟩ ∧ Tt (n + 3 * k) 3 (100 - 3 * k) cs ∧ k ≤ 15 ∧ cs[k7]? = some (.own (oddsOf m))) 0
    (v_itC (st := ⟨_, _⟩) h7) (fun k st ⟨_, _, _, cs, e, _, _, h⟩ => by subst e; exact gd_own (st := ⟨_, cs⟩) h rfl)
    ⟨none, none, none, cs, rfl, h.mono (by omega) (by omega), by omega, h7⟩
    (fun x hx k st ⟨o8, o9, o10, cs, e, h1, h2, h3⟩ => by
      subst e
      obtain ⟨s9', s10', cs', g1, g2, g3⟩ := obody_ok (n := n + 3 * k) (k5 := 3) (w := wOf m rs ts) (o7 := some (.c k7)) (s9 := o9) (s10 := o10) H.m8 H.r H.rl H.t H.tl (units_fm m) (odds_q H.m8 hx) (by omega) (h1.mono (by omega) (Nat.le_refl _))
      exact ⟨_, _, rfl, g1, some (.d x), s9', s10', cs', rfl, g2.mono (Nat.le_refl _) (by omega), by omega, g3 k7 _ k70 k75 h3⟩)
  exact ⟨o8, o9, o10, cs', f1, g1⟩
def PE : S → OE := lstE [(tupE [(varE 6), (varE 6)]), (tupE [(varE 6), (varE 6), (cE (.str "loose"))]), (tupE [(varE 6), (varE 6), (cE .non)]), (cE .non), (cE (.str "firm"))]
def PL (us : List D) : List D := [.tup [.tup us, .tup us], .tup [.tup us, .tup us, .str "loose"], .tup [.tup us, .tup us, .non], .non, .str "firm"]
theorem pl_e {us : List D} (hu : Q 1 9 (.tup us)) {y : D} (h : y ∈ PL us) : E y := by
  have u1 : Q 1 9 (.tup us) := hu
  have z1 : Q 1 1 (.str "loose") := (q_str so.2.2.1).up (by omega) (by omega)
  unfold PL at h
  simp only [List.mem_cons, List.not_mem_nil, or_false] at h
  rcases h with rfl | rfl | rfl | rfl | rfl
  · exact (q_t2 u1 u1).up (by omega) (by omega)
  · exact (q_t3 u1 u1 z1).up (by omega) (by omega)
  · exact (q_t3 u1 u1 (q_non.up (by omega) (Nat.le_refl _))).up (by omega) (by omega)
  · exact e_non
  · exact (q_str so.1).up (by omega) (by omega)
theorem th_j {o7 o8 o9 o10 : Option Val} (H : Hy m rs ts) (h : Tt (n + 5) 3 100 cs) :
    ∃ o8' o9' cs', forS (itE PE) (nameT 8) pBody5 ⟨V13 (wOf m rs ts) m rs ts (unitsOf m) 3 o7 o8 o9 o10, cs⟩ = .ok .nx ⟨V13 (wOf m rs ts) m rs ts (unitsOf m) 3 o7 o8' o9' o10, cs'⟩ ∧ Tt n 3 120 cs' := by
  have l : PE ⟨V13 (wOf m rs ts) m rs ts (unitsOf m) 3 o7 o8 o9 o10, cs⟩ = .ok (.c cs.length) ⟨V13 (wOf m rs ts) m rs ts (unitsOf m) 3 o7 o8 o9 o10, cs ++ [.own (PL (unitsOf m))]⟩ := lst_k (seq_k (f := tupE [(varE 6), (varE 6)]) rfl (seq_k (f := tupE [(varE 6), (varE 6), (cE (.str "loose"))]) rfl (seq_k (f := tupE [(varE 6), (varE 6), (cE .non)]) rfl (seq_k (f := cE .non) rfl (seq_k (f := cE (.str "firm")) rfl seq_0))))) rfl
  have k0 : cs.length ≠ 0 := by have := h.ja.pos; omega
  have k3 : cs.length ≠ 3 := by
    obtain ⟨_, _, L, q, _⟩ := h
    have := lt_of_some q
    omega
  have hg : (cs ++ [Cell.own (PL (unitsOf m))])[cs.length]? = some (.own (PL (unitsOf m))) := get_new
  have ht : Tt (n + 5) 3 100 (cs ++ [Cell.own (PL (unitsOf m))]) := h.app
  generalize cs.length = k at l k0 k3 hg
  generalize cs ++ [Cell.own (PL (unitsOf m))] = c2 at l hg ht
  have uq : Q 1 9 (.tup (unitsOf m)) := fm_q (units_fm m) H.m8
  obtain ⟨st2, f1, o8', o9', cs', rfl, g1, _, _⟩ := for_inv (it := itE PE) (g := nameT 8) (b := pBody5) (ck := some k) (L := PL (unitsOf m)) (st := ⟨V13 (wOf m rs ts) m rs ts (unitsOf m) 3 o7 o8 o9 o10, cs⟩)
    (fun j st => ∃ o8 o9 cs, st = ⟨V13 (wOf m rs ts) m rs ts (unitsOf m) 3 o7 o8 o9 o10, cs⟩ ∧ Tt (n + j) 3 (120 - j) cs ∧ j ≤ 5 ∧ cs[k]? = some (.own (PL (unitsOf m)))) 0
    (by rw [e_itE, l, bind_ok]; exact v_itC (st := ⟨_, _⟩) hg) (fun j st ⟨_, _, cs, e, _, _, h⟩ => by subst e; exact gd_own (st := ⟨_, cs⟩) h rfl)
    ⟨o8, o9, c2, rfl, ht.mono (Nat.le_refl _) (by simp [PL]), by simp [PL], hg⟩
    (fun x hx j st ⟨o8, o9, cs, e, h1, h2, h3⟩ => by
      subst e
      obtain ⟨s9', cs', g1, g2, g3⟩ := pbody_ok (n := n + j) (k5 := 3) (w := wOf m rs ts) (us := unitsOf m) (o7 := o7) (s9 := o9) (s10 := o10) H.m8 H.r H.rl H.t H.tl (pl_e uq hx) (by omega) (h1.mono (by omega) (Nat.le_refl _))
      exact ⟨_, _, rfl, g1, some (.d x), s9', cs', rfl, g2.mono (Nat.le_refl _) (by omega), by omega, g3 k _ k0 k3 h3⟩)
  exact ⟨o8', o9', cs', f1, g1⟩
theorem midE1 {xs : List D} {y : D} (hx : TL xs) (hy : E y) (hl : xs.length ≤ 10) : Q 11 4501 (.tup (xs ++ [y])) :=
  TL.tup (TL.app hx.1 (one1 hy) (by simp only [List.length_singleton]; omega))
theorem th_k {o7 o8 o9 o10 : Option Val} (H : Hy m rs ts) (h : Tt n 3 120 cs) :
    ∃ cs', seqS (dropS (methE "list" appV (varE 5) [(tupE [(varE 2), (varE 3), (bin2 addV (varE 4) (tupE [(lstE [(varE 6), (varE 6), (cE (.str "firm"))])]))])])) (dropS (methE "list" appV (varE 5) [(tupE [(varE 2), (varE 3), (bin2 addV (varE 4) (tupE [(tupE [(varE 6), (varE 6), (cE (.str "firm")), (cE (.int 0))])]))])])) ⟨V13 (wOf m rs ts) m rs ts (unitsOf m) 3 o7 o8 o9 o10, cs⟩ = .ok .nx ⟨V13 (wOf m rs ts) m rs ts (unitsOf m) 3 o7 o8 o9 o10, cs'⟩ ∧ Tt n 3 122 cs' := by
  have tl := H.tl
  have uq : Q 1 9 (.tup (unitsOf m)) := fm_q (units_fm m) H.m8
  have sq : Q 1 1 (.str "firm") := (q_str so.1).up (by omega) (by omega)
  have l1 : lstE [(varE 6), (varE 6), (cE (.str "firm"))] ⟨V13 (wOf m rs ts) m rs ts (unitsOf m) 3 o7 o8 o9 o10, cs⟩ = .ok (.c cs.length) ⟨V13 (wOf m rs ts) m rs ts (unitsOf m) 3 o7 o8 o9 o10, cs ++ [.own [.tup (unitsOf m), .tup (unitsOf m), .str "firm"]]⟩ := lst_k (seq_k (f := varE 6) rfl (seq_k (f := varE 6) rfl (seq_k (f := cE (.str "firm")) rfl seq_0))) rfl
  have t1 := e_tup1L l1 get_new
  rw [set_new] at t1
  have f1 := e_tup3 (f := varE 2) (g := varE 3) (st := ⟨V13 (wOf m rs ts) m rs ts (unitsOf m) 3 o7 o8 o9 o10, cs⟩) rfl rfl (e_addT (fa := varE 4) rfl t1 (by simp only [List.length_singleton]; omega))
  obtain ⟨c2, e2, h2, _⟩ := app_t (vs := V13 (wOf m rs ts) m rs ts (unitsOf m) 3 o7 o8 o9 o10) rfl h.some f1 (tg3 H.ei H.tr.tup (midE1 H.tt ((q_l3 uq uq sq).up (by omega) (by omega)) (by omega))) (by omega) h.app
  have f3 := e_tup3 (f := varE 2) (g := varE 3) (st := ⟨V13 (wOf m rs ts) m rs ts (unitsOf m) 3 o7 o8 o9 o10, c2⟩) rfl rfl (e_addT (fa := varE 4) (fb := tupE [(tupE [(varE 6), (varE 6), (cE (.str "firm")), (cE (.int 0))])]) (ys := [.tup [.tup (unitsOf m), .tup (unitsOf m), .str "firm", .int 0]]) rfl rfl (by simp only [List.length_singleton]; omega))
  have q4 : E (.tup [.tup (unitsOf m), .tup (unitsOf m), .str "firm", .int 0]) := by
    obtain ⟨a1, a2, a3⟩ := uq
    obtain ⟨b1, b2, b3⟩ := sq
    exact ⟨by simp [Pl, Pls] at a1 b1 ⊢; exact ⟨a1, b1⟩, by simp only [dep, deps] at *; omega, by simp only [szD, szDs] at *; omega⟩
  obtain ⟨c3, e3, h3, _⟩ := app_t (vs := V13 (wOf m rs ts) m rs ts (unitsOf m) 3 o7 o8 o9 o10) rfl h2.some f3 (tg3 H.ei H.tr.tup (midE1 H.tt q4 (by omega))) (by omega) h2
  exact ⟨c3, (seq_nx e2).trans e3, h3⟩
theorem w_q (H : Hy m rs ts) : Q 4 120 (wOf m rs ts) := by
  have r1 : Q 2 28 (.tup rs) := (q_tup (n := 3) (fun y hy => fm_q (H.r y hy) H.m8) H.rl).up (by omega) (by omega)
  have t1 : Q 3 81 (.tup ts) := (q_tup (n := 4) (fun y hy => ti_q (H.t y hy) H.m8) H.tl).up (by omega) (by omega)
  obtain ⟨a1, a2, a3⟩ := r1
  obtain ⟨b1, b2, b3⟩ := t1
  have a4 : deps rs ≤ 1 := by simp only [dep] at a2; omega
  have b4 : deps ts ≤ 2 := deps_le fun y hy => (ti_q (H.t y hy) H.m8).2.1
  refine ⟨by simp [Pl, Pls] at a1 b1 ⊢; exact ⟨a1, b1⟩, ?_, ?_⟩
  · have : dep (.tup ts) ≤ 3 := by simp only [dep]; omega
    have : deps ts ≤ 2 := b4
    simp only [dep, deps]; omega
  · simp only [szD, szDs] at *; omega
theorem th_l {o7 o8 o9 o10 : Option Val} (H : Hy m rs ts) (h : Tt (n + 108) 3 122 cs) :
    ∃ (k : Nat) (cs' : List Cell) (L J' : List D), retS (bin2 addV (varE 5) (lstE [(callE (callV (d__law_wb_bent 12)) [(varE 0), (varE 1)]), (callE (callV (d__law_wb_bent 12)) [(varE 0), (callE (callV (d__law_wb_bent 12)) [(varE 0), (varE 1)])])])) ⟨V13 (wOf m rs ts) m rs ts (unitsOf m) 3 o7 o8 o9 o10, cs⟩ = .ok (.ret (.c k)) ⟨V13 (wOf m rs ts) m rs ts (unitsOf m) 3 o7 o8 o9 o10, cs'⟩ ∧
      1 ≤ k ∧ cs'[k]? = some (.own L) ∧ cs'[0]? = some (.own J') ∧ Jr n J' ∧ (∀ y ∈ L, Tg y) ∧ L.length ≤ 124 := by
  obtain ⟨w1, w2, w3⟩ := w_q H
  obtain ⟨y1, c1, b1, ⟨p1, p2, p3⟩, b3, b4⟩ := bentJ (n := n + 72) (i := 0) (x := wOf m rs ts) (f := varE 1) (vs := V13 (wOf m rs ts) m rs ts (unitsOf m) 3 o7 o8 o9 o10) (cs := cs) (cs2 := cs) rfl rfl (h.ja.mono (by omega)) w1 (by omega) (by omega)
  obtain ⟨y2, c2, g1, ⟨q1, q2, q3⟩, g3, g4⟩ := bentJ (n := n + 36) (i := 0) (x := wOf m rs ts) (f := varE 1) (vs := V13 (wOf m rs ts) m rs ts (unitsOf m) 3 o7 o8 o9 o10) (cs := c1) (cs2 := c1) rfl rfl (b3.mono (by omega)) w1 (by omega) (by omega)
  obtain ⟨y3, c3, t1, ⟨r1, r2, r3⟩, t3, t4⟩ := bentJ (n := n) (i := 0) (x := y2) (f := callE (callV (d__law_wb_bent 12)) [(varE 0), (varE 1)]) (vs := V13 (wOf m rs ts) m rs ts (unitsOf m) 3 o7 o8 o9 o10) (cs := c1) (cs2 := c2) rfl g1 g3 q1 (by omega) (by omega)
  have l := lst_k (seq_k b1 (seq_k t1 seq_0)) rfl
  obtain ⟨_, _, L, h3, h4, h5⟩ := h
  have k3 : c3[3]? = some (.own L) := t4 3 _ (by decide) (g4 3 _ (by decide) (b4 3 _ (by decide) h3))
  have e := v_addL (vs := V13 (wOf m rs ts) m rs ts (unitsOf m) 3 o7 o8 o9 o10) (k := 3) (j := c3.length) (cs := c3 ++ [.own [y1, y3]]) (get_app k3) get_new (by show L.length + 2 ≤ _; omega)
  obtain ⟨J', j1, j2⟩ := t3
  refine ⟨(c3 ++ [Cell.own [y1, y3]]).length, c3 ++ [Cell.own [y1, y3]] ++ [Cell.own (L ++ [y1, y3])], L ++ [y1, y3], J', ?_, ?_, get_new, get_app (get_app j1), j2, fun y hy => ?_, ?_⟩
  · rw [e_ret, e_bin]
    show ((lstE _ ⟨V13 (wOf m rs ts) m rs ts (unitsOf m) 3 o7 o8 o9 o10, cs⟩).bind _).bind _ = _
    rw [l, bind_ok]
    show (addV (.c 3) (.c c3.length) _).bind _ = _
    rw [e, bind_ok]; rfl
  · simp
  · rcases List.mem_append.mp hy with hy | hy
    · exact h4 y hy
    · exact one2 (P := Tg) ⟨p1, by omega, by omega⟩ ⟨r1, by omega, by omega⟩ y hy
  · rw [List.length_append]; simp only [List.length_cons, List.length_nil]; omega
theorem things_ok {J : List D} (H : Hy m rs ts) (h : Jr (n + 158) J) : ∃ (L J' : List D), d__law_a1_things [.o J, .d (wOf m rs ts)] = .ok (.new L) [.own J'] ∧ (∀ y ∈ L, Small y) ∧ L.length ≤ 124 ∧ Jr n J' := by
  rw [d__law_a1_things, e_run2, s_od]
  simp only [List.replicate, Nat.reduceSub]
  unfold m__law_a1_things
  have ea : asgS (tupT 3 (consT (nameT 2) (consT (nameT 3) (consT (nameT 4) nilT)))) (varE 1) ⟨[some (.c 0), some (.d (wOf m rs ts)), none, none, none, none, none, none, none, none, none, none, none], [.own J]⟩ = .ok .nx ⟨[some (.c 0), some (.d (wOf m rs ts)), some (.d (.int m)), some (.d (.tup rs)), some (.d (.tup ts)), none, none, none, none, none, none, none, none], [.own J]⟩ := rfl
  obtain ⟨c1, e1, h1⟩ := th_b H.m8 H.r H.rl H.t H.tl h
  obtain ⟨c2, e2, h2, _⟩ := th_c H (by decide) h1
  obtain ⟨c3, e3, h3, _⟩ := th_d H (by decide) h2
  obtain ⟨c4, e4, h4, _⟩ := th_e H (by decide) h3
  obtain ⟨c5, e5, h5⟩ := th_f H h4
  obtain ⟨k7, c6, e6, h6, k7h, k70, k75⟩ := th_g H h5
  obtain ⟨o8, o9, o10, c7, e7, h7⟩ := th_i (n := n + 113) H (h6.mono (by omega) (by decide)) k7h k70 k75
  obtain ⟨p8, p9, c8, e8, h8⟩ := th_j (n := n + 108) (o7 := some (.c k7)) (o8 := o8) (o9 := o9) (o10 := o10) H (h7.mono (by omega) (Nat.le_refl _))
  obtain ⟨c9, e9, h9⟩ := th_k (o7 := some (.c k7)) (o8 := p8) (o9 := p9) (o10 := o10) H h8
  obtain ⟨k, c10, L, J', e10, k1, kL, kJ, hJ, hL, hl⟩ := th_l (n := n) (o7 := some (.c k7)) (o8 := p8) (o9 := p9) (o10 := o10) H h9
  refine ⟨L, J', ?_, fun y hy => (hL y hy).small, hl, hJ⟩
  have all := (seq_nx ea).trans ((seq_nx e1).trans ((seq_nx e2).trans ((seq_nx e3).trans ((seq_nx e4).trans ((seq_nx e5).trans ((seq2_nx e6).trans ((seq_nx e7).trans ((seq_nx e8).trans ((seq2_nx e9).trans e10)))))))))
  refine (congrArg (endD 1) all).trans ?_
  show outR 1 (.c k) ⟨_, c10⟩ = _
  rw [out_new kL k1, take1 kJ]
end
end Law
end
section
set_option Elab.async false
set_option linter.all false
set_option maxRecDepth 100000
set_option maxHeartbeats 4000000
namespace Law
open PySem Sh
theorem call_jdN {d : List Ar → RD} {i j : Nat} {x : D} {J J' L : List D} {f : S → OE} {vs : List (Option Val)} {cs cs2 : List Cell} (hv : vs[i]? = some (some (.c j))) (hf : f ⟨vs, cs⟩ = .ok (.d x) ⟨vs, cs2⟩) (hc : cs2[j]? = some (.own J)) (h : d [.o J, .d x] = .ok (.new L) [.own J']) :
    callE (callV d) [varE i, f] ⟨vs, cs⟩ = .ok (.c (cs2.set j (.own J')).length) ⟨vs, cs2.set j (.own J') ++ [.own L]⟩ := by
  have c2 : consA (.c j) ⟨vs, cs2⟩ (some ([.d x], [])) = some ([.o J, .d x], [j]) := by
    unfold consA; simp only [hc]; rfl
  rw [e_call, e_cons, e_var, hv, e_varK, bind_ok, e_cons, hf, bind_ok, e_nil, bind_ok, bind_ok, bind_ok, e_callV, ar_cons, ar_cons, ar_nil, ar_d, c2, e_argK rfl, h, af_new, up_cons, up_nil, e_newLst]
abbrev V8 (y : D) (o2 o3 o4 o5 o6 o7 : Option Val) : List (Option Val) := [some (.d y), some (.c 0), o2, o3, o4, o5, o6, o7]
section
variable {y x : D} {m n : Nat} {rs ts : List D} {o2 o3 o4 o5 o6 o7 : Option Val} {cs : List Cell}
def i1Body : S → OS := (seqS (ifS (notE (callE (callV d__law_a1_right) [(varE 4)])) (retS (cE (.bl false))) nextS)
  (seqS (setS 5 (ifE (andE (callE isiV [(varE 4), (cE (.ty "tuple"))]) (bin2 (eqV false) (callE lenV [(varE 4)]) (cE (.int 3)))) (bin2 ixV (varE 4) (cE (.int 2))) (varE 4)))
  (ifS (notE (callE (callV d__law_a1_ties_right) [(bin2 ixV (varE 3) (cE (.int 0))), (varE 5)])) (retS (cE (.bl false))) nextS)))
theorem part3 (h : Small x) : ∃ t, Small t ∧ setS 5 (ifE (andE (callE isiV [(varE 4), (cE (.ty "tuple"))]) (bin2 (eqV false) (callE lenV [(varE 4)]) (cE (.int 3)))) (bin2 ixV (varE 4) (cE (.int 2))) (varE 4)) ⟨V8 y o2 o3 (some (.d x)) o5 o6 o7, cs⟩ = .ok .nx ⟨V8 y o2 o3 (some (.d x)) (some (.d t)) o6 o7, cs⟩ := by
  cases x with
  | tup xs =>
    by_cases hn : xs.length = 3
    · match xs, hn with
      | [a, b, c], _ => exact ⟨c, h.mem c (by simp), rfl⟩
    · have e3 : ((xs.length : Int) == 3) = false := by rw [beq_eq_false_iff_ne]; omega
      refine ⟨_, h, ?_⟩
      simp only [e_par, e_parK, e_asg, toD_d, e_nameT, e_consT, e_nilT, Option.bind_some, n_nx, n_ct, n_bk, n_ret, e_for, e_itE, e_itA, e_meth, ty_s, e_run1, e_run2, e_run3, e_run4, s_d1, s_d2, s_od, s_oo, s_o1, s_odd, s_t1, s_td, ic_d, ic_o, ic_t, ic_nil, e_argD, e_argDD, List.replicate, Nat.reduceSub, List.length_cons, List.length_nil, bind_ok, bind_exc, bind_bad, e_seq, th_nx, th_ret, th_exc, th_bk, th_ct, e_set, e_setK, e_ret, e_retK, e_drop, e_dropK, e_retN, e_next, e_brk, e_cnt, e_if, e_ifE, e_and, e_or, e_not, onB_t, onB_f, onB_b, e_var, e_varK, e_c, e_bin, e_un, e_call, e_nil, e_cons, e_tup, e_tupK, e_lst, e_lstK, e_newLst, toDs_nil, toDs_d, Option.map_some, e_callV, e_callVT, ar_nil, ar_cons, ar_d, ar_t, e_argKT, af_d, af_new, af_exc, up_nil, up_cons, end_ret, end_exc, end_nx, out_d, v_add, v_sub, v_neg, v_lt, v_le, v_gt, v_ge, v_eqI, v_neI, v_gcd, v_abs, v_max, v_int, v_lenT, v_lenL, List.getElem?_cons_zero, List.getElem?_cons_succ, List.set_cons_zero, List.set_cons_succ, List.take_zero, List.take_nil, Bool.false_eq_true, if_false, if_true, eq_self, decide_true, decide_false, Bool.not_true, Bool.not_false, Nat.reduceAdd, Nat.reduceLeDiff, Nat.reduceLT, List.nil_append, List.cons_append, i_non_int, i_non_bool, i_non_str, i_non_tuple, i_non_list, i_bl_int, i_bl_bool, i_bl_str, i_bl_tuple, i_bl_list, n_is_bl, n_no_bl, i_int_int, i_int_bool, i_int_str, i_int_tuple, i_int_list, n_is_int, n_no_int, i_str_int, i_str_bool, i_str_str, i_str_tuple, i_str_list, n_is_str, n_no_str, i_tup_int, i_tup_bool, i_tup_str, i_tup_tuple, i_tup_list, n_is_tup, n_no_tup, i_lst_int, i_lst_bool, i_lst_str, i_lst_tuple, i_lst_list, n_is_lst, n_no_lst, n_is_non, n_no_non, s_d3, s_d4, e_argD3, e_chain, v_toB, v_ix0, v_ix1, v_ix2, e_raise, e_raiseK, e3]
  | non => exact ⟨_, h, rfl⟩
  | bl b => exact ⟨_, h, rfl⟩
  | int b => exact ⟨_, h, rfl⟩
  | str b => exact ⟨_, h, rfl⟩
  | lst b => exact ⟨_, h, rfl⟩
  | klst b => have := h.1; simp [Pl] at this
  | obj b => have := h.1; simp [Pl] at this
  | ty b => have := h.1; simp [Pl] at this
theorem i1_ok (H : Hy m rs ts) (h : Small x) : ∃ o5', i1Body ⟨V8 y o2 (some (.d (wOf m rs ts))) (some (.d x)) o5 o6 o7, cs⟩ = .ok .nx ⟨V8 y o2 (some (.d (wOf m rs ts))) (some (.d x)) o5' o6 o7, cs⟩ := by
  obtain ⟨t, ht, e2⟩ := part3 (y := y) (o2 := o2) (o3 := some (.d (wOf m rs ts))) (o5 := o5) (o6 := o6) (o7 := o7) (cs := cs) h
  have q1 := right_ok h
  have m1 := H.m1
  have m8 := H.m8
  have q2 := tiesright_ok (n := m) (by omega) (by omega) ht
  have e1 : ifS (notE (callE (callV d__law_a1_right) [(varE 4)])) (retS (cE (.bl false))) nextS ⟨V8 y o2 (some (.d (wOf m rs ts))) (some (.d x)) o5 o6 o7, cs⟩ = .ok .nx ⟨V8 y o2 (some (.d (wOf m rs ts))) (some (.d x)) o5 o6 o7, cs⟩ := by
    rw [e_if, e_not, call1 (a := x) rfl, q1, af_d, up_nil]; rfl
  have e3 : ifS (notE (callE (callV d__law_a1_ties_right) [(bin2 ixV (varE 3) (cE (.int 0))), (varE 5)])) (retS (cE (.bl false))) nextS ⟨V8 y o2 (some (.d (wOf m rs ts))) (some (.d x)) (some (.d t)) o6 o7, cs⟩ = .ok .nx ⟨V8 y o2 (some (.d (wOf m rs ts))) (some (.d x)) (some (.d t)) o6 o7, cs⟩ := by
    have e : callE (callV d__law_a1_ties_right) [(bin2 ixV (varE 3) (cE (.int 0))), (varE 5)] ⟨V8 y o2 (some (.d (wOf m rs ts))) (some (.d x)) (some (.d t)) o6 o7, cs⟩ = .ok (.d (.bl true)) ⟨V8 y o2 (some (.d (wOf m rs ts))) (some (.d x)) (some (.d t)) o6 o7, cs⟩ := by
      rw [call_k (as := [.d (.int m), .d t]) (ns := []) (seq_k (f := bin2 ixV (varE 3) (cE (.int 0))) (v := .d (.int m)) (st1 := ⟨V8 y o2 (some (.d (wOf m rs ts))) (some (.d x)) (some (.d t)) o6 o7, cs⟩) rfl (seq_k (f := varE 5) rfl seq_0)) rfl rfl, q2, af_d, up_nil]
    rw [e_if, e_not, e]; rfl
  exact ⟨_, (seq_nx e1).trans ((seq_nx e2).trans e3)⟩
def i2Body : S → OS := (ifS (notE (callE (callV d__law_wb_same) [(lamE d__law_a1_heard [6] (callE (callV d_made_ties) [(varE 6), (cE .non)]) []), (tupE [(cE (.str "BadMany")), (varE 6)])])) (retS (cE (.bl false))) nextS)
theorem i2_ok (hx : x ∈ KL) : i2Body ⟨V8 y o2 o3 o4 o5 (some (.d x)) o7, cs⟩ = .ok .nx ⟨V8 y o2 o3 o4 o5 (some (.d x)) o7, cs⟩ := by
  have hq := kl_e hx
  have hi : inB 1 40 x = false ∧ isP x = true := by
    unfold KL at hx
    simp only [List.mem_cons, List.not_mem_nil, or_false] at hx
    rcases hx with rfl | rfl | rfl | rfl | rfl | rfl | rfl | rfl <;> exact ⟨by decide +kernel, rfl⟩
  have q := madeties_bad (y := .non) hi.2 hi.1
  have l := lam1 (d := fun as => d_made_ties (as ++ [.d .non])) (i := 6) (a := x) (w := .tup [.str "BadMany", x]) (f := callE (callV d_made_ties) [(varE 6), (cE .non)]) (vs := V8 y o2 o3 o4 o5 (some (.d x)) o7) (cs := cs) rfl (fun vs hv => by
    rw [call_k (as := [.d x, .d .non]) (ns := []) (seq_k (e_var1 hv) (seq_k (f := cE .non) rfl seq_0)) rfl rfl]; rfl) (by show hrd (d_made_ties [.d x, .d .non]) = _; rw [q]; rfl)
  have hd : Hd (.tup [.str "BadMany", x]) := by
    obtain ⟨a1, a2, a3⟩ := hq
    exact ⟨by simp [Pl, Pls, strB.2.2.2, a1], by simp only [dep, deps]; omega, by simp only [szD, szDs]; omega⟩
  have s := same_dd (fb := tupE [(cE (.str "BadMany")), (varE 6)]) l rfl hd.gd.1 hd.gd.2
  unfold i2Body
  rw [e_if, e_not, s]; rfl
end
end Law
end
section
set_option Elab.async false
set_option linter.all false
set_option maxRecDepth 100000
set_option maxHeartbeats 4000000
namespace Law
open PySem Sh
def hOne : D := .tup [.int 1]
def hTie : D := .tup [.tup [.int 1], .tup [.int (-3)], .str "open"]
def pr (a b : D) : D := .tup [a, b]
def tm (n : Int) : D := .tup [.str "TooMany", .int n]
def bw (y : D) : D := .tup [.str "BadWorld", y]
def HL : List D := [
  pr (.tup [.int 1, .tup (List.replicate 40 hOne), .tup (List.replicate 12 hTie)]) .non,
  pr (.tup [.int 1, .tup (List.replicate 41 hOne), .tup (List.replicate 12 hTie)]) (tm 41),
  pr (.tup [.int 1, .tup (List.replicate 40 hOne), .tup (List.replicate 13 hTie)]) (tm 13),
  pr (.tup [.int 40, .tup [.tup (List.replicate 39 (.int 0) ++ [.int 1000])], .tup []]) .non,
  pr (.tup [.int 41, .tup [], .tup []]) (bw (.int 0)),
  pr (.tup [.int 1, .tup [], .tup []]) .non,
  pr (.tup [.int 1, .tup [.tup [.int 0]], .tup []]) .non,
  pr (.tup [.int 1, .tup [.tup [.int (-1000)], .tup [.int 1001], .non], .non]) (bw (.tup [.int 1, .int 1])),
  pr (.tup [.int 1, .tup [.non], .int 5]) (bw (.tup [.int 1, .int 0])),
  pr (.tup [.int 1, .tup [], .tup [.tup [.tup [.int 0], .tup [.int 1], .str "firm"]]]) (bw (.tup [.int 2, .int 0])),
  pr (.tup [.int 1, .tup [], .tup [hTie, .non]]) (bw (.tup [.int 2, .int 1])),
  pr (.tup [.int 1, .tup [], .tup [.tup [.tup [.int 1], .tup [.int 0], .str "open"]]]) (bw (.tup [.int 2, .int 0])),
  pr (.tup [.int 1, .tup [], .lst [hTie]]) (bw (.int 2)),
  pr (.tup [.int 1, .tup [hOne, .non], .tup (List.replicate 13 hTie)]) (bw (.tup [.int 1, .int 1])),
  pr (.tup [.int 1, .tup (List.replicate 41 hOne), .tup (List.replicate 13 hTie)]) (tm 41),
  pr (.tup [.int 1, .lst [hOne], .lst [hTie]]) (bw (.int 1)),
  pr (.tup [.int 1, .tup [hOne], .tup [.tup [.tup [.int 1], .tup [.int 1], .str "Firm"]]]) (bw (.tup [.int 2, .int 0]))]
theorem hand_ok : d__law_a1_hand [] = .ok (.new HL) [] := by rfl
def chk : D → Bool
  | .tup [t, f] => Pl t && (decide (dep t ≤ 40) && (decide (szD t ≤ 10000) && (beqD (worldF t) f && (okD f && eqD f f))))
  | _ => false
theorem hl_chk : HL.all chk = true := by decide +kernel
end Law
end
section
set_option Elab.async false
set_option linter.all false
set_option maxRecDepth 100000
set_option maxHeartbeats 4000000
namespace Law
open PySem Sh
theorem call_dN {d : List Ar → RD} {i : Nat} {x : D} {L : List D} {vs : List (Option Val)} {cs : List Cell} (hv : vs[i]? = some (some (.d x))) (h : d [.d x] = .ok (.new L) []) : callE (callV d) [varE i] ⟨vs, cs⟩ = .ok (.c cs.length) ⟨vs, cs ++ [.own L]⟩ := by
  rw [call1 hv, h, af_new, up_nil, e_newLst]
theorem call_0N {d : List Ar → RD} {L : List D} {vs : List (Option Val)} {cs : List Cell} (h : d [] = .ok (.new L) []) : callE (callV d) [] ⟨vs, cs⟩ = .ok (.c cs.length) ⟨vs, cs ++ [.own L]⟩ := by
  rw [e_call, e_nil, bind_ok, e_callV, ar_nil, e_argK rfl, h, af_new, up_nil, e_newLst]
def rBody : S → OS := (seqS (setS 3 (callE (callV d__law_wb_world) [(varE 1), (cE (.int 8))]))
  (seqS (forS (itE (callE (callV d__law_a1_things) [(varE 1), (varE 3)])) (nameT 4) i1Body)
  (forS (itE KE) (nameT 6) i2Body)))
theorem r_ok {y : D} {n : Nat} {o2 o3 o4 o5 o6 : Option Val} {cs : List Cell} (h : Ja (n + 500) cs) : ∃ o3' o4' o5' o6' cs', rBody ⟨V8 y o2 o3 o4 o5 o6 none, cs⟩ = .ok .nx ⟨V8 y o2 o3' o4' o5' o6' none, cs'⟩ ∧ Ja n cs' := by
  obtain ⟨J, h1, h2⟩ := h
  obtain ⟨w, J', w1, ⟨m, rs, ts, rfl, hm, hm2, hrl, hr, htl, ht⟩, w2⟩ := world_ok (n := n + 250) h2
  have H : Hy m rs ts := ⟨hm, hm2, hr, hrl, ht, htl⟩
  have e1 := set_k (i := 3) (call_jd (d := d__law_wb_world) (i := 1) (j := 0) (f := cE (.int 8)) (vs := V8 y o2 o3 o4 o5 o6 none) (cs := cs) (cs2 := cs) rfl rfl h1 w1)
  obtain ⟨L, J2, t1, hL, hl, t2⟩ := things_ok (n := n) H (w2.mono (by omega))
  have e2 := call_jdN (d := d__law_a1_things) (i := 1) (j := 0) (f := varE 3) (vs := V8 y o2 (some (.d (wOf m rs ts))) o4 o5 o6 none) (cs := cs.set 0 (.own J')) (cs2 := cs.set 0 (.own J')) rfl rfl (get_self h1) t1
  have hk : ((cs.set 0 (.own J')).set 0 (.own J2) ++ [Cell.own L])[((cs.set 0 (Cell.own J')).set 0 (.own J2)).length]? = some (.own L) := get_new
  have hJ : Ja n ((cs.set 0 (Cell.own J')).set 0 (.own J2) ++ [Cell.own L]) := ⟨J2, get_app (get_self (get_self h1)), t2⟩
  generalize ((cs.set 0 (Cell.own J')).set 0 (.own J2)).length = k at e2 hk
  generalize (cs.set 0 (Cell.own J')).set 0 (.own J2) ++ [Cell.own L] = C at e2 hk hJ
  obtain ⟨st3, f3, o4', o5', rfl⟩ := for_inv (it := itE (callE (callV d__law_a1_things) [(varE 1), (varE 3)])) (g := nameT 4) (b := i1Body) (ck := some k) (L := L) (st := ⟨V8 y o2 (some (.d (wOf m rs ts))) o4 o5 o6 none, cs.set 0 (.own J')⟩)
    (fun _ st => ∃ o4 o5, st = ⟨V8 y o2 (some (.d (wOf m rs ts))) o4 o5 o6 none, C⟩) 0
    (by rw [e_itE, e2, bind_ok]; exact v_itC (st := ⟨_, _⟩) hk) (fun j st ⟨_, _, e⟩ => by subst e; exact gd_own (st := ⟨_, C⟩) hk rfl) ⟨o4, o5, rfl⟩
    (fun x hx j st ⟨o4, o5, e⟩ => by
      subst e
      obtain ⟨o5', g⟩ := i1_ok (y := y) (o2 := o2) (o5 := o5) (o6 := o6) (o7 := none) (cs := C) H (hL x hx)
      exact ⟨_, _, rfl, g, some (.d x), o5', rfl⟩)
  obtain ⟨st4, f4, o6', rfl⟩ := for_inv (it := itE KE) (g := nameT 6) (b := i2Body) (ck := some C.length) (L := KL) (st := ⟨V8 y o2 (some (.d (wOf m rs ts))) o4' o5' o6 none, C⟩)
    (fun _ st => ∃ o6, st = ⟨V8 y o2 (some (.d (wOf m rs ts))) o4' o5' o6 none, C ++ [.own KL]⟩) 0
    (by rw [e_itE, ke_ok, bind_ok]; exact v_itC (st := ⟨_, _⟩) get_new) (fun j st ⟨_, e⟩ => by subst e; exact gd_own (st := ⟨_, C ++ [.own KL]⟩) get_new rfl) ⟨o6, rfl⟩
    (fun x hx j st ⟨o6, e⟩ => by
      subst e
      exact ⟨_, _, rfl, i2_ok hx, some (.d x), rfl⟩)
  exact ⟨_, o4', o5', o6', _, (seq_nx e1).trans ((seq_nx f3).trans f4), hJ.app⟩
def i3Body : S → OS := (ifS (orE (bin2 (eqV true) (callE (callV d__law_wb_world_fault) [(varE 4)]) (varE 7)) (notE (callE (callV d__law_a1_right) [(varE 4)]))) (retS (cE (.bl false))) nextS)
theorem plain : Plain := by
  intro ns hn hb y hy
  obtain ⟨J, p1, p2⟩ := pool_ok hn hy
  rw [e_run1, s_d1]
  simp only [List.replicate, Nat.reduceSub]
  unfold m_law
  have e1 : setS 1 (callE (callV d__law_pool) [(varE 0)]) ⟨[some (.d y), none, none, none, none, none, none, none], []⟩ = .ok .nx ⟨V8 y none none none none none none, [.own J]⟩ := set_k (call_dN rfl p1)
  obtain ⟨st2, f2, o2, o3, o4, o5, o6, C, rfl, hC⟩ := for_inv (it := itA rng1V [(cE (.int 4))]) (g := nameT 2) (b := rBody) (ck := none) (L := rngL 0 4) (st := ⟨V8 y none none none none none none, [.own J]⟩)
    (fun k st => ∃ o2 o3 o4 o5 o6 cs, st = ⟨V8 y o2 o3 o4 o5 o6 none, cs⟩ ∧ Ja (500 * k) cs) 0
    (e_rngL rfl (by decide)) (fun _ _ _ => gd_none) ⟨_, _, _, _, _, _, rfl, J, rfl, p2.mono (by rw [rng_len]; decide)⟩
    (fun x hx k st ⟨o2, o3, o4, o5, o6, cs, e, h⟩ => by
      subst e
      obtain ⟨o3', o4', o5', o6', cs', g1, g2⟩ := r_ok (y := y) (n := 500 * k) (o2 := some (.d x)) (o3 := o3) (o4 := o4) (o5 := o5) (o6 := o6) (h.mono (by omega))
      exact ⟨_, _, rfl, g1, _, _, _, _, _, _, rfl, g2⟩)
  obtain ⟨st3, f3, o4', o7', rfl⟩ := for_inv (it := itE (callE (callV d__law_a1_hand) [])) (g := tupT 2 (consT (nameT 4) (consT (nameT 7) nilT))) (b := i3Body) (ck := some C.length) (L := HL) (st := ⟨V8 y o2 o3 o4 o5 o6 none, C⟩)
    (fun _ st => ∃ o4 o7, st = ⟨V8 y o2 o3 o4 o5 o6 o7, C ++ [.own HL]⟩) 0
    (by rw [e_itE, call_0N hand_ok, bind_ok]; exact v_itC (st := ⟨_, _⟩) get_new) (fun j st ⟨_, _, e⟩ => by subst e; exact gd_own (st := ⟨_, C ++ [.own HL]⟩) get_new rfl) ⟨o4, none, rfl⟩
    (fun x hx j st ⟨o4, o7, e⟩ => by
      subst e
      have hc := List.all_eq_true.mp hl_chk x hx
      unfold chk at hc
      split at hc
      · rename_i t f
        rw [Bool.and_eq_true, Bool.and_eq_true, Bool.and_eq_true, Bool.and_eq_true, Bool.and_eq_true, decide_eq_true_eq, decide_eq_true_eq] at hc
        obtain ⟨c1, c2, c3, c4, c5, c6⟩ := hc
        have hs : Small t := ⟨c1, c2, c3⟩
        have ew := beqD_eq c4
        have q1 := worldfault_ok hs
        rw [ew] at q1
        have q2 := right_ok hs
        refine ⟨⟨V8 y o2 o3 (some (.d t)) o5 o6 (some (.d f)), C ++ [.own HL]⟩, ⟨V8 y o2 o3 (some (.d t)) o5 o6 (some (.d f)), C ++ [.own HL]⟩, rfl, ?_, _, _, rfl⟩
        have k1 : callE (callV d__law_wb_world_fault) [(varE 4)] ⟨V8 y o2 o3 (some (.d t)) o5 o6 (some (.d f)), C ++ [.own HL]⟩ = .ok (.d f) ⟨V8 y o2 o3 (some (.d t)) o5 o6 (some (.d f)), C ++ [.own HL]⟩ := by
          rw [call1 (a := t) rfl, q1, af_d, up_nil]
        have k2 : callE (callV d__law_a1_right) [(varE 4)] ⟨V8 y o2 o3 (some (.d t)) o5 o6 (some (.d f)), C ++ [.own HL]⟩ = .ok (.d (.bl true)) ⟨V8 y o2 o3 (some (.d t)) o5 o6 (some (.d f)), C ++ [.own HL]⟩ := by
          rw [call1 (a := t) rfl, q2, af_d, up_nil]
        have k3 : bin2 (eqV true) (callE (callV d__law_wb_world_fault) [(varE 4)]) (varE 7) ⟨V8 y o2 o3 (some (.d t)) o5 o6 (some (.d f)), C ++ [.own HL]⟩ = .ok (.d (.bl false)) ⟨V8 y o2 o3 (some (.d t)) o5 o6 (some (.d f)), C ++ [.own HL]⟩ := by
          rw [e_bin, k1, bind_ok, e_var1 (v := .d f) rfl, bind_ok, v_eq dOf_d dOf_d c5 c5, c6]; rfl
        unfold i3Body
        rw [e_if, e_or, k3, bind_ok, onB_f, e_not, k2]; rfl
      · cases hc)
  have e4 : retS (cE (.bl true)) ⟨V8 y o2 o3 o4' o5 o6 o7', C ++ [.own HL]⟩ = .ok (.ret (.d (.bl true))) ⟨V8 y o2 o3 o4' o5 o6 o7', C ++ [.own HL]⟩ := rfl
  have all := (seq_nx e1).trans ((seq_nx f2).trans ((seq_nx f3).trans e4))
  exact ⟨_, congrArg (endD 0) all⟩
end Law
end
theorem PySem.Challenge.cw_anystrength_k01_worlds_by_form_holds : PySem.Challenge.rw_anystrength_k01_worlds_by_form.Holds := by
  exact Law.ends Law.plain
