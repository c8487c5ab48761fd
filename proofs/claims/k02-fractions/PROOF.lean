import PyProof.Rows.All
import Wide.All
import OpenK.AllK
import Wide.FinOn
import HandS.ForMost
import HandS.ExcCtx
import HandS.ExcInit
import HandS.IsInst
import HandS.Lambda
import HandS.Gcd
import HandS.Wide
import HandS.TupMul
import HandS.TupAny
import HandS.Style
import HandS.Deep
import HandS.Flow
import HandS.HotCalls
import HandS.ExcIs
import HandS.ExcField
import HandS.Text
import KE.KStateDown
import HandS.Words
import HandS.Defaults
import HandS.Head0
import HandS.Head1
import HandS.Head2
import HandS.Head3
import HandS.HeadEnd
import HandS.HeadHook1
import HandS.HeadHook2
import HandS.HeadHook3
import HandS.HeadHook4
import HandS.HeadWalk
import PySem.Challenge.RW_anystrength_k02_fractions_by_cross_produ
section
set_option Elab.async false
set_option linter.all false
set_option maxRecDepth 100000
set_option maxHeartbeats 2000000
/-! Sh: a def's meaning as a plain Lean function over data, laid over the hand layer. -/
namespace Sh
open PySem PySem.Spec PyProof.Rows
open L2 hiding St

/-- pure data; obj: a def or class of the text, by its number -/
inductive D where
  | non | bl (b : Bool) | int (i : Int) | str (x : Str) | obj (k : Nat)
  | tup (xs : List D) | lst (xs : List D) | klst (xs : List D) | ty (n : String)
/-- a value of a frame: data, a list of this frame's own (by its cell), a lambda that was handed in (by what its call gives) -/
inductive Val where
  | d (x : D) | c (n : Nat) | t (ok : Bool) (nm : Str) (x : D) | x (nm : Str) (y : D)
inductive Cell where
  | own (xs : List D) | frz (xs : List D)
def Cell.xs : Cell → List D
  | .own xs => xs
  | .frz xs => xs
structure S where
  v : List (Option Val)
  c : List Cell
inductive Out (α : Type) where
  | ok (a : α) (st : S) | exc (nm : Str) (x : D) (st : S) | bad
inductive Fl where
  | nx | ret (v : Val) | bk | ct
abbrev OE := Out Val
abbrev OS := Out Fl

/-- what of a program is fixed: its text, its written part, the names, the objects as values, the tables of lambdas -/
structure Cn where
  P : Program
  w : World
  K : PySem.W.Frag
  mg : Str → Option Value
  base : Heap
  G : Nat → Option Addr
  T : List (Addr × Str)

abbrev Fz := Addr → Prop

def KL (K : PySem.W.Frag) (a : Addr) (vs : List V) : Prop :=
  ∃ (o : Obj) (its : Array Value) (n : Nat), K.lookup a = some o ∧ o.cls = .type "list" ∧ o.dict = none ∧ o.data = .seq its n ∧ its.size ≤ sizeLine ∧ Vals vs its.toList
mutual
inductive Rep (c : Cn) (F : Fz) (H : Hp) : D → V → Prop
  | non : Rep c F H .non .non
  | bl {b : Bool} : Rep c F H (.bl b) (.bl b)
  | int {i : Int} : Rep c F H (.int i) (.int i)
  | str {x : Str} : Rep c F H (.str x) (.str x)
  | ty {n : String} : Rep c F H (.ty n) (.ty n)
  | obj {k : Nat} {a : Addr} : c.G k = some a → Rep c F H (.obj k) (.ref a)
  | tup {a : Addr} {vs : List V} {xs : List D} : SqT c.K H a vs → Reps c F H xs vs → Rep c F H (.tup xs) (.ref a)
  | lst {a : Addr} {vs : List V} {xs : List D} : F a → H a = some (.lst vs) → Reps c F H xs vs → Rep c F H (.lst xs) (.ref a)
  | klst {a : Addr} {vs : List V} {xs : List D} : ((∃ o, H a = some (.frz o (.lst vs))) ∨ KL c.K a vs) → Reps c F H xs vs → Rep c F H (.klst xs) (.ref a)
inductive Reps (c : Cn) (F : Fz) (H : Hp) : List D → List V → Prop
  | nil : Reps c F H [] []
  | cons {x : D} {v : V} {xs : List D} {vs : List V} : Rep c F H x v → Reps c F H xs vs → Reps c F H (x :: xs) (v :: vs)
end

/-- what is frozen stays, tuples stay -/
structure Ev (F : Fz) (H : Hp) (F' : Fz) (H' : Hp) : Prop where
  sub : ∀ a, F a → F' a
  keep : ∀ a o, F a → H a = some o → H' a = some o
  tups : ∀ a xs, H a = some (.tup xs) → H' a = some (.tup xs)
  frzs : ∀ a o u, H a = some (.frz o u) → H' a = some (.frz o u)
  exts : ∀ a φ, H a = some (.ext φ) → H' a = some (.ext φ)
  xds : ∀ a fs, H a = some (.xd fs) → H' a = some (.xd fs)
theorem Ev.refl {F : Fz} {H : Hp} : Ev F H F H := ⟨fun _ h => h, fun _ _ _ h => h, fun _ _ h => h, fun _ _ _ h => h, fun _ _ h => h, fun _ _ h => h⟩
theorem Ev.trans {F F1 F2 : Fz} {H H1 H2 : Hp} (a : Ev F H F1 H1) (b : Ev F1 H1 F2 H2) : Ev F H F2 H2 :=
  ⟨fun x h => b.sub x (a.sub x h), fun x o f h => b.keep x o (a.sub x f) (a.keep x o f h), fun x xs h => b.tups x xs (a.tups x xs h), fun x o u h => b.frzs x o u (a.frzs x o u h), fun x φ h => b.exts x φ (a.exts x φ h), fun x fs h => b.xds x fs (a.xds x fs h)⟩
theorem Ev.sqT {F F' : Fz} {H H' : Hp} {K : PySem.W.Frag} {a : Addr} {vs : List V} (e : Ev F H F' H') (h : SqT K H a vs) : SqT K H' a vs := by
  rcases h with (h | ⟨o, h⟩) | h
  · exact .inl (.inl (e.tups _ _ h))
  · exact .inl (.inr ⟨o, e.frzs _ _ _ h⟩)
  · exact .inr h
theorem Ev.rd {F F' : Fz} {H H' : Hp} {a : Addr} {u : HO} (e : Ev F H F' H') (f : F a) (h : Rd H a u) : Rd H' a u := by
  rcases h with h | ⟨o, h⟩
  · exact .inl (e.keep _ _ f h)
  · exact .inr ⟨o, e.frzs _ _ _ h⟩
section
variable {c : Cn} {F F' : Fz} {H H' : Hp}
mutual
theorem Rep.mono {c : Cn} {F F' : Fz} {H H' : Hp} (e : Ev F H F' H') : ∀ {x : D} {v : V}, Rep c F H x v → Rep c F' H' x v
  | _, _, .non => .non
  | _, _, .bl => .bl
  | _, _, .int => .int
  | _, _, .str => .str
  | _, _, .ty => .ty
  | _, _, .obj h => .obj h
  | _, _, .tup h r => .tup (e.sqT h) (Reps.mono e r)
  | _, _, .lst f h r => .lst (e.sub _ f) (e.keep _ _ f h) (Reps.mono e r)
  | _, _, .klst h r => .klst (h.imp (fun ⟨o, z⟩ => ⟨o, e.frzs _ _ _ z⟩) id) (Reps.mono e r)
theorem Reps.mono {c : Cn} {F F' : Fz} {H H' : Hp} (e : Ev F H F' H') : ∀ {xs : List D} {vs : List V}, Reps c F H xs vs → Reps c F' H' xs vs
  | _, _, .nil => .nil
  | _, _, .cons a b => .cons (Rep.mono e a) (Reps.mono e b)
end
theorem Reps.len : ∀ {xs : List D} {vs : List V}, Reps c F H xs vs → xs.length = vs.length
  | _, _, .nil => rfl
  | _, _, .cons _ r => congrArg (· + 1) (Reps.len r)
theorem Reps.get : ∀ {xs : List D} {vs : List V} {i : Nat} {x : D}, Reps c F H xs vs → xs[i]? = some x → ∃ v, vs[i]? = some v ∧ Rep c F H x v
  | _, _, _, _, .nil, e => by simp at e
  | _, _, 0, _, .cons r _, e => by simp at e; subst e; exact ⟨_, rfl, r⟩
  | _, _, i + 1, x, .cons _ t, e => by
    obtain ⟨u, h1, h2⟩ := Reps.get (i := i) (x := x) t (by simpa using e)
    exact ⟨u, by simpa using h1, h2⟩
theorem Reps.getV : ∀ {xs : List D} {vs : List V} {i : Nat} {v : V}, Reps c F H xs vs → vs[i]? = some v → ∃ x, xs[i]? = some x ∧ Rep c F H x v
  | _, _, _, _, .nil, e => by simp at e
  | _, _, 0, _, .cons r _, e => by simp at e; subst e; exact ⟨_, rfl, r⟩
  | _, _, i + 1, x, .cons _ t, e => by
    obtain ⟨u, h1, h2⟩ := Reps.getV (i := i) (v := x) t (by simpa using e)
    exact ⟨u, by simpa using h1, h2⟩
theorem Reps.append : ∀ {xs ys : List D} {vs ws : List V}, Reps c F H xs vs → Reps c F H ys ws → Reps c F H (xs ++ ys) (vs ++ ws)
  | _, _, _, _, .nil, s => s
  | _, _, _, _, .cons r t, s => .cons r (Reps.append t s)
theorem Reps.take : ∀ {xs : List D} {vs : List V} (n : Nat), Reps c F H xs vs → Reps c F H (xs.take n) (vs.take n)
  | _, _, 0, _ => .nil
  | _, _, _ + 1, .nil => .nil
  | _, _, n + 1, .cons r t => .cons r (Reps.take n t)
theorem Reps.drop : ∀ {xs : List D} {vs : List V} (n : Nat), Reps c F H xs vs → Reps c F H (xs.drop n) (vs.drop n)
  | _, _, 0, r => r
  | _, _, _ + 1, .nil => .nil
  | _, _, n + 1, .cons _ t => Reps.drop n t
theorem Reps.set {x : D} {v : V} (r : Rep c F H x v) : ∀ {xs : List D} {vs : List V} (i : Nat), Reps c F H xs vs → Reps c F H (xs.set i x) (vs.set i v)
  | _, _, _, .nil => .nil
  | _, _, 0, .cons _ t => .cons r t
  | _, _, i + 1, .cons q t => .cons q (Reps.set r i t)
theorem Reps.rev {xs : List D} {vs : List V} (h : Reps c F H xs vs) : Reps c F H xs.reverse vs.reverse := by
  induction xs generalizing vs with
  | nil => cases h; exact .nil
  | cons x xs ih =>
    cases h with
    | cons r t => rw [List.reverse_cons, List.reverse_cons]; exact Reps.append (ih t) (.cons r .nil)
theorem Reps.erase : ∀ {xs : List D} {vs : List V} (i : Nat), Reps c F H xs vs → Reps c F H (xs.eraseIdx i) (vs.eraseIdx i)
  | _, _, _, .nil => .nil
  | _, _, 0, .cons _ t => t
  | _, _, i + 1, .cons r t => .cons r (Reps.erase i t)
theorem Reps.dropLast {xs : List D} {vs : List V} (h : Reps c F H xs vs) : Reps c F H xs.dropLast vs.dropLast := by
  rw [List.dropLast_eq_take, List.dropLast_eq_take, h.len]
  exact h.take _
theorem Reps.rep {xs : List D} {vs : List V} (h : Reps c F H xs vs) : ∀ k : Nat, Reps c F H (List.replicate k xs).flatten (List.replicate k vs).flatten
  | 0 => .nil
  | k + 1 => by
    rw [List.replicate_succ, List.replicate_succ, List.flatten_cons, List.flatten_cons]
    exact Reps.append h (Reps.rep h k)
end

/-! ### a def at work -/
def CellOk (c : Cn) (F : Fz) (H : Hp) (a : Addr) : Cell → Prop
  | .own xs => ¬ F a ∧ ∃ vs, H a = some (.lst vs) ∧ Reps c F H xs vs
  | .frz xs => F a ∧ ∃ vs, H a = some (.lst vs) ∧ Reps c F H xs vs
/-- the frame's lists stand at their places, none of them frozen but those that are -/
structure CellsOk (c : Cn) (F : Fz) (H : Hp) (α : List Addr) (cs : List Cell) : Prop where
  len : α.length = cs.length
  nd : α.Nodup
  here : ∀ (n : Nat) (a : Addr) (cl : Cell), α[n]? = some a → cs[n]? = some cl → CellOk c F H a cl
theorem CellOk.read {c : Cn} {F : Fz} {H : Hp} {a : Addr} {cl : Cell} (h : CellOk c F H a cl) : ∃ vs, H a = some (.lst vs) ∧ Reps c F H cl.xs vs := by
  cases cl with
  | own xs => exact h.2
  | frz xs => exact h.2

structure Keeps0 (α : List Addr) (H H' : Hp) : Prop where
  keep : ∀ b o, H b = some o → b ∉ α → (∀ ps, o ≠ .tbl ps) → H' b = some o
/-- nothing but, it may be, a table of code objects -/
def NT (H : Hp) (a : Addr) : Prop := ∀ o, H a = some o → ∃ ps, o = .tbl ps
theorem NT.of {H : Hp} {a : Addr} (h : H a = none) : NT H a := fun o e => by rw [h] at e; cases e
theorem NT.no {H : Hp} {a : Addr} {o : HO} (h : NT H a) (e : H a = some o) (n : ∀ ps, o ≠ .tbl ps) : False := by
  obtain ⟨ps, z⟩ := h o e
  exact n ps z
theorem NT.lst {H : Hp} {a : Addr} {xs : List V} (h : NT H a) (e : H a = some (.lst xs)) : False := h.no e fun ps z => nomatch z
def Dom (F : Fz) (H : Hp) : Prop := ∀ a, F a → ∃ xs, H a = some (.lst xs)
/-- a lambda that was handed in at s0, H0: what its call gives; the objects at pins are kept while it lives -/
def ThkOk (c : Cn) (s0 : Shared) (H0 : Hp) (F0 : Fz) (outer : List Env) (f : Addr) (ok : Bool) (nm : Str) (x : D) : Prop :=
  ∃ (k : Nat) (pins : List (Addr × Obj)), k ≤ 60 ∧ (∀ p ∈ pins, s0.heap.get? p.1 = some p.2 ∧ H0 p.1 = none ∧ p.1 ∉ frs outer) ∧
    (∀ h : Heap, (∀ p ∈ pins, h.get? p.1 = some p.2) → PySem.W.FnAt f h) ∧
    ∀ (A : Around) (outer' : List Env) (s : Shared) (H : Hp) (F : Fz) (Q : VK) (E : XK), Room k A → Env0 c.P c.w c.K c.mg c.base A outer' s H → (∀ p ∈ pins, s.heap.get? p.1 = some p.2 ∧ H p.1 = none) →
      Ev F0 H0 F H → Dom F H → LamX.Tabs c.T H →
      (ok = true → ∀ v F' H', Ev F H F' H' → Keeps0 [] H H' → Dom F' H' → LamX.Tabs c.T H' → (∀ a, F' a → F a ∨ NT H a) → Rep c F' H' x v → Q v H') →
      (ok = false → ∀ C dx v F' H', c.mg nm = some (.ref C) → Ev F H F' H' → Keeps0 [] H H' → Dom F' H' → LamX.Tabs c.T H' → (∀ a, F' a → F a ∨ NT H a) → H' dx = some (.xd [(("what" : Str), v)]) → NT H dx → Rep c F' H' x v → E (.ref C) (some dx) H') →
      codeAny (model c.P c.w) A (.call (.ref f) ⟨[], []⟩) (CR (L2N.CX c.P c.w) outer' c.P c.w H s Q E) s

/-- what is fixed while a def runs: its entry, the frames around it, what was frozen, the lists that were handed in as the caller's own -/
structure Fm where
  s0 : Shared
  H0 : Hp
  outer : List Env
  F0 : Fz
  io : List Addr
  ex : Option (Addr × Obj)

def VR (c : Cn) (m : Fm) (F : Fz) (α : List Addr) (H : Hp) : Val → V → Prop
  | .d x, v => Rep c F H x v
  | .c n, v => ∃ a, α[n]? = some a ∧ v = .ref a
  | .t ok nm x, v => ∃ f, v = .ref f ∧ ThkOk c m.s0 m.H0 m.F0 m.outer f ok nm x
  | .x nm y, v => ∃ (a : Addr) (oe : Obj) (C d : Addr) (u : V), m.ex = some (a, oe) ∧ v = .ref a ∧ c.mg nm = some (.ref C) ∧ L2N.Zn (.ref C) (some d) oe ∧ H d = some (.xd [(("what" : Str), u)]) ∧ Rep c F H y u

structure SR (c : Cn) (m : Fm) (st : S) (F : Fz) (α : List Addr) (σ : L2.St) (H : Hp) : Prop where
  len : σ.length = st.v.length
  vars : ∀ (i : Nat) (val : Val), st.v[i]? = some (some val) → ∃ v, σ[i]? = some (some v) ∧ VR c m F α H val v
  cells : CellsOk c F H α st.c
  pre : m.io <+: α
  loc : ∀ a ∈ α, a ∈ m.io ∨ NT m.H0 a
  dom : Dom F H
  tab : LamX.Tabs c.T H
  fra : Keeps0 m.io m.H0 H
  new : ∀ a, F a → m.F0 a ∨ NT m.H0 a ∨ a ∈ m.io
  old : ∀ a, m.F0 a → F a
  ioF : ∀ a ∈ m.io, ¬ m.F0 a
  ioL : ∀ a ∈ m.io, ∃ xs, m.H0 a = some (.lst xs)
  dom0 : Dom m.F0 m.H0

theorem Keeps0.refl {α : List Addr} {H : Hp} : Keeps0 α H H := ⟨fun _ _ h _ _ => h⟩
/-- what a step leaves of the point where it began -/
structure Evo (F : Fz) (α : List Addr) (H : Hp) (F' : Fz) (α' : List Addr) (H' : Hp) : Prop where
  ev : Ev F H F' H'
  pre : α <+: α'
  loc : ∀ a ∈ α', a ∈ α ∨ NT H a
  fr : Keeps0 α H H'
  nF : ∀ a, F' a → F a ∨ NT H a ∨ a ∈ α
theorem Evo.refl {F : Fz} {α : List Addr} {H : Hp} : Evo F α H F α H := ⟨.refl, List.prefix_rfl, fun _ h => .inl h, .refl, fun _ h => .inl h⟩
theorem Keeps0.back {α : List Addr} {H H' : Hp} (k : Keeps0 α H H') {a : Addr} (h : NT H' a) (na : a ∉ α) : NT H a := fun o e => by
  by_cases ht : ∃ ps, o = .tbl ps
  · exact ht
  · exact (h.no (k.keep a o e na fun ps e => ht ⟨ps, e⟩) fun ps e => ht ⟨ps, e⟩).elim
theorem Evo.trans {F F1 F2 : Fz} {α α1 α2 : List Addr} {H H1 H2 : Hp} (a : Evo F α H F1 α1 H1) (b : Evo F1 α1 H1 F2 α2 H2) : Evo F α H F2 α2 H2 := by
  refine ⟨a.ev.trans b.ev, a.pre.trans b.pre, fun x hx => ?_, ⟨fun x o h h1 h2 => ?_⟩, fun x hx => ?_⟩
  · rcases b.loc x hx with h | h
    · exact a.loc x h
    · by_cases hm : x ∈ α
      · exact .inl hm
      · exact .inr (a.fr.back h hm)
  · refine b.fr.keep x o (a.fr.keep x o h h1 h2) (fun z => ?_) h2
    rcases a.loc x z with w | w
    · exact h1 w
    · exact w.no h h2
  · rcases b.nF x hx with h | h | h
    · exact a.nF x h
    · by_cases hm : x ∈ α
      · exact .inr (.inr hm)
      · exact .inr (.inl (a.fr.back h hm))
    · rcases a.loc x h with w | w
      · exact .inr (.inr w)
      · exact .inr (.inl w)
theorem pre_get {α α' : List Addr} (h : α <+: α') {n : Nat} {a : Addr} (e : α[n]? = some a) : α'[n]? = some a := by
  obtain ⟨t, rfl⟩ := h
  rw [List.getElem?_append_left (List.getElem?_eq_some_iff.mp e).1]
  exact e
theorem VR.mono {c : Cn} {m : Fm} {F F' : Fz} {α α' : List Addr} {H H' : Hp} (e : Evo F α H F' α' H') {val : Val} {v : V} (h : VR c m F α H val v) : VR c m F' α' H' val v := by
  cases val with
  | d x => exact Rep.mono e.ev h
  | c n =>
    obtain ⟨a, h1, h2⟩ := h
    exact ⟨a, pre_get e.pre h1, h2⟩
  | t ok nm x => exact h
  | x nm y =>
    obtain ⟨a, oe, C, d, u, h1, h2, h3, h4, h5, h6⟩ := h
    exact ⟨a, oe, C, d, u, h1, h2, h3, h4, e.ev.xds _ _ h5, Rep.mono e.ev h6⟩

/-! ### readings -/
/-- what is asked where an error is raised -/
def Xo (c : Cn) (m : Fm) (W : WX) (σ : L2.St) (F : Fz) (α : List Addr) (H : Hp) (nm : Str) (x : D) (st' : S) : Prop :=
  ∀ C dx v F' α' H', c.mg nm = some (.ref C) → Evo F α H F' α' H' → SR c m st' F' α' σ H' → H' dx = some (.xd [(("what" : Str), v)]) → NT m.H0 dx → Rep c F' H' x v → W (.ref C) (some dx) σ H'
theorem Xo.evo {c : Cn} {m : Fm} {W : WX} {σ : L2.St} {F F1 : Fz} {α α1 : List Addr} {H H1 : Hp} {nm : Str} {x : D} {st' : S} (e : Evo F α H F1 α1 H1) (h : Xo c m W σ F α H nm x st') : Xo c m W σ F1 α1 H1 nm x st' :=
  fun C dx v F' α' H' hm e' => h C dx v F' α' H' hm (e.trans e')
def PEo (c : Cn) (m : Fm) (W : WX) (σ : L2.St) (F : Fz) (α : List Addr) (H : Hp) (Q : VK) : OE → Prop
  | .ok v st' => ∀ x F' α' H', Evo F α H F' α' H' → SR c m st' F' α' σ H' → VR c m F' α' H' v x → Q x H'
  | .exc nm x st' => Xo c m W σ F α H nm x st'
  | .bad => False
def tI (c : Cn) (m : Fm) (W : WX) (f : S → OE) : TE := fun σ H Q => ∃ st F α, SR c m st F α σ H ∧ PEo c m W σ F α H Q (f st)
def PTo (c : Cn) (m : Fm) (W : WX) (σ : L2.St) (F : Fz) (α : List Addr) (H : Hp) (Q : Bool → Hp → Prop) : OE → Prop
  | .ok (.d (.bl b)) st' => ∀ F' α' H', Evo F α H F' α' H' → SR c m st' F' α' σ H' → Q b H'
  | .exc nm x st' => Xo c m W σ F α H nm x st'
  | _ => False
def tT (c : Cn) (m : Fm) (W : WX) (f : S → OE) : TT := fun σ H Q => ∃ st F α, SR c m st F α σ H ∧ PTo c m W σ F α H Q (f st)
inductive VRs (c : Cn) (m : Fm) (F : Fz) (α : List Addr) (H : Hp) : List Val → List V → Prop
  | nil : VRs c m F α H [] []
  | cons {a : Val} {v : V} {as : List Val} {vs : List V} : VR c m F α H a v → VRs c m F α H as vs → VRs c m F α H (a :: as) (v :: vs)
theorem VRs.mono {c : Cn} {m : Fm} {F F' : Fz} {α α' : List Addr} {H H' : Hp} (e : Evo F α H F' α' H') {as : List Val} {vs : List V} (h : VRs c m F α H as vs) : VRs c m F' α' H' as vs := by
  induction h with
  | nil => exact .nil
  | cons a _ ih => exact .cons (a.mono e) ih
def PAo (c : Cn) (m : Fm) (W : WX) (σ : L2.St) (F : Fz) (α : List Addr) (H : Hp) (Q : List V → Hp → Prop) : Out (List Val) → Prop
  | .ok v st' => ∀ x F' α' H', Evo F α H F' α' H' → SR c m st' F' α' σ H' → VRs c m F' α' H' v x → Q x H'
  | .exc nm x st' => Xo c m W σ F α H nm x st'
  | .bad => False
def tA (c : Cn) (m : Fm) (W : WX) (f : S → Out (List Val)) : TA := fun σ H Q => ∃ st F α, SR c m st F α σ H ∧ PAo c m W σ F α H Q (f st)
def PSo (c : Cn) (m : Fm) (W : WX) (F : Fz) (α : List Addr) (H : Hp) (E : Ends) : OS → Prop
  | .ok .nx st' => ∀ σ' F' α' H', Evo F α H F' α' H' → SR c m st' F' α' σ' H' → E.nx σ' H'
  | .ok (.ret v) st' => ∀ x σ' F' α' H', Evo F α H F' α' H' → SR c m st' F' α' σ' H' → VR c m F' α' H' v x → E.rt x H'
  | .ok .bk st' => ∀ σ' F' α' H', Evo F α H F' α' H' → SR c m st' F' α' σ' H' → E.bk σ' H'
  | .ok .ct st' => ∀ σ' F' α' H', Evo F α H F' α' H' → SR c m st' F' α' σ' H' → E.ct σ' H'
  | .exc nm x st' => ∀ σ', Xo c m W σ' F α H nm x st'
  | .bad => False
def tS (c : Cn) (m : Fm) (W : WX) (g : S → OS) : TS := fun E σ H => ∃ st F α, SR c m st F α σ H ∧ PSo c m W F α H E (g st)

/-! ### the monad -/
def Out.bind {α β : Type} (o : Out α) (g : α → S → Out β) : Out β := match o with
  | .ok a st => g a st
  | .exc nm x st => .exc nm x st
  | .bad => .bad
/-- several in a row -/
def seqE : List (S → OE) → S → Out (List Val)
  | [], st => .ok [] st
  | f :: fs, st => (f st).bind fun v st1 => (seqE fs st1).bind fun vs st2 => .ok (v :: vs) st2
theorem PE_imp {X : Cx} {e : Expr} {t t' : TE} (h : PE X e t) (i : ∀ σ H Q, t' σ H Q → t σ H Q) : PE X e t' := ⟨fun pins s σ H Q I q => h.run pins s σ H Q I (i σ H Q q)⟩
theorem PT_imp {X : Cx} {e : Expr} {t t' : TT} (h : PT X e t) (i : ∀ σ H Q, t' σ H Q → t σ H Q) : PT X e t' := ⟨fun pins s σ H Q I q => h.run pins s σ H Q I (i σ H Q q)⟩
theorem PW_imp {X : Cx} {e : Expr} {t t' : TT} (h : PW X e t) (i : ∀ σ H Q, t' σ H Q → t σ H Q) : PW X e t' := ⟨fun w pins s σ H Q I q => h.run w pins s σ H Q I (i σ H Q q)⟩
theorem PA_imp {X : Cx} {e : List Expr} {t t' : TA} (h : PA X e t) (i : ∀ σ H Q, t' σ H Q → t σ H Q) : PA X e t' := ⟨fun pos pins s σ H Q I q => h.run pos pins s σ H Q I (i σ H Q q)⟩
theorem PS_imp {X : Cx} {e : Stmt} {t t' : TS} (h : PS X e t) (i : ∀ σ H Q, t' Q σ H → t Q σ H) : PS X e t' := ⟨fun pins s σ H Q I q => h.run pins s σ H Q I (i σ H Q q)⟩
theorem PSs_imp {X : Cx} {e : List Stmt} {t t' : TS} (h : PSs X e t) (i : ∀ σ H Q, t' Q σ H → t Q σ H) : PSs X e t' := ⟨fun pins s σ H Q I q => h.run pins s σ H Q I (i σ H Q q)⟩

section
variable {c : Cn} {m : Fm} {W : WX} {σ : L2.St} {F F1 : Fz} {α α1 : List Addr} {H H1 : Hp}
theorem PEo.evo {Q : VK} {o : OE} (e : Evo F α H F1 α1 H1) (h : PEo c m W σ F α H Q o) : PEo c m W σ F1 α1 H1 Q o := by
  cases o with
  | ok v st' => exact fun x F' α' H' e' => h x F' α' H' (e.trans e')
  | exc nm x st' => exact Xo.evo e h
  | bad => exact h
theorem PTo.evo {Q : Bool → Hp → Prop} {o : OE} (e : Evo F α H F1 α1 H1) (h : PTo c m W σ F α H Q o) : PTo c m W σ F1 α1 H1 Q o := by
  cases o with
  | ok v st' =>
    cases v with
    | d x =>
      cases x with
      | bl b => exact fun F' α' H' e' => h F' α' H' (e.trans e')
      | _ => exact h
    | _ => exact h
  | exc nm x st' => exact Xo.evo e h
  | bad => exact h
theorem PAo.evo {Q : List V → Hp → Prop} {o : Out (List Val)} (e : Evo F α H F1 α1 H1) (h : PAo c m W σ F α H Q o) : PAo c m W σ F1 α1 H1 Q o := by
  cases o with
  | ok v st' => exact fun x F' α' H' e' => h x F' α' H' (e.trans e')
  | exc nm x st' => exact Xo.evo e h
  | bad => exact h
theorem PSo.evo {E : Ends} {o : OS} (e : Evo F α H F1 α1 H1) (h : PSo c m W F α H E o) : PSo c m W F1 α1 H1 E o := by
  cases o with
  | ok v st' =>
    cases v with
    | nx => exact fun σ' F' α' H' e' => h σ' F' α' H' (e.trans e')
    | ret v => exact fun x σ' F' α' H' e' => h x σ' F' α' H' (e.trans e')
    | bk => exact fun σ' F' α' H' e' => h σ' F' α' H' (e.trans e')
    | ct => exact fun σ' F' α' H' e' => h σ' F' α' H' (e.trans e')
  | exc nm x st' => exact fun σ' => Xo.evo e (h σ')
  | bad => exact h
end
end Sh
end
section
set_option Elab.async false
set_option linter.all false
set_option maxRecDepth 100000
set_option maxHeartbeats 2000000
namespace Sh
open PySem PySem.Spec PyProof.Rows
open L2 hiding St

/-! ### what an end must be like, for the steps ahead of it -/
structure Pst (c : Cn) (m : Fm) (W : WX) (σ : L2.St) {β : Type} (R : Fz → List Addr → Hp → Out β → Prop) : Prop where
  evo : ∀ {F F1 : Fz} {α α1 : List Addr} {H H1 : Hp} {o : Out β}, Evo F α H F1 α1 H1 → R F α H o → R F1 α1 H1 o
  exc : ∀ {F : Fz} {α : List Addr} {H : Hp} {nm : Str} {x : D} {st : S}, R F α H (.exc nm x st) → Xo c m W σ F α H nm x st
  bad : ∀ {F : Fz} {α : List Addr} {H : Hp}, ¬ R F α H .bad
section
variable {c : Cn} {m : Fm} {W : WX} {σ : L2.St} {F F1 : Fz} {α α1 : List Addr} {H H1 : Hp} {st st1 : S}
theorem pstE {Q : VK} : Pst c m W σ fun F α H o => PEo c m W σ F α H Q o := ⟨fun e h => h.evo e, fun h => h, fun h => h⟩
theorem pstT {Q : Bool → Hp → Prop} : Pst c m W σ fun F α H o => PTo c m W σ F α H Q o := ⟨fun e h => h.evo e, fun h => h, fun h => h⟩
theorem pstA {Q : List V → Hp → Prop} : Pst c m W σ fun F α H o => PAo c m W σ F α H Q o := ⟨fun e h => h.evo e, fun h => h, fun h => h⟩
theorem pstS {E : Ends} : Pst c m W σ fun F α H o => PSo c m W F α H E o := ⟨fun e h => h.evo e, fun h => h σ, fun h => h⟩
variable {β : Type} {R : Fz → List Addr → Hp → Out β → Prop}
theorem kE (p : Pst c m W σ R) {f : S → OE} {g : Val → S → Out β} {P : V → Hp → Prop} (sr : SR c m st F α σ H) (h : R F α H ((f st).bind g))
    (k : ∀ v st' x F' α' H', Evo F α H F' α' H' → SR c m st' F' α' σ H' → VR c m F' α' H' v x → R F' α' H' (g v st') → P x H') : tI c m W f σ H P := by
  refine ⟨st, F, α, sr, ?_⟩
  generalize f st = o at h ⊢
  cases o with
  | ok v st' => exact fun x F' α' H' e s' r => k v st' x F' α' H' e s' r (p.evo e h)
  | exc nm x st' => exact p.exc h
  | bad => exact p.bad h
theorem kA (p : Pst c m W σ R) {f : S → Out (List Val)} {g : List Val → S → Out β} {P : List V → Hp → Prop} (sr : SR c m st F α σ H) (h : R F α H ((f st).bind g))
    (k : ∀ v st' x F' α' H', Evo F α H F' α' H' → SR c m st' F' α' σ H' → VRs c m F' α' H' v x → R F' α' H' (g v st') → P x H') : tA c m W f σ H P := by
  refine ⟨st, F, α, sr, ?_⟩
  generalize f st = o at h ⊢
  cases o with
  | ok v st' => exact fun x F' α' H' e s' r => k v st' x F' α' H' e s' r (p.evo e h)
  | exc nm x st' => exact p.exc h
  | bad => exact p.bad h
/-- a bool's way -/
def onB {β : Type} (t e : S → Out β) : Val → S → Out β
  | .d (.bl true), st => t st
  | .d (.bl false), st => e st
  | _, _ => .bad
theorem kT (p : Pst c m W σ R) {f : S → OE} {t e : S → Out β} {P : Bool → Hp → Prop} (sr : SR c m st F α σ H) (h : R F α H ((f st).bind (onB t e)))
    (k : ∀ (b : Bool) st' F' α' H', Evo F α H F' α' H' → SR c m st' F' α' σ H' → R F' α' H' (if b = true then t st' else e st') → P b H') : tT c m W f σ H P := by
  refine ⟨st, F, α, sr, ?_⟩
  generalize f st = o at h ⊢
  cases o with
  | ok v st' =>
    cases v with
    | d x =>
      cases x with
      | bl b =>
        refine fun F' α' H' e' s' => k b st' F' α' H' e' s' ?_
        cases b with
        | true => exact p.evo e' h
        | false => exact p.evo e' h
      | _ => exact p.bad h
    | _ => exact p.bad h
  | exc nm x st' => exact p.exc h
  | bad => exact p.bad h
end

/-! ### cells and freezing -/
def toD : Val → S → Option (D × S)
  | .d x, st => some (x, st)
  | .c n, st => match st.c[n]? with
    | some (.own xs) => some (.lst xs, { st with c := st.c.set n (.frz xs) })
    | some (.frz xs) => some (.lst xs, st)
    | none => none
  | .t _ _ _, _ => none
  | .x _ _, _ => none
def toDs : List Val → S → Option (List D × S)
  | [], st => some ([], st)
  | v :: vs, st => match toD v st with
    | none => none
    | some (x, st1) => match toDs vs st1 with
      | none => none
      | some (xs, st2) => some (x :: xs, st2)
section
variable {c : Cn} {m : Fm} {W : WX} {σ : L2.St} {F F1 : Fz} {α α1 : List Addr} {H H1 : Hp} {st st1 : S}
theorem nd_at {α : Type} {l : List α} (hN : l.Nodup) {i j : Nat} {x : α} (a : l[i]? = some x) (b : l[j]? = some x) : i = j := by
  obtain ⟨h1, e1⟩ := List.getElem?_eq_some_iff.mp a
  obtain ⟨h2, e2⟩ := List.getElem?_eq_some_iff.mp b
  exact (List.getElem_inj hN).mp (e1.trans e2.symm)
theorem SR.cell (sr : SR c m st F α σ H) {n : Nat} {a : Addr} (e : α[n]? = some a) : ∃ cl, st.c[n]? = some cl ∧ CellOk c F H a cl := by
  have h1 := (List.getElem?_eq_some_iff.mp e).1
  rw [sr.cells.len] at h1
  exact ⟨_, List.getElem?_eq_getElem h1, sr.cells.here n a _ e (List.getElem?_eq_getElem h1)⟩
theorem SR.addr (sr : SR c m st F α σ H) {n : Nat} {cl : Cell} (e : st.c[n]? = some cl) : ∃ a, α[n]? = some a ∧ CellOk c F H a cl := by
  have h1 := (List.getElem?_eq_some_iff.mp e).1
  rw [← sr.cells.len] at h1
  exact ⟨_, List.getElem?_eq_getElem h1, sr.cells.here n _ _ (List.getElem?_eq_getElem h1) e⟩
theorem CellOk.mono {a : Addr} {cl : Cell} {F' : Fz} {H' : Hp} (e : Ev F H F' H') (h : CellOk c F H a cl) (hn : ¬ F a → ¬ F' a) (hk : H' a = H a) : CellOk c F' H' a cl := by
  cases cl with
  | own xs =>
    obtain ⟨h1, vs, h2, h3⟩ := h
    exact ⟨hn h1, vs, hk.trans h2, Reps.mono e h3⟩
  | frz xs =>
    obtain ⟨h1, vs, h2, h3⟩ := h
    exact ⟨e.sub _ h1, vs, hk.trans h2, Reps.mono e h3⟩
/-- the frozen at the entry and now -/
theorem SR.ev0 (sr : SR c m st F α σ H) : Ev m.F0 m.H0 F H := by
  refine ⟨sr.old, fun a o f e => ?_, fun a xs e => ?_, fun a o u e => ?_, fun a φ e => ?_, fun a fs e => ?_⟩
  · obtain ⟨xs, h⟩ := sr.dom0 a f
    rw [h] at e; cases e
    exact sr.fra.keep a _ h (fun z => sr.ioF a z f) fun ps z => nomatch z
  · refine sr.fra.keep a _ e (fun z => ?_) fun ps z => nomatch z
    obtain ⟨ys, h⟩ := sr.ioL a z
    rw [h] at e; cases e
  · refine sr.fra.keep a _ e (fun z => ?_) fun ps z => nomatch z
    obtain ⟨ys, h⟩ := sr.ioL a z
    rw [h] at e; cases e
  · refine sr.fra.keep a _ e (fun z => ?_) fun ps z => nomatch z
    obtain ⟨ys, h⟩ := sr.ioL a z
    rw [h] at e; cases e
  · refine sr.fra.keep a _ e (fun z => ?_) fun ps z => nomatch z
    obtain ⟨ys, h⟩ := sr.ioL a z
    rw [h] at e; cases e
theorem toD_ok {val : Val} {v : V} {x : D} (sr : SR c m st F α σ H) (r : VR c m F α H val v) (e : toD val st = some (x, st1)) : ∃ F', Evo F α H F' α H ∧ SR c m st1 F' α σ H ∧ Rep c F' H x v ∧ st1.v = st.v := by
  cases val with
  | d y =>
    cases e
    exact ⟨F, .refl, sr, r, rfl⟩
  | t ok nm y => cases e
  | x nm y => cases e
  | c n =>
    obtain ⟨a, ha, rfl⟩ := r
    obtain ⟨cl, hc, ck⟩ := sr.cell ha
    simp only [toD, hc] at e
    cases cl with
    | frz xs =>
      cases e
      obtain ⟨h1, vs, h2, h3⟩ := ck
      exact ⟨F, .refl, sr, .lst h1 h2 h3, rfl⟩
    | own xs =>
      cases e
      obtain ⟨h1, vs, h2, h3⟩ := ck
      have ev : Ev F H (fun b => F b ∨ b = a) H := ⟨fun b h => .inl h, fun _ _ _ h => h, fun _ _ h => h, fun _ _ _ h => h, fun _ _ h => h, fun _ _ h => h⟩
      have evo : Evo F α H (fun b => F b ∨ b = a) α H := ⟨ev, List.prefix_rfl, fun _ h => .inl h, .refl, fun b h => h.imp id fun z => .inr (by rw [z]; exact List.mem_of_getElem? ha)⟩
      refine ⟨fun b => F b ∨ b = a, evo, ⟨sr.len, fun i val hi => ?_, ⟨by rw [List.length_set]; exact sr.cells.len, sr.cells.nd, fun k b cl hk hcl => ?_⟩, sr.pre, sr.loc, fun b hb => ?_, sr.tab, sr.fra, fun b hb => ?_, fun b hb => .inl (sr.old b hb), sr.ioF, sr.ioL, sr.dom0⟩, .lst (.inr rfl) h2 (Reps.mono ev h3), rfl⟩
      · obtain ⟨v, e1, e2⟩ := sr.vars i val hi
        exact ⟨v, e1, e2.mono evo⟩
      · by_cases hkn : k = n
        · subst hkn
          rw [ha] at hk; cases hk
          rw [List.getElem?_set_self (List.getElem?_eq_some_iff.mp hc).1] at hcl
          cases hcl
          exact ⟨.inr rfl, vs, h2, Reps.mono ev h3⟩
        · rw [List.getElem?_set_ne (Ne.symm hkn)] at hcl
          have hba : b ≠ a := fun z => hkn (nd_at sr.cells.nd (z ▸ hk) ha)
          exact (sr.cells.here k b cl hk hcl).mono ev (fun z w => w.elim z hba) rfl
      · rcases hb with hb | rfl
        · exact sr.dom b hb
        · exact ⟨vs, h2⟩
      · rcases hb with hb | rfl
        · exact sr.new b hb
        · exact .inr ((sr.loc b (List.mem_of_getElem? ha)).symm)
theorem toDs_ok {vals : List Val} {vs : List V} {xs : List D} (sr : SR c m st F α σ H) (r : VRs c m F α H vals vs) (e : toDs vals st = some (xs, st1)) : ∃ F', Evo F α H F' α H ∧ SR c m st1 F' α σ H ∧ Reps c F' H xs vs ∧ st1.v = st.v := by
  induction vals generalizing vs xs st F with
  | nil =>
    cases r
    cases e
    exact ⟨F, .refl, sr, .nil, rfl⟩
  | cons val vals ih =>
    cases r with
    | cons r1 r2 =>
      unfold toDs at e
      cases e1 : toD val st with
      | none => rw [e1] at e; cases e
      | some p =>
        obtain ⟨x, st2⟩ := p
        rw [e1] at e
        obtain ⟨F1, ev1, sr1, q1, hv1⟩ := toD_ok sr r1 e1
        simp only at e
        cases e2 : toDs vals st2 with
        | none => rw [e2] at e; cases e
        | some p =>
          obtain ⟨ys, st3⟩ := p
          rw [e2] at e
          cases e
          obtain ⟨F2, ev2, sr2, q2, hv2⟩ := ih sr1 (r2.mono ev1) e2
          exact ⟨F2, ev1.trans ev2, sr2, .cons (Rep.mono ev2.ev q1) q2, hv2.trans hv1⟩
theorem SR.fresh0 (sr : SR c m st F α σ H) {p : Addr} (hp : NT H p) : NT m.H0 p := fun o q => by
  by_cases ht : ∃ ps, o = .tbl ps
  · exact ht
  · by_cases hi : p ∈ m.io
    · obtain ⟨t, e⟩ := sr.pre
      obtain ⟨n, hn⟩ := List.mem_iff_getElem?.mp (show p ∈ α by rw [← e]; exact List.mem_append_left _ hi)
      obtain ⟨cl, _, ck⟩ := sr.cell hn
      obtain ⟨ws, hw, _⟩ := ck.read
      exact (hp.lst hw).elim
    · exact (hp.no (sr.fra.keep p o q hi fun ps e => ht ⟨ps, e⟩) fun ps e => ht ⟨ps, e⟩).elim
/-- a fresh thing that is no list of the frame's -/
theorem SR.newT (sr : SR c m st F α σ H) {p : Addr} {o : HO} (hp : H p = none) : Evo F α H F α (upd H p o) ∧ SR c m st F α σ (upd H p o) := by
  have k : ∀ b u, H b = some u → upd H p o b = some u := fun b u e => by rw [upd_ne (ne_of_none e hp)]; exact e
  have ev : Ev F H F (upd H p o) := ⟨fun _ h => h, fun b u _ h => k b u h, fun b xs h => k b _ h, fun b ob u h => k b _ h, fun b φ h => k b _ h, fun b fs h => k b _ h⟩
  have evo : Evo F α H F α (upd H p o) := ⟨ev, List.prefix_rfl, fun _ h => .inl h, ⟨fun b u h _ _ => k b u h⟩, fun _ h => .inl h⟩
  refine ⟨evo, ⟨sr.len, fun i val hi => ?_, ⟨sr.cells.len, sr.cells.nd, fun n a cl ha hc => ?_⟩, sr.pre, sr.loc, fun b hb => ?_, sr.tab.ext k, ⟨fun b u h1 h2 h3 => k b u (sr.fra.keep b u h1 h2 h3)⟩, sr.new, sr.old, sr.ioF, sr.ioL, sr.dom0⟩⟩
  · obtain ⟨v, e1, e2⟩ := sr.vars i val hi
    exact ⟨v, e1, e2.mono evo⟩
  · have ck := sr.cells.here n a cl ha hc
    obtain ⟨vs, h2, _⟩ := ck.read
    exact ck.mono ev (fun z => z) ((k a _ h2).trans h2.symm)
  · obtain ⟨xs, h⟩ := sr.dom b hb
    exact ⟨xs, k b _ h⟩
/-- a new list of the frame's own -/
theorem SR.newL (sr : SR c m st F α σ H) {p : Addr} {xs : List D} {vs : List V} (hp : H p = none) (r : Reps c F H xs vs) :
    Evo F α H F (α ++ [p]) (upd H p (.lst vs)) ∧ SR c m { st with c := st.c ++ [.own xs] } F (α ++ [p]) σ (upd H p (.lst vs)) := by
  obtain ⟨e1, s1⟩ := sr.newT (o := .lst vs) hp
  have h0 := sr.fresh0 (NT.of hp)
  have evo : Evo F α H F (α ++ [p]) (upd H p (.lst vs)) := ⟨e1.ev, List.prefix_append _ _, fun a h => (List.mem_append.mp h).imp id fun z => by rw [List.mem_singleton.mp z]; exact .of hp, e1.fr, e1.nF⟩
  have np : p ∉ α := fun z => by
    obtain ⟨n, hn⟩ := List.mem_iff_getElem?.mp z
    obtain ⟨cl, _, ck⟩ := sr.cell hn
    obtain ⟨ws, hw, _⟩ := ck.read
    rw [hp] at hw; cases hw
  have nF : ¬ F p := fun z => by
    obtain ⟨ws, hw⟩ := sr.dom p z
    rw [hp] at hw; cases hw
  refine ⟨evo, ⟨s1.len, fun i val hi => ?_, ⟨by rw [List.length_append, List.length_append, sr.cells.len]; rfl, ?_, fun n a cl ha hc => ?_⟩, sr.pre.trans (List.prefix_append _ _), fun a ha => ?_, s1.dom, s1.tab, s1.fra, s1.new, s1.old, s1.ioF, s1.ioL, s1.dom0⟩⟩
  · obtain ⟨v, q1, q2⟩ := sr.vars i val hi
    exact ⟨v, q1, q2.mono evo⟩
  · refine List.nodup_append.mpr ⟨sr.cells.nd, List.nodup_cons.mpr ⟨by simp, List.nodup_nil⟩, fun a ha b hb => ?_⟩
    rw [List.mem_singleton.mp hb]
    exact fun z => np (z ▸ ha)
  · by_cases hn : n < α.length
    · rw [List.getElem?_append_left hn] at ha
      rw [List.getElem?_append_left (by rw [← sr.cells.len]; exact hn)] at hc
      exact s1.cells.here n a cl ha hc
    · have hn' : n = α.length := by
        have := (List.getElem?_eq_some_iff.mp ha).1
        rw [List.length_append, List.length_singleton] at this
        omega
      subst hn'
      rw [List.getElem?_append_right (Nat.le_refl _), Nat.sub_self] at ha
      rw [List.getElem?_append_right (by rw [sr.cells.len]; exact Nat.le_refl _), sr.cells.len, Nat.sub_self] at hc
      cases ha
      cases hc
      exact ⟨nF, vs, upd_same, Reps.mono e1.ev r⟩
  · rcases List.mem_append.mp ha with ha | ha
    · exact sr.loc a ha
    · rw [List.mem_singleton.mp ha]
      exact .inr h0
/-- a list of the frame's own is written -/
theorem SR.setL (sr : SR c m st F α σ H) {n : Nat} {a : Addr} {xs ys : List D} {vs : List V} (ha : α[n]? = some a) (hc : st.c[n]? = some (.own xs)) (r : Reps c F H ys vs) :
    Evo F α H F α (upd H a (.lst vs)) ∧ SR c m { st with c := st.c.set n (.own ys) } F α σ (upd H a (.lst vs)) := by
  obtain ⟨nF, ws, hw, _⟩ := sr.cells.here n a _ ha hc
  have k : ∀ b u, b ≠ a → H b = some u → upd H a (.lst vs) b = some u := fun b u hb e => by rw [upd_ne hb]; exact e
  have no : ∀ b u, H b = some u → (∀ l, u ≠ .lst l) → b ≠ a := fun b u e h z => by
    subst z
    rw [hw] at e
    cases e
    exact h _ rfl
  have ev : Ev F H F (upd H a (.lst vs)) := ⟨fun _ h => h, fun b u f h => k b u (fun z => nF (z ▸ f)) h, fun b xs h => k b _ (no b _ h fun l z => nomatch z) h, fun b ob u h => k b _ (no b _ h fun l z => nomatch z) h, fun b φ h => k b _ (no b _ h fun l z => nomatch z) h, fun b fs h => k b _ (no b _ h fun l z => nomatch z) h⟩
  have evo : Evo F α H F α (upd H a (.lst vs)) := by
    refine ⟨ev, List.prefix_rfl, fun _ h => .inl h, ⟨fun b u h hb _ => k b u (fun z => hb (z ▸ List.mem_of_getElem? ha)) h⟩, fun _ h => .inl h⟩
  refine ⟨evo, ⟨sr.len, fun i val hi => ?_, ⟨by rw [List.length_set]; exact sr.cells.len, sr.cells.nd, fun j b cl hb hcl => ?_⟩, sr.pre, sr.loc, fun b hb => ?_, fun q hq => ?_, ⟨fun b u h1 h2 h3 => ?_⟩, sr.new, sr.old, sr.ioF, sr.ioL, sr.dom0⟩⟩
  · obtain ⟨v, e1, e2⟩ := sr.vars i val hi
    exact ⟨v, e1, e2.mono evo⟩
  · by_cases hjn : j = n
    · subst hjn
      rw [ha] at hb; cases hb
      rw [List.getElem?_set_self (List.getElem?_eq_some_iff.mp hc).1] at hcl
      cases hcl
      exact ⟨nF, vs, upd_same, Reps.mono ev r⟩
    · rw [List.getElem?_set_ne (Ne.symm hjn)] at hcl
      have hba : b ≠ a := fun z => hjn (nd_at sr.cells.nd (z ▸ hb) ha)
      exact (sr.cells.here j b cl hb hcl).mono ev (fun z => z) (upd_ne hba)
  · obtain ⟨xs, h⟩ := sr.dom b hb
    exact ⟨xs, k b _ (fun z => nF (z ▸ hb)) h⟩
  · obtain ⟨ps, t1, t2, t3⟩ := sr.tab q hq
    refine ⟨ps, k _ _ (no _ _ t1 fun l z => nomatch z) t1, t2, fun p' cv hcv => ?_⟩
    obtain ⟨c0, z1, z2⟩ := t3 p' cv hcv
    refine ⟨c0, z1, k _ _ (no _ _ z2 fun l z => ?_) z2⟩
    unfold LamX.CodeO at z
    cases z
  · have hb := sr.fra.keep b u h1 h2 h3
    refine k b u (fun z => ?_) hb
    rcases sr.loc a (List.mem_of_getElem? ha) with w | w
    · exact h2 (z ▸ w)
    · exact w.no (z ▸ h1) h3
end
end Sh
end
section
set_option Elab.async false
set_option linter.all false
set_option maxRecDepth 100000
set_option maxHeartbeats 2000000
namespace Sh
open PySem PySem.Spec PyProof.Rows
open L2 hiding St

/-! ### expressions -/
section
variable {X : Cx} {c : Cn} {m : Fm} {W : WX} {e a b : Expr} {es : List Expr} {pos : Pos}
def varE (i : Nat) : S → OE := fun st => match st.v[i]? with
  | some (some v) => .ok v st
  | _ => .bad
theorem i_var {i : Nat} (h : PE X e (tVar i)) : PE X e (tI c m W (varE i)) := PE_imp h fun σ H Q ⟨st, F, α, sr, p⟩ => by
  unfold varE at p
  split at p
  · rename_i v hv
    obtain ⟨x, h1, h2⟩ := sr.vars i v hv
    exact ⟨x, h1, p x F α H .refl sr h2⟩
  · exact p.elim
def cE (x : D) : S → OE := fun st => .ok (.d x) st
theorem i_c {v : V} {x : D} (h : PE X e (tC v)) (r : ∀ F H, Rep c F H x v) : PE X e (tI c m W (cE x)) := PE_imp h fun σ H Q ⟨st, F, α, sr, p⟩ => p v F α H .refl sr (r F H)
theorem i_int {i : Int} {j : Nat} : PE X (.Constant (.int i) j pos) (tI c m W (cE (.int i))) := i_c pe_int fun _ _ => .int
theorem i_bl {b : Bool} {j : Nat} : PE X (.Constant (.bool b) j pos) (tI c m W (cE (.bl b))) := i_c pe_bl fun _ _ => .bl
theorem i_non {j : Nat} : PE X (.Constant .none j pos) (tI c m W (cE .non)) := i_c pe_non fun _ _ => .non
theorem i_str {x : Str} {j : Nat} : PE X (.Constant (.str x) j pos) (tI c m W (cE (.str x))) := i_c pe_str fun _ _ => .str

/-! two places -/
def bin2 (g : Val → Val → S → OE) (fa fb : S → OE) : S → OE := fun st => (fa st).bind fun x st1 => (fb st1).bind fun y st2 => g x y st2
def un1 (g : Val → S → OE) (fa : S → OE) : S → OE := fun st => (fa st).bind g
/-- a rule for two values serves g -/
def ROp (c : Cn) (m : Fm) (W : WX) (g : Val → Val → S → OE) (r : R2) : Prop :=
  ∀ st F α σ H va vb x y Q, SR c m st F α σ H → VR c m F α H va x → VR c m F α H vb y → PEo c m W σ F α H Q (g va vb st) → r x y H Q
def ROp1 (c : Cn) (m : Fm) (W : WX) (g : Val → S → OE) (r : V → Hp → VK → Prop) : Prop :=
  ∀ st F α σ H va x Q, SR c m st F α σ H → VR c m F α H va x → PEo c m W σ F α H Q (g va st) → r x H Q
def RCall (c : Cn) (m : Fm) (W : WX) (g : List Val → S → OE) (r : List V → Hp → VK → Prop) : Prop :=
  ∀ st F α σ H va x Q, SR c m st F α σ H → VRs c m F α H va x → PEo c m W σ F α H Q (g va st) → r x H Q
theorem bin_imp {g : Val → Val → S → OE} {r : R2} {fa fb : S → OE} (hr : ROp c m W g r) : ∀ σ H Q, tI c m W (bin2 g fa fb) σ H Q → tOp r (tI c m W fa) (tI c m W fb) σ H Q := fun σ H Q ⟨st, F, α, sr, p⟩ =>
  kE pstE sr p fun va st1 x F1 α1 H1 _ s1 r1 p1 => kE pstE s1 p1 fun vb st2 y F2 α2 H2 e2 s2 r2 p2 => hr st2 F2 α2 σ H2 va vb x y Q s2 (r1.mono e2) r2 p2
theorem i_op {op : Operator} {g : Val → Val → S → OE} {r : R2} {fa fb : S → OE} (ho : OpR X (binaryOp op) r) (hr : ROp c m W g r) (ha : PE X a (tI c m W fa)) (hb : PE X b (tI c m W fb)) :
    PE X (.BinOp a op b pos) (tI c m W (bin2 g fa fb)) := PE_imp (pe_op ho ha hb) (bin_imp hr)
theorem i_cmp {op : CmpOp} {g : Val → Val → S → OE} {r : R2} {fa fb : S → OE} (ho : OpR X (compareOp op) r) (hr : ROp c m W g r) (ha : PE X a (tI c m W fa)) (hb : PE X b (tI c m W fb)) (hm : behindInMarks op b = false) :
    PE X (.Compare a [op] [b] pos) (tI c m W (bin2 g fa fb)) := PE_imp (pe_cmpR ho ha hb hm) (bin_imp hr)
theorem i_ix {g : Val → Val → S → OE} {r : R2} {fa fb : S → OE} (ho : IxR X r) (hr : ROp c m W g r) (ha : PE X a (tI c m W fa)) (hb : PE X b (tI c m W fb)) (hs : PlainIx b) :
    PE X (.Subscript a b pos) (tI c m W (bin2 g fa fb)) := PE_imp (pe_ix ho ha hb hs) (bin_imp hr)
theorem un_imp {g : Val → S → OE} {r : V → Hp → VK → Prop} {fa : S → OE} (hr : ROp1 c m W g r) : ∀ σ H Q, tI c m W (un1 g fa) σ H Q → tUn r (tI c m W fa) σ H Q := fun σ H Q ⟨st, F, α, sr, p⟩ =>
  kE pstE sr p fun va st1 x F1 α1 H1 _ s1 r1 p1 => hr st1 F1 α1 σ H1 va x Q s1 r1 p1
theorem i_un {op : UnaryOp} {g : Val → S → OE} {r : V → Hp → VK → Prop} {fa : S → OE} (ho : UnR X (unaryOp op) r) (hr : ROp1 c m W g r) (ha : PE X a (tI c m W fa)) :
    PE X (.UnaryOp op a pos) (tI c m W (un1 g fa)) := PE_imp (pe_un ho ha) (un_imp hr)

/-! arguments -/
theorem i_pa_nil : PA X [] (tA c m W (seqE [])) := PA_imp pa_nil fun σ H Q ⟨st, F, α, sr, p⟩ => p [] F α H .refl sr .nil
theorem i_pa_cons {f : S → OE} {fs : List (S → OE)} (ha : PE X e (tI c m W f)) (hr : PA X es (tA c m W (seqE fs))) (hs : starEach (e :: es) X.env = (false, eval e X.env) :: starEach es X.env := by rfl) :
    PA X (e :: es) (tA c m W (seqE (f :: fs))) := PA_imp (pa_cons ha hr hs) fun σ H Q ⟨st, F, α, sr, p⟩ =>
  kE pstA sr p fun va st1 x F1 α1 H1 _ s1 r1 p1 => kA pstA s1 p1 fun vs st2 xs F2 α2 H2 e2 s2 r2 p2 => p2 (x :: xs) F2 α2 H2 .refl s2 (.cons (r1.mono e2) r2)
def callE (g : List Val → S → OE) (fs : List (S → OE)) : S → OE := fun st => (seqE fs st).bind g
variable {x : Str} {p : Pos} {id T : String}
theorem call_imp {g : List Val → S → OE} {fs : List (S → OE)} {r : List V → Hp → VK → Prop} (hr : RCall c m W g r) : ∀ σ H Q, tI c m W (callE g fs) σ H Q → tCB r (tA c m W (seqE fs)) σ H Q := fun σ H Q ⟨st, F, α, sr, p⟩ =>
  kA pstE sr p fun vs st1 xs F1 α1 H1 _ s1 r1 p1 => hr st1 F1 α1 σ H1 vs xs Q s1 r1 p1
/-- a built-in function by its name -/
theorem i_callB {g : List Val → S → OE} {fs : List (S → OE)} {r : List V → Hp → VK → Prop} (hc : CallR X (.builtin id) r) (hr : RCall c m W g r) (hm : X.mg x = none) (hv : bootBuiltins x = some (.builtin id)) (ha : PA X (e :: es) (tA c m W (seqE fs)))
    (hg : Gl X x := by rfl) (hn : x ≠ "__name__" := by decide) (hdb : (x == ("__debug__" : Str)) = false := by decide) (he : starEach (e :: es) X.env = (false, eval e X.env) :: starEach es X.env := by rfl) (hpl : (backTo pos (starEach es X.env)).any (·.1) = false := by rfl) :
    PE X (.Call (.Name x p) (e :: es) [] pos) (tI c m W (callE g fs)) := PE_imp (pe_callB hc hg hm hv ha hn hdb he hpl) (call_imp hr)
theorem i_callT {g : List Val → S → OE} {fs : List (S → OE)} {r : List V → Hp → VK → Prop} (hc : CallR X (.type T) r) (hr : RCall c m W g r) (hm : X.mg x = none) (hv : bootBuiltins x = some (.type T)) (ha : PA X (e :: es) (tA c m W (seqE fs)))
    (hg : Gl X x := by rfl) (hn : x ≠ "__name__" := by decide) (hdb : (x == ("__debug__" : Str)) = false := by decide) (he : starEach (e :: es) X.env = (false, eval e X.env) :: starEach es X.env := by rfl) (hpl : (backTo pos (starEach es X.env)).any (·.1) = false := by rfl) :
    PE X (.Call (.Name x p) (e :: es) [] pos) (tI c m W (callE g fs)) := PE_imp (pe_callTy hc hg hm hv ha hn hdb he hpl) (call_imp hr)
/-- a module's name for a built-in function -/
theorem i_callF {g : List Val → S → OE} {fs : List (S → OE)} {r : List V → Hp → VK → Prop} (hc : CallR X (.builtin id) r) (hr : RCall c m W g r) (hm : X.mg x = some (.builtin id)) (ha : PA X (e :: es) (tA c m W (seqE fs)))
    (hg : Gl X x := by rfl) (hdb : (x == ("__debug__" : Str)) = false := by decide) (he : starEach (e :: es) X.env = (false, eval e X.env) :: starEach es X.env := by rfl) (hpl : (backTo pos (starEach es X.env)).any (·.1) = false := by rfl) :
    PE X (.Call (.Name x p) (e :: es) [] pos) (tI c m W (callE g fs)) := PE_imp (pe_callBfun hc hg hm ha hdb he hpl) (call_imp hr)

/-! displays -/
def tupE (fs : List (S → OE)) : S → OE := fun st => (seqE fs st).bind fun vs st1 => match toDs vs st1 with
  | some (xs, st2) => .ok (.d (.tup xs)) st2
  | none => .bad
def newLst (xs : List D) (st : S) : OE := .ok (.c st.c.length) { st with c := st.c ++ [.own xs] }
def lstE (fs : List (S → OE)) : S → OE := fun st => (seqE fs st).bind fun vs st1 => match toDs vs st1 with
  | some (xs, st2) => newLst xs st2
  | none => .bad
theorem seqE_len : ∀ {fs : List (S → OE)} {st st' : S} {vs : List Val}, seqE fs st = .ok vs st' → vs.length = fs.length
  | [], st, st', vs, h => by cases h; rfl
  | f :: fs, st, st', vs, h => by
    unfold seqE at h
    cases h1 : f st with
    | ok v st1 =>
      rw [h1] at h
      simp only [Out.bind] at h
      cases h2 : seqE fs st1 with
      | ok ws st2 =>
        rw [h2] at h
        simp only [Out.bind] at h
        cases h
        rw [List.length_cons, List.length_cons, seqE_len h2]
      | exc nm x st2 => rw [h2] at h; cases h
      | bad => rw [h2] at h; cases h
    | exc nm x st1 => rw [h1] at h; cases h
    | bad => rw [h1] at h; cases h
theorem VRs.len {F : Fz} {α : List Addr} {H : Hp} : ∀ {as : List Val} {vs : List V}, VRs c m F α H as vs → as.length = vs.length
  | _, _, .nil => rfl
  | _, _, .cons _ r => congrArg (· + 1) (VRs.len r)
theorem line_of {n : Nat} (h : n ≤ 1000000) : n ≤ sizeLine := Nat.le_trans h (by rw [sizeLine_eq]; decide)
/-- what the values' number is, beside kA -/
theorem kAn {st : S} {F : Fz} {α : List Addr} {σ : L2.St} {H : Hp} {β : Type} {R : Fz → List Addr → Hp → Out β → Prop} (p : Pst c m W σ R) {fs : List (S → OE)} {g : List Val → S → Out β} {P : List V → Hp → Prop} (sr : SR c m st F α σ H) (h : R F α H ((seqE fs st).bind g))
    (k : ∀ v st' x F' α' H', x.length = fs.length → Evo F α H F' α' H' → SR c m st' F' α' σ H' → VRs c m F' α' H' v x → R F' α' H' (g v st') → P x H') : tA c m W (seqE fs) σ H P := by
  refine ⟨st, F, α, sr, ?_⟩
  generalize ho : seqE fs st = o at h ⊢
  cases o with
  | ok v st' => exact fun x F' α' H' e s' r => k v st' x F' α' H' (by rw [← r.len, seqE_len ho]) e s' r (p.evo e h)
  | exc nm x st' => exact p.exc h
  | bad => exact p.bad h
theorem i_tup {fs : List (S → OE)} {k : Nat} (ha : PA X es (tA c m W (seqE fs))) (hl : fs.length ≤ 1000000 := by exact Nat.le_of_ble_eq_true rfl) : PE X (.Tuple es k pos) (tI c m W (tupE fs)) := PE_imp (pe_tup ha) fun σ H Q ⟨st, F, α, sr, p⟩ =>
  kAn pstE sr p fun vs st1 xs F1 α1 H1 hlen _ s1 r1 p1 => by
    refine ⟨by rw [hlen]; exact line_of hl, fun q hq => ?_⟩
    cases e : toDs vs st1 with
    | none => rw [e] at p1; exact p1.elim
    | some y =>
      obtain ⟨ys, st2⟩ := y
      rw [e] at p1
      obtain ⟨F2, e2, s2, r2, _⟩ := toDs_ok s1 r1 e
      obtain ⟨e3, s3⟩ := s2.newT (o := .tup xs) hq
      exact p1 (.ref q) F2 α1 _ (e2.trans e3) s3 (.tup (.inl (.inl upd_same)) (Reps.mono e3.ev r2))
theorem newLst_ok {st : S} {F : Fz} {α : List Addr} {σ : L2.St} {H : Hp} {Q : VK} {xs : List D} {vs : List V} {q : Addr} (sr : SR c m st F α σ H) (r : Reps c F H xs vs) (hq : H q = none) (p : PEo c m W σ F α H Q (newLst xs st)) : Q (.ref q) (upd H q (.lst vs)) := by
  obtain ⟨e3, s3⟩ := sr.newL hq r
  refine p (.ref q) F (α ++ [q]) _ e3 s3 ⟨q, ?_, rfl⟩
  rw [← sr.cells.len, List.getElem?_append_right (Nat.le_refl _), Nat.sub_self]
  rfl
theorem i_lst {fs : List (S → OE)} (ha : PA X es (tA c m W (seqE fs))) (hl : fs.length ≤ 1000000 := by exact Nat.le_of_ble_eq_true rfl) : PE X (.List es pos) (tI c m W (lstE fs)) := PE_imp (pe_lst ha) fun σ H Q ⟨st, F, α, sr, p⟩ =>
  kAn pstE sr p fun vs st1 xs F1 α1 H1 hlen _ s1 r1 p1 => by
    refine ⟨by rw [hlen]; exact line_of hl, fun q hq => ?_⟩
    cases e : toDs vs st1 with
    | none => rw [e] at p1; exact p1.elim
    | some y =>
      obtain ⟨ys, st2⟩ := y
      rw [e] at p1
      obtain ⟨F2, e2, s2, r2, _⟩ := toDs_ok s1 r1 e
      exact newLst_ok s2 r2 hq (PEo.evo e2 p1)

/-! ### tests -/
variable {f g : S → OE} {rest : List Expr}
/-- a value that is a bool, asked -/
theorem i_test (h : PE X e (tI c m W f)) (he : ∀ whole, isTrue e X.env whole = (do let v ← whole; standAt e.pos; holding [v] (truthy v)) := by intro _; rfl) : PT X e (tT c m W f) := PT_imp (pt_val h he) fun σ H Q ⟨st, F, α, sr, p⟩ => by
  refine ⟨st, F, α, sr, ?_⟩
  generalize f st = o at p ⊢
  cases o with
  | ok v st' =>
    cases v with
    | d x =>
      cases x with
      | bl b =>
        intro y F' α' H' e' s' r
        cases r
        exact ⟨b, rfl, p F' α' H' e' s'⟩
      | _ => exact p.elim
    | _ => exact p.elim
  | exc nm x st' => exact p
  | bad => exact p
theorem i_testc {op : CmpOp} {gg : Val → Val → S → OE} {r : R2} {fa fb : S → OE} (ho : OpR X (compareOp op) r) (hr : ROp c m W gg r) (ha : PE X a (tI c m W fa)) (hb : PE X b (tI c m W fb)) (hm : behindInMarks op b = false) :
    PT X (.Compare a [op] [b] pos) (tT c m W (bin2 gg fa fb)) := PT_imp (pt_cmpR ho ha hb hm) fun σ H Q ⟨st, F, α, sr, p⟩ => by
  refine bin_imp (g := gg) (r := r) hr σ H _ ⟨st, F, α, sr, ?_⟩
  generalize bin2 gg fa fb st = o at p ⊢
  cases o with
  | ok v st' =>
    cases v with
    | d x =>
      cases x with
      | bl b =>
        intro y F' α' H' e' s' r
        cases r
        exact ⟨b, rfl, p F' α' H' e' s'⟩
      | _ => exact p.elim
    | _ => exact p.elim
  | exc nm x st' => exact p
  | bad => exact p
def andE (f g : S → OE) : S → OE := fun st => (f st).bind (onB g (cE (.bl false)))
def orE (f g : S → OE) : S → OE := fun st => (f st).bind (onB (cE (.bl true)) g)
def notE (f : S → OE) : S → OE := fun st => (f st).bind (onB (cE (.bl false)) (cE (.bl true)))
def ifE (t f g : S → OE) : S → OE := fun st => (t st).bind (onB f g)
theorem w_and1 (ha : PT X a (tT c m W f)) : PW X (.BoolOp .And [a] pos) (tT c m W f) := pw_and1 ha
theorem w_or1 (ha : PT X a (tT c m W f)) : PW X (.BoolOp .Or [a] pos) (tT c m W f) := pw_or1 ha
theorem w_and (ha : PT X a (tT c m W f)) (hb : PW X (.BoolOp .And (b :: rest) pos) (tT c m W g)) : PW X (.BoolOp .And (a :: b :: rest) pos) (tT c m W (andE f g)) := PW_imp (pw_and ha hb) fun σ H Q ⟨st, F, α, sr, p⟩ =>
  kT pstT sr p fun k st' F' α' H' e' s' p' => by
    cases k with
    | true =>
      rw [if_pos rfl] at p' ⊢
      exact ⟨st', F', α', s', p'⟩
    | false =>
      rw [if_neg Bool.false_ne_true] at p' ⊢
      exact p' F' α' H' .refl s'
theorem w_or (ha : PT X a (tT c m W f)) (hb : PW X (.BoolOp .Or (b :: rest) pos) (tT c m W g)) : PW X (.BoolOp .Or (a :: b :: rest) pos) (tT c m W (orE f g)) := PW_imp (pw_or ha hb) fun σ H Q ⟨st, F, α, sr, p⟩ =>
  kT pstT sr p fun k st' F' α' H' e' s' p' => by
    cases k with
    | true =>
      rw [if_pos rfl] at p' ⊢
      exact p' F' α' H' .refl s'
    | false =>
      rw [if_neg Bool.false_ne_true] at p' ⊢
      exact ⟨st', F', α', s', p'⟩
theorem t_not (ha : PT X a (tT c m W f)) : PT X (.UnaryOp .Not a pos) (tT c m W (notE f)) := PT_imp (pt_not ha) fun σ H Q ⟨st, F, α, sr, p⟩ =>
  kT pstT sr p fun k st' F' α' H' e' s' p' => by
    cases k with
    | true => exact p' F' α' H' .refl s'
    | false => exact p' F' α' H' .refl s'
theorem i_ifx {t : S → OE} {q : Expr} (ht : PT X q (tT c m W t)) (ha : PE X a (tI c m W f)) (hb : PE X b (tI c m W g)) : PE X (.IfExp q a b pos) (tI c m W (ifE t f g)) := PE_imp (pe_ifExp ht ha hb) fun σ H Q ⟨st, F, α, sr, p⟩ =>
  kT pstE sr p fun k st' F' α' H' e' s' p' => by
    cases k with
    | true => exact ⟨st', F', α', s', p'⟩
    | false => exact ⟨st', F', α', s', p'⟩
/-- and, or as values: all but the last are bools -/
theorem i_b1 {op : PySem.BoolOp} (ha : PE X a (tI c m W f)) : PE X (.BoolOp op [a] pos) (tI c m W f) := pe_one ha
theorem i_and (ha : PE X a (tI c m W f)) (hb : PE X (.BoolOp .And (b :: rest) pos) (tI c m W g)) : PE X (.BoolOp .And (a :: b :: rest) pos) (tI c m W (andE f g)) := PE_imp (pe_and ha hb) fun σ H Q ⟨st, F, α, sr, p⟩ =>
  kE pstE sr p fun va st1 x F1 α1 H1 _ s1 r1 p1 => by
    cases va with
    | d y =>
      cases y with
      | bl k =>
        cases r1
        refine ⟨k, rfl, ?_⟩
        cases k with
        | true => exact ⟨st1, F1, α1, s1, p1⟩
        | false => exact p1 (.bl false) F1 α1 H1 .refl s1 .bl
      | _ => exact p1.elim
    | _ => exact p1.elim
theorem i_or (ha : PE X a (tI c m W f)) (hb : PE X (.BoolOp .Or (b :: rest) pos) (tI c m W g)) : PE X (.BoolOp .Or (a :: b :: rest) pos) (tI c m W (orE f g)) := PE_imp (pe_or ha hb) fun σ H Q ⟨st, F, α, sr, p⟩ =>
  kE pstE sr p fun va st1 x F1 α1 H1 _ s1 r1 p1 => by
    cases va with
    | d y =>
      cases y with
      | bl k =>
        cases r1
        refine ⟨k, rfl, ?_⟩
        cases k with
        | true => exact p1 (.bl true) F1 α1 H1 .refl s1 .bl
        | false => exact ⟨st1, F1, α1, s1, p1⟩
      | _ => exact p1.elim
    | _ => exact p1.elim
theorem i_not (ha : PE X a (tI c m W f)) : PE X (.UnaryOp .Not a pos) (tI c m W (notE f)) := PE_imp (pe_not ha) fun σ H Q ⟨st, F, α, sr, p⟩ =>
  kE pstE sr p fun va st1 x F1 α1 H1 _ s1 r1 p1 => by
    cases va with
    | d y =>
      cases y with
      | bl k =>
        cases r1
        refine ⟨k, rfl, ?_⟩
        cases k with
        | true => exact p1 (.bl false) F1 α1 H1 .refl s1 .bl
        | false => exact p1 (.bl true) F1 α1 H1 .refl s1 .bl
      | _ => exact p1.elim
    | _ => exact p1.elim
/-- a < b < d -/
def chainE (g1 g2 : Val → Val → S → OE) (fa fb fd : S → OE) : S → OE := fun st => (fa st).bind fun x st1 => (fb st1).bind fun y st2 => (g1 x y st2).bind (onB (fun st3 => (fd st3).bind fun z st4 => g2 y z st4) (cE (.bl false)))
theorem i_chain {op op' : CmpOp} {g1 g2 : Val → Val → S → OE} {r r' : R2} {fa fb fd : S → OE} {d : Expr} (ho : OpR X (compareOp op) r) (ho' : OpR X (compareOp op') r') (hr : ROp c m W g1 r) (hr' : ROp c m W g2 r')
    (ha : PE X a (tI c m W fa)) (hb : PE X b (tI c m W fb)) (hd : PE X d (tI c m W fd)) (hm : lastMarks [op, op'] [b, d] = false := by with_unfolding_all rfl) : PE X (.Compare a [op, op'] [b, d] pos) (tI c m W (chainE g1 g2 fa fb fd)) :=
  PE_imp (pe_chain ho ho' ha hb hd hm) fun σ H Q ⟨st, F, α, sr, p⟩ =>
  kE pstE sr p fun va st1 x F1 α1 H1 _ s1 r1 p1 => kE pstE s1 p1 fun vb st2 y F2 α2 H2 e2 s2 r2 p2 => by
    refine hr st2 F2 α2 σ H2 va vb x y _ s2 (r1.mono e2) r2 ?_
    generalize g1 va vb st2 = o at p2 ⊢
    cases o with
    | bad => exact p2
    | exc nm z st3 => exact p2
    | ok v st3 =>
      cases v with
      | d w =>
        cases w with
        | bl k =>
          intro z F3 α3 H3 e3 s3 r3
          cases r3
          refine ⟨k, rfl, ?_⟩
          cases k with
          | false => exact p2 (.bl false) F3 α3 H3 e3 s3 .bl
          | true =>
            rw [if_pos rfl]
            refine kE pstE s3 (PEo.evo e3 p2) fun vc st4 w F4 α4 H4 e4 s4 r4 p4 => ?_
            exact hr' st4 F4 α4 σ H4 vb vc y w Q s4 (r2.mono (e3.trans e4)) r4 p4
        | _ => exact p2.elim
      | _ => exact p2.elim
end
end Sh
end
section
set_option Elab.async false
set_option linter.all false
set_option maxRecDepth 100000
set_option maxHeartbeats 2000000
namespace Sh
open PySem PySem.Spec PyProof.Rows
open L2 hiding St

/-! ### == of data -/
mutual
def py : D → PyData
  | .non => .none
  | .bl b => .bool b
  | .int i => .int i
  | .str x => .str x
  | .obj _ => .none
  | .ty _ => .none
  | .tup xs => .tuple (pys xs)
  | .lst xs => .list (pys xs)
  | .klst xs => .list (pys xs)
def pys : List D → List PyData
  | [] => []
  | x :: xs => py x :: pys xs
end
mutual
def wf : D → Bool
  | .non => true
  | .bl _ => true
  | .int _ => true
  | .str x => PyData.strOk x
  | .obj _ => false
  | .ty _ => false
  | .tup xs => wfs xs
  | .lst xs => wfs xs
  | .klst xs => wfs xs
def wfs : List D → Bool
  | [] => true
  | x :: xs => wf x && wfs xs
end
mutual
def dep : D → Nat
  | .tup xs => deps xs + 1
  | .lst xs => deps xs + 1
  | .klst xs => deps xs + 1
  | .non => 0
  | .bl _ => 0
  | .int _ => 0
  | .str _ => 0
  | .obj _ => 0
  | .ty _ => 0
def deps : List D → Nat
  | [] => 0
  | x :: xs => max (dep x) (deps xs)
end
mutual
def eqD : D → D → Bool
  | .non, .non => true
  | .bl a, .bl b => a == b
  | .bl a, .int j => (if a then 1 else 0) == j
  | .int i, .bl b => i == (if b then 1 else 0)
  | .int i, .int j => i == j
  | .str x, .str y => x == y
  | .tup xs, .tup ys => eqDs xs ys
  | .lst xs, .lst ys => eqDs xs ys
  | .lst xs, .klst ys => eqDs xs ys
  | .klst xs, .lst ys => eqDs xs ys
  | .klst xs, .klst ys => eqDs xs ys
  | _, _ => false
def eqDs : List D → List D → Bool
  | [], [] => true
  | x :: xs, y :: ys => eqD x y && eqDs xs ys
  | _, _ => false
end
def okD (x : D) : Bool := wf x && decide (dep x ≤ 60)
mutual
theorem py_lay : ∀ x : D, wf x = true → (py x).canLay0 = true
  | .non, _ => by simp only [py, PyData.canLay0]
  | .bl _, _ => by simp only [py, PyData.canLay0]
  | .int _, _ => by simp only [py, PyData.canLay0]
  | .str x, h => by
    simp only [py, PyData.canLay0]
    simpa only [wf] using h
  | .obj _, h => by simp [wf] at h
  | .ty _, h => by simp [wf] at h
  | .tup xs, h => by simp only [py, PyData.canLay0]; exact pys_lay xs (by simpa only [wf] using h)
  | .lst xs, h => by simp only [py, PyData.canLay0]; exact pys_lay xs (by simpa only [wf] using h)
  | .klst xs, h => by simp only [py, PyData.canLay0]; exact pys_lay xs (by simpa only [wf] using h)
theorem pys_lay : ∀ xs : List D, wfs xs = true → PyData.canLayAll0 (pys xs) = true
  | [], _ => by simp only [pys, PyData.canLayAll0]
  | x :: xs, h => by
    simp only [wfs, Bool.and_eq_true] at h
    simp only [pys, PyData.canLayAll0, Bool.and_eq_true]
    exact ⟨py_lay x h.1, pys_lay xs h.2⟩
end
mutual
theorem py_dep : ∀ x : D, (py x).depth = dep x
  | .non => by simp only [py, PyData.depth, dep]
  | .bl _ => by simp only [py, PyData.depth, dep]
  | .int _ => by simp only [py, PyData.depth, dep]
  | .str x => by simp only [py, PyData.depth, dep]
  | .obj _ => by simp only [py, PyData.depth, dep]
  | .ty _ => by simp only [py, PyData.depth, dep]
  | .tup xs => by simp only [py, PyData.depth, dep, pys_dep xs]
  | .lst xs => by simp only [py, PyData.depth, dep, pys_dep xs]
  | .klst xs => by simp only [py, PyData.depth, dep, pys_dep xs]
theorem pys_dep : ∀ xs : List D, PyData.depthAll (pys xs) = deps xs
  | [] => by simp only [pys, PyData.depthAll, deps]
  | x :: xs => by simp only [pys, PyData.depthAll, deps, py_dep x, pys_dep xs]
end
theorem py_shaped {x : D} (h : okD x = true) : SeqAt.shaped (py x) = true := by
  unfold okD at h
  rw [Bool.and_eq_true, decide_eq_true_eq] at h
  unfold SeqAt.shaped
  rw [Bool.and_eq_true, decide_eq_true_eq, py_dep]
  exact ⟨py_lay x h.1, by omega⟩
mutual
theorem py_eqv : ∀ x y : D, wf x = true → wf y = true → PyData.eqv (py x) (py y) = eqD x y
  | .non, y, _, hy => by cases y <;> simp_all [py, PyData.eqv, eqD, wf]
  | .bl _, y, _, hy => by cases y <;> simp_all [py, PyData.eqv, eqD, wf]
  | .int _, y, _, hy => by cases y <;> simp_all [py, PyData.eqv, eqD, wf]
  | .str x, y, _, hy => by cases y <;> simp_all [py, PyData.eqv, eqD, wf]
  | .obj _, _, h, _ => by simp [wf] at h
  | .ty _, _, h, _ => by simp [wf] at h
  | .tup xs, y, h, hy => by
    cases y with
    | tup ys => simp only [py, PyData.eqv, eqD]; exact pys_eqv xs ys (by simpa only [wf] using h) (by simpa only [wf] using hy)
    | _ => first | simp_all [py, PyData.eqv, eqD, wf] | simp [wf] at hy
  | .lst xs, y, h, hy => by
    cases y with
    | lst ys => simp only [py, PyData.eqv, eqD]; exact pys_eqv xs ys (by simpa only [wf] using h) (by simpa only [wf] using hy)
    | klst ys => simp only [py, PyData.eqv, eqD]; exact pys_eqv xs ys (by simpa only [wf] using h) (by simpa only [wf] using hy)
    | _ => first | simp_all [py, PyData.eqv, eqD, wf] | simp [wf] at hy
  | .klst xs, y, h, hy => by
    cases y with
    | lst ys => simp only [py, PyData.eqv, eqD]; exact pys_eqv xs ys (by simpa only [wf] using h) (by simpa only [wf] using hy)
    | klst ys => simp only [py, PyData.eqv, eqD]; exact pys_eqv xs ys (by simpa only [wf] using h) (by simpa only [wf] using hy)
    | _ => first | simp_all [py, PyData.eqv, eqD, wf] | simp [wf] at hy
theorem pys_eqv : ∀ xs ys : List D, wfs xs = true → wfs ys = true → PyData.eqvAll (pys xs) (pys ys) = eqDs xs ys
  | [], [], _, _ => by simp only [pys, PyData.eqvAll, eqDs]
  | [], _ :: _, _, _ => by simp only [pys, PyData.eqvAll, eqDs]
  | _ :: _, [], _, _ => by simp only [pys, PyData.eqvAll, eqDs]
  | x :: xs, y :: ys, h, hy => by
    simp only [wfs, Bool.and_eq_true] at h hy
    simp only [pys, PyData.eqvAll, eqDs, py_eqv x y h.1 hy.1, pys_eqv xs ys h.2 hy.2]
end

/-! ### what values hold -/
/-- a value's items where it is a list of the frame's own, or of the data -/
def lstOf : Val → S → Option (List D)
  | .d (.lst xs), _ => some xs
  | .c n, st => (st.c[n]?).map Cell.xs
  | _, _ => none
/-- a value as data, to be read -/
def dOf : Val → S → Option D
  | .d x, _ => some x
  | .c n, st => (st.c[n]?).map fun cl => .lst cl.xs
  | .t _ _ _, _ => none
  | .x _ _, _ => none
section
variable {c : Cn} {m : Fm} {W : WX} {σ : L2.St} {F : Fz} {α : List Addr} {H : Hp} {st : S}
theorem KL.sq {K : PySem.W.Frag} {H : Hp} {a : Addr} {vs : List V} (h : KL K a vs) : SqL K H a vs := .inr h
mutual
theorem Rep.dp : ∀ {x : D} {v : V}, wf x = true → Rep c F H x v → Dp c.K H v (py x)
  | _, _, _, .non => by simp only [py]; exact .non
  | _, _, _, .bl => by simp only [py]; exact .bl _
  | _, _, _, .int => by simp only [py]; exact .int _
  | _, _, _, .str => by simp only [py]; exact .str _
  | _, _, h, .ty => by simp [wf] at h
  | _, _, h, .obj _ => by simp [wf] at h
  | _, _, h, .tup q r => by simp only [py]; exact .tup q (Reps.dp (by simpa only [wf] using h) r)
  | _, _, h, .lst f q r => by simp only [py]; exact .lst (.inl (.inl q)) (Reps.dp (by simpa only [wf] using h) r)
  | _, _, h, .klst q r => by
    simp only [py]
    refine .lst ?_ (Reps.dp (by simpa only [wf] using h) r)
    rcases q with ⟨o, q⟩ | q
    · exact .inl (.inr ⟨o, q⟩)
    · exact .inr q
theorem Reps.dp : ∀ {xs : List D} {vs : List V}, wfs xs = true → Reps c F H xs vs → DpAll c.K H vs (pys xs)
  | _, _, _, .nil => by simp only [pys]; exact .nil
  | _, _, h, .cons a b => by
    simp only [wfs, Bool.and_eq_true] at h
    simp only [pys]
    exact .cons (Rep.dp h.1 a) (Reps.dp h.2 b)
end
theorem lstOf_ok {va : Val} {x : V} {xs : List D} (sr : SR c m st F α σ H) (r : VR c m F α H va x) (e : lstOf va st = some xs) : ∃ a vs, x = .ref a ∧ H a = some (.lst vs) ∧ Reps c F H xs vs := by
  unfold lstOf at e
  split at e
  · cases e
    cases r with
    | lst f h q => exact ⟨_, _, rfl, h, q⟩
  · rename_i n _
    obtain ⟨a, ha, rfl⟩ := r
    obtain ⟨cl, hc, ck⟩ := sr.cell ha
    rw [hc] at e
    cases e
    obtain ⟨vs, h1, h2⟩ := ck.read
    exact ⟨a, vs, rfl, h1, h2⟩
  · cases e
theorem dOf_dp {va : Val} {x : V} {y : D} (sr : SR c m st F α σ H) (r : VR c m F α H va x) (e : dOf va st = some y) (w : wf y = true) : Dp c.K H x (py y) := by
  cases va with
  | d z => cases e; exact Rep.dp w r
  | c n =>
    obtain ⟨a, ha, rfl⟩ := r
    obtain ⟨cl, hc, ck⟩ := sr.cell ha
    simp only [dOf, hc] at e
    cases e
    obtain ⟨vs, h1, h2⟩ := ck.read
    simp only [py]
    exact .lst (.inl (.inl h1)) (Reps.dp (by simpa only [wf] using w) h2)
  | t _ _ _ => cases e
  | x _ _ => cases e

/-! ### operators -/
def boolR (b : Bool) (st : S) : OE := .ok (.d (.bl b)) st
def intR (i : Int) (st : S) : OE := .ok (.d (.int i)) st
theorem PEo.now {Q : VK} {x : D} {v : V} (sr : SR c m st F α σ H) (r : Rep c F H x v) (p : PEo c m W σ F α H Q (.ok (.d x) st)) : Q v H := p v F α H .refl sr r
def intV (C : Int → Int → Bool) (g : Int → Int → Int) : Val → Val → S → OE
  | .d (.int i), .d (.int j), st => if C i j = true then intR (g i j) st else .bad
  | _, _, _ => .bad
def cmpV (g : Int → Int → Bool) : Val → Val → S → OE
  | .d (.int i), .d (.int j), st => boolR (g i j) st
  | _, _, _ => .bad
theorem int_ok {C : Int → Int → Bool} {Cp : Int → Int → Prop} {g : Int → Int → Int} (hC : ∀ i j, C i j = true → Cp i j) : ROp c m W (intV C g) (rI Cp fun i j => .int (g i j)) := fun st F α σ H va vb x y Q sr ra rb p => by
  unfold intV at p
  split at p
  · cases ra
    cases rb
    split at p
    · rename_i h
      exact ⟨_, _, rfl, rfl, hC _ _ h, p.now sr .int⟩
    · exact p.elim
  · exact p.elim
theorem int_ok0 {g : Int → Int → Int} : ROp c m W (intV (fun _ _ => true) g) (rI0 fun i j => .int (g i j)) := fun st F α σ H va vb x y Q sr ra rb p => by
  obtain ⟨i, j, h1, h2, _, h⟩ := int_ok (C := fun _ _ => true) (Cp := fun _ _ => True) (g := g) (fun _ _ _ => trivial) st F α σ H va vb x y Q sr ra rb p
  exact ⟨i, j, h1, h2, h⟩
theorem cmp_ok {g : Int → Int → Bool} : ROp c m W (cmpV g) (rI0 fun i j => .bl (g i j)) := fun st F α σ H va vb x y Q sr ra rb p => by
  unfold cmpV at p
  split at p
  · cases ra
    cases rb
    exact ⟨_, _, rfl, rfl, p.now sr .bl⟩
  · exact p.elim
def ltV := cmpV fun i j => decide (i < j)
def leV := cmpV fun i j => decide (i ≤ j)
def gtV := cmpV fun i j => decide (j < i)
def geV := cmpV fun i j => decide (j ≤ i)
def subV := intV (fun _ _ => true) fun i j => i - j
def modV := intV (fun _ j => decide (j ≠ 0)) fun i j => i.fmod j
def mulI := intV (fun i j => decide (i.natAbs.log2 + j.natAbs.log2 < 1000000)) fun i j => i * j
def divV := intV (fun _ j => decide (j ≠ 0 ∧ j.natAbs.log2 < 9000)) fun i j => i.fdiv j
def powV := intV (fun i j => decide (0 ≤ j ∧ j ≤ 1000000 ∧ i.natAbs < 2 ^ 64)) fun i j => i ^ j.toNat
def CDivA (_ j : Int) : Prop := j ≠ 0 ∧ j.natAbs.log2 < 9000
theorem op_fdivA {X : Cx} : OpR X (binaryOp .FloorDiv) (rI CDivA fun i j => .int (i.fdiv j)) := opI fun i j _ _ _ _ _ hc q => floordiv_int hc.1 q (.inl (PyProof.noPylong_of_log2 hc.2))
def negV : Val → S → OE
  | .d (.int i), st => intR (-i) st
  | _, _ => .bad
theorem neg_ok : ROp1 c m W negV (rU fun i => .int (-i)) := fun st F α σ H va x Q sr ra p => by
  unfold negV at p
  split at p
  · cases ra
    exact ⟨_, rfl, p.now sr .int⟩
  · exact p.elim
def eqV (neg : Bool) (va vb : Val) (st : S) : OE := match dOf va st, dOf vb st with
  | some x, some y => if okD x && okD y then boolR (if neg then !eqD x y else eqD x y) st else .bad
  | _, _ => .bad
theorem eq_get {neg : Bool} {Q : VK} {va vb : Val} {x y : V} (sr : SR c m st F α σ H) (ra : VR c m F α H va x) (rb : VR c m F α H vb y) (p : PEo c m W σ F α H Q (eqV neg va vb st)) :
    ∃ d e, Dp c.K H x d ∧ Dp c.K H y e ∧ SeqAt.shaped d = true ∧ SeqAt.shaped e = true ∧ Q (.bl (if neg then !PyData.eqv d e else PyData.eqv d e)) H := by
  unfold eqV at p
  split at p
  · rename_i a b h1 h2
    split at p
    · rename_i h
      rw [Bool.and_eq_true] at h
      have wa : wf a = true := by have := h.1; unfold okD at this; rw [Bool.and_eq_true] at this; exact this.1
      have wb : wf b = true := by have := h.2; unfold okD at this; rw [Bool.and_eq_true] at this; exact this.1
      refine ⟨py a, py b, dOf_dp sr ra h1 wa, dOf_dp sr rb h2 wb, py_shaped h.1, py_shaped h.2, ?_⟩
      rw [py_eqv a b wa wb]
      exact p.now sr .bl
    · exact p.elim
  · exact p.elim
theorem eq_ok : ROp c m W (eqV false) (rEqD c.K) := fun st F α σ H va vb x y Q sr ra rb p => eq_get sr ra rb p
theorem ne_ok : ROp c m W (eqV true) (rNeD c.K) := fun st F α σ H va vb x y Q sr ra rb p => eq_get sr ra rb p
/-- is None -/
def isNon : Val → Option Bool
  | .d .non => some true
  | .d _ => some false
  | .c _ => some false
  | .t _ _ _ => some false
  | .x _ _ => some false
def isNV (neg : Bool) (va vb : Val) (st : S) : OE := match vb, isNon va with
  | .d .non, some k => boolR (if neg then !k else k) st
  | _, _ => .bad
theorem isN_get {neg : Bool} {Q : VK} {va vb : Val} {x y : V} (sr : SR c m st F α σ H) (ra : VR c m F α H va x) (rb : VR c m F α H vb y) (p : PEo c m W σ F α H Q (isNV neg va vb st)) :
    y = .non ∧ Q (.bl (if neg then !decide (x = .non) else decide (x = .non))) H := by
  unfold isNV at p
  split at p
  · rename_i k hk
    cases rb
    refine ⟨rfl, ?_⟩
    have e : decide (x = .non) = k := by
      unfold isNon at hk
      cases va with
      | d z =>
        cases z <;> cases ra <;> cases hk <;> first | rfl | decide | exact decide_eq_false (fun q => nomatch q)
      | c n => obtain ⟨a, _, rfl⟩ := ra; cases hk; exact decide_eq_false (fun q => nomatch q)
      | t _ _ _ => obtain ⟨a, rfl, _⟩ := ra; cases hk; exact decide_eq_false (fun q => nomatch q)
      | x _ _ => obtain ⟨a, _, _, _, _, _, rfl, _⟩ := ra; cases hk; exact decide_eq_false (fun q => nomatch q)
    rw [e]
    exact p.now sr .bl
  · exact p.elim
theorem isN_ok : ROp c m W (isNV false) (fun x y H Q => y = .non ∧ Q (.bl (decide (x = .non))) H) := fun st F α σ H va vb x y Q sr ra rb p => isN_get sr ra rb p
theorem notN_ok : ROp c m W (isNV true) (fun x y H Q => y = .non ∧ Q (.bl (!decide (x = .non))) H) := fun st F α σ H va vb x y Q sr ra rb p => isN_get sr ra rb p
/-- + -/
def addV (va vb : Val) (st : S) : OE := match va, vb with
  | .d (.int i), .d (.int j) => intR (i + j) st
  | .d (.str i), .d (.str j) => if i.length + j.length ≤ 1000000 then .ok (.d (.str (i ++ j))) st else .bad
  | .d (.tup xs), .d (.tup ys) => if xs.length + ys.length ≤ 1000000 then .ok (.d (.tup (xs ++ ys))) st else .bad
  | _, _ => match lstOf va st, lstOf vb st with
    | some xs, some ys => if xs.length + ys.length ≤ 1000000 then newLst (xs ++ ys) st else .bad
    | _, _ => .bad
def rAddA (K : PySem.W.Frag) : R2 := fun x y H Q => (∃ i j, x = .int i ∧ y = .int j ∧ Q (.int (i + j)) H) ∨ (∃ i j, x = .str i ∧ y = .str j ∧ i.length + j.length ≤ sizeLine ∧ Q (.str (i ++ j)) H) ∨ rCatA K x y H Q ∨ rCat x y H Q
theorem op_addA {X : Cx} : OpR X (binaryOp .Add) (rAddA X.K) := op_add.or (op_add_str.or (op_catA.or op_cat))
theorem Reps.nilL {xs : List D} {vs : List V} (h : Reps c F H xs vs) (e : vs = []) : xs = [] := by
  subst e; cases h; rfl
theorem add_ok : ROp c m W addV (rAddA c.K) := fun st F α σ H va vb x y Q sr ra rb p => by
  unfold addV at p
  split at p
  · cases ra; cases rb
    exact .inl ⟨_, _, rfl, rfl, p.now sr .int⟩
  · cases ra; cases rb
    split at p
    · rename_i h
      exact .inr (.inl ⟨_, _, rfl, rfl, line_of h, p.now sr .str⟩)
    · exact p.elim
  · split at p
    · rename_i h
      cases ra with
      | tup q1 r1 =>
        cases rb with
        | tup q2 r2 =>
          rename_i xs ys _ _ a vs b ws
          refine .inr (.inr (.inl ⟨a, b, vs, ws, rfl, rfl, q1, q2, line_of (by rw [← r1.len, ← r2.len]; exact h), fun e => ?_, fun _ e => ?_, fun _ _ q hq => ?_⟩))
          · have e1 := r1.nilL e
            subst e e1
            exact p.now sr (.tup q2 r2)
          · have e1 := r2.nilL e
            subst e e1
            rw [List.append_nil] at p
            exact p.now sr (.tup q1 r1)
          · obtain ⟨e3, s3⟩ := sr.newT (o := .tup (vs ++ ws)) hq
            exact p (.ref q) F α _ e3 s3 (.tup (.inl (.inl upd_same)) (Reps.mono e3.ev (r1.append r2)))
    · exact p.elim
  · split at p
    · rename_i xs ys h1 h2
      split at p
      · rename_i h
        obtain ⟨a, vs, rfl, ha, r1⟩ := lstOf_ok sr ra h1
        obtain ⟨b, ws, rfl, hb, r2⟩ := lstOf_ok sr rb h2
        exact .inr (.inr (.inr ⟨a, b, vs, ws, rfl, rfl, ha, hb, line_of (by rw [← r1.len, ← r2.len]; exact h), fun q hq => newLst_ok sr (r1.append r2) hq p⟩))
      · exact p.elim
    · exact p.elim
/-- * -/
def mulV (va vb : Val) (st : S) : OE := match va, vb with
  | .d (.int i), .d (.int j) => if i.natAbs.log2 + j.natAbs.log2 < 1000000 then intR (i * j) st else .bad
  | .d (.tup xs), .d (.int k) => if xs ≠ [] ∧ 2 ≤ k ∧ k ≤ 1000 ∧ xs.length ≤ 1000 then .ok (.d (.tup (List.replicate k.toNat xs).flatten)) st else .bad
  | va, .d (.int k) => match lstOf va st with
    | some xs => if 0 ≤ k ∧ k ≤ 1000000 ∧ xs.length * k.toNat ≤ 1000000 then newLst (List.replicate k.toNat xs).flatten st else .bad
    | none => .bad
  | _, _ => .bad
def rMulA (K : PySem.W.Frag) : R2 := fun x y H Q => (∃ i j, x = .int i ∧ y = .int j ∧ CMulW i j ∧ Q (.int (i * j)) H) ∨ rRepT K x y H Q ∨ rRep x y H Q
theorem op_mulA {X : Cx} : OpR X (binaryOp .Mult) (rMulA X.K) := op_mulW.or (op_repT.or op_rep)
theorem mul_ok : ROp c m W mulV (rMulA c.K) := fun st F α σ H va vb x y Q sr ra rb p => by
  unfold mulV at p
  split at p
  · cases ra; cases rb
    split at p
    · rename_i h
      exact .inl ⟨_, _, rfl, rfl, h, p.now sr .int⟩
    · exact p.elim
  · cases rb
    split at p
    · rename_i h
      cases ra with
      | tup q1 r1 =>
        rename_i xs k a vs
        refine .inr (.inl ⟨a, k, vs, rfl, rfl, q1, fun e => h.1 (r1.nilL e), h.2.1, h.2.2.1, by rw [← r1.len]; exact h.2.2.2, fun q hq => ?_⟩)
        obtain ⟨e3, s3⟩ := sr.newT (o := .tup (List.replicate k.toNat vs).flatten) hq
        exact p (.ref q) F α _ e3 s3 (.tup (.inl (.inl upd_same)) (Reps.mono e3.ev (r1.rep k.toNat)))
    · exact p.elim
  · cases rb
    split at p
    · rename_i xs h1
      split at p
      · rename_i h
        obtain ⟨a, vs, rfl, ha, r1⟩ := lstOf_ok sr ra h1
        exact .inr (.inr ⟨a, _, vs, rfl, rfl, ha, by omega, by omega, line_of (by rw [← r1.len]; exact h.2.2), fun q hq => newLst_ok sr (r1.rep _) hq p⟩)
      · exact p.elim
    · exact p.elim
  · exact p.elim
end
end Sh
end
section
set_option Elab.async false
set_option linter.all false
set_option maxRecDepth 100000
set_option maxHeartbeats 2000000
namespace Sh
open PySem PySem.Spec PyProof.Rows
open L2 hiding St

section
variable {c : Cn} {m : Fm} {W : WX} {σ : L2.St} {F : Fz} {α : List Addr} {H : Hp} {st : S}
/-! ### items, lengths, kinds -/
/-- the items of any list or tuple -/
def seqOf : Val → S → Option (List D)
  | .d (.lst xs), _ => some xs
  | .d (.klst xs), _ => some xs
  | .d (.tup xs), _ => some xs
  | .c n, st => (st.c[n]?).map Cell.xs
  | _, _ => none
theorem seqOf_ok {va : Val} {x : V} {xs : List D} (sr : SR c m st F α σ H) (r : VR c m F α H va x) (e : seqOf va st = some xs) : ∃ a vs, x = .ref a ∧ (SqL c.K H a vs ∨ SqT c.K H a vs) ∧ Reps c F H xs vs := by
  unfold seqOf at e
  split at e
  · cases e
    cases r with
    | lst f h q => exact ⟨_, _, rfl, .inl (.inl (.inl h)), q⟩
  · cases e
    cases r with
    | klst h q =>
      refine ⟨_, _, rfl, .inl ?_, q⟩
      rcases h with ⟨o, h⟩ | h
      · exact .inl (.inr ⟨o, h⟩)
      · exact .inr h
  · cases e
    cases r with
    | tup h q => exact ⟨_, _, rfl, .inr h, q⟩
  · rename_i n _
    obtain ⟨a, ha, rfl⟩ := r
    obtain ⟨cl, hc, ck⟩ := sr.cell ha
    rw [hc] at e
    cases e
    obtain ⟨vs, h1, h2⟩ := ck.read
    exact ⟨a, vs, rfl, .inl (.inl (.inl h1)), h2⟩
  · cases e
theorem Reps.at_ {xs : List D} {vs : List V} {i : Int} {x : D} (r : Reps c F H xs vs) (e : atI xs i = some x) : ∃ v, atI vs i = some v ∧ Rep c F H x v := by
  unfold atI at e ⊢
  rw [r.len] at e
  cases q : ixN vs.length i with
  | none => rw [q] at e; cases e
  | some j =>
    rw [q] at e
    exact r.get e
/-- a[i] -/
def ixV (va vb : Val) (st : S) : OE := match vb with
  | .d (.int i) => match va with
    | .d (.str z) => if z.length ≤ 1000000 then match atI z.cps.toList i with
      | some k => .ok (.d (.str ⟨#[k]⟩)) st
      | none => .bad else .bad
    | _ => match seqOf va st with
      | some xs => match atI xs i with
        | some x => .ok (.d x) st
        | none => .bad
      | none => .bad
  | _ => .bad
theorem ix_ok : ROp c m W ixV (rIx c.K) := fun st F α σ H va vb x y Q sr ra rb p => by
  unfold ixV at p
  split at p
  · rename_i i
    cases rb
    split at p
    · cases ra
      split at p
      · rename_i h
        split at p
        · rename_i k hk
          exact .inr (.inr ⟨_, _, k, rfl, rfl, line_of h, hk, p.now sr .str⟩)
        · exact p.elim
      · exact p.elim
    · split at p
      · rename_i xs h1
        split at p
        · rename_i z hz
          obtain ⟨a, vs, rfl, hs, r1⟩ := seqOf_ok sr ra h1
          obtain ⟨v, hv, r2⟩ := r1.at_ hz
          rcases hs with hs | hs
          · exact .inl ⟨a, vs, i, v, rfl, rfl, hs, hv, p.now sr r2⟩
          · exact .inr (.inl ⟨a, vs, i, v, rfl, rfl, hs, hv, p.now sr r2⟩)
        · exact p.elim
      · exact p.elim
  · exact p.elim
/-- len -/
def lenV (vs : List Val) (st : S) : OE := match vs with
  | [.d (.str z)] => if z.length ≤ 1000000 then intR z.length st else .bad
  | [v] => match seqOf v st with
    | some xs => intR xs.length st
    | none => .bad
  | _ => .bad
theorem len_ok : RCall c m W lenV (fun xs H Q => ∃ x n, xs = [x] ∧ LenV c.K x H n ∧ Q (.int n) H) := fun st F α σ H va x Q sr ra p => by
  unfold lenV at p
  split at p
  · cases ra with
    | cons r1 r2 =>
      cases r2
      cases r1
      split at p
      · rename_i h
        exact ⟨_, _, rfl, ⟨line_of h, rfl⟩, p.now sr .int⟩
      · exact p.elim
  · split at p
    · rename_i v _ xs h1
      cases ra with
      | cons r1 r2 =>
        cases r2
        obtain ⟨a, vs, rfl, hs, q1⟩ := seqOf_ok sr r1 h1
        have p' := PEo.now (v := V.int xs.length) sr .int p
        rw [q1.len] at p'
        rcases hs with hs | hs
        · exact ⟨_, _, rfl, .inl ⟨vs, hs, rfl⟩, p'⟩
        · exact ⟨_, _, rfl, .inr ⟨vs, hs, rfl⟩, p'⟩
    · exact p.elim
  · exact p.elim
/-- a value's built-in kind -/
def kindOf : Val → Option String
  | .d .non => some "NoneType"
  | .d (.bl _) => some "bool"
  | .d (.int _) => some "int"
  | .d (.str _) => some "str"
  | .d (.tup _) => some "tuple"
  | .d (.lst _) => some "list"
  | .d (.klst _) => some "list"
  | .c _ => some "list"
  | _ => none
def isiB (a b : String) : Bool := a == b || (a == "bool" && b == "int")
def isiV (vs : List Val) (st : S) : OE := match vs with
  | [v, .d (.ty b)] => match kindOf v with
    | some a => if b ∈ ["int", "bool", "str", "tuple", "list", "dict"] then boolR (isiB a b) st else .bad
    | none => .bad
  | _ => .bad
theorem kind_some {v : Val} {a : String} (h : kindOf v = some a) : a ∈ ["NoneType", "bool", "int", "str", "tuple", "list"] := by
  unfold kindOf at h
  split at h <;> cases h <;> decide
theorem isi_kit {K : PySem.W.Frag} {a b : String} (ha : a ∈ ["NoneType", "bool", "int", "str", "tuple", "list"]) (hb : b ∈ ["int", "bool", "str", "tuple", "list", "dict"]) : PySem.W.kitOne K (.type a) (.type b) = some (isiB a b) := by
  have key : ∀ a ∈ ["NoneType", "bool", "int", "str", "tuple", "list"], ∀ b ∈ ["int", "bool", "str", "tuple", "list", "dict"], kitB a b = some (isiB a b) := by decide +kernel
  exact kit_ty (key a ha b hb)
theorem kind_ty {v : Val} {x : V} {a : String} (sr : SR c m st F α σ H) (r : VR c m F α H v x) (h : kindOf v = some a) : TyX c.K H x (.type a) := by
  unfold kindOf at h
  split at h
  · cases h; cases r; exact .base .non
  · cases h; cases r; exact .base (.bl _)
  · cases h; cases r; exact .base (.int _)
  · cases h; cases r; exact .base (.str _)
  · cases h
    cases r with
    | tup q _ =>
      rcases q with (q | ⟨o, q⟩) | ⟨o, its, n, q1, q2, _⟩
      · exact .base (.tup q)
      · exact .fTuple q
      · exact .kTuple q1 q2
  · cases h
    cases r with
    | lst _ q _ => exact .base (.lst q)
  · cases h
    cases r with
    | klst q _ =>
      rcases q with ⟨o, q⟩ | ⟨o, its, n, q1, q2, _⟩
      · exact .base (.frz q)
      · exact .kList q1 q2
  · cases h
    obtain ⟨b, hb, rfl⟩ := r
    obtain ⟨cl, hc, ck⟩ := sr.cell hb
    obtain ⟨vs, h1, _⟩ := ck.read
    exact .base (.lst h1)
  · cases h
theorem isi_ok : RCall c m W isiV (rIsi c.K) := fun st F α σ H va x Q sr ra p => by
  unfold isiV at p
  split at p
  · rename_i v b
    split at p
    · rename_i a hk
      split at p
      · rename_i hb
        cases ra with
        | cons r1 r2 =>
          cases r2 with
          | cons r2 r3 =>
            cases r3
            cases r2
            exact ⟨_, _, _, _, _, rfl, .ty b, kind_ty sr r1 hk, isi_kit (kind_some hk) hb, p.now sr .bl⟩
      · exact p.elim
    · exact p.elim
  · exact p.elim
/-- int of an int or a bool; the greater, the less of two; abs; gcd -/
def toIntV (vs : List Val) (st : S) : OE := match vs with
  | [.d (.int i)] => intR i st
  | [.d (.bl k)] => intR (if k then 1 else 0) st
  | _ => .bad
theorem toInt_ok : RCall c m W toIntV (fun xs H Q => (∃ i, xs = [.int i] ∧ Q (.int i) H) ∨ ∃ k, xs = [.bl k] ∧ Q (.int (if k then 1 else 0)) H) := fun st F α σ H va x Q sr ra p => by
  unfold toIntV at p
  split at p
  · cases ra with
    | cons r1 r2 => cases r2; cases r1; exact .inl ⟨_, rfl, p.now sr .int⟩
  · cases ra with
    | cons r1 r2 => cases r2; cases r1; exact .inr ⟨_, rfl, p.now sr .int⟩
  · exact p.elim
def i2V (g : Int → Int → Int) (vs : List Val) (st : S) : OE := match vs with
  | [.d (.int i), .d (.int j)] => intR (g i j) st
  | _ => .bad
theorem i2_ok {g : Int → Int → Int} : RCall c m W (i2V g) (fun xs H Q => ∃ i j, xs = [.int i, .int j] ∧ Q (.int (g i j)) H) := fun st F α σ H va x Q sr ra p => by
  unfold i2V at p
  split at p
  · cases ra with
    | cons r1 r2 =>
      cases r2 with
      | cons r2 r3 => cases r3; cases r2; cases r1; exact ⟨_, _, rfl, p.now sr .int⟩
  · exact p.elim
def i1V (g : Int → Int) (vs : List Val) (st : S) : OE := match vs with
  | [.d (.int i)] => intR (g i) st
  | _ => .bad
theorem i1_ok {g : Int → Int} : RCall c m W (i1V g) (fun xs H Q => ∃ i, xs = [.int i] ∧ Q (.int (g i)) H) := fun st F α σ H va x Q sr ra p => by
  unfold i1V at p
  split at p
  · cases ra with
    | cons r1 r2 => cases r2; cases r1; exact ⟨_, rfl, p.now sr .int⟩
  · exact p.elim
def maxV := i2V fun i j => if j > i then j else i
def minV := i2V fun i j => if j < i then j else i
def gcdV := i2V fun i j => ((Nat.gcd i.natAbs j.natAbs : Nat) : Int)
def absV := i1V fun i => if i < 0 then -i else i
/-- tuple(x), list(x) -/
def tupleV (vs : List Val) (st : S) : OE := match vs with
  | [v] => match seqOf v st with
    | some xs => .ok (.d (.tup xs)) st
    | none => .bad
  | _ => .bad
def listV (vs : List Val) (st : S) : OE := match vs with
  | [v] => match seqOf v st with
    | some xs => newLst xs st
    | none => .bad
  | _ => .bad
theorem tuple_ok : RCall c m W tupleV (fun xs H Q => ∃ p ys, xs = [.ref p] ∧ ((SqL c.K H p ys ∧ ∀ l, H l = none → Q (.ref l) (upd H l (.tup ys))) ∨ (SqT c.K H p ys ∧ Q (.ref p) H))) := fun st F α σ H va x Q sr ra p => by
  unfold tupleV at p
  split at p
  · split at p
    · rename_i v xs h1
      cases ra with
      | cons r1 r2 =>
        cases r2
        obtain ⟨a, vs, rfl, hs, q1⟩ := seqOf_ok sr r1 h1
        refine ⟨a, vs, rfl, ?_⟩
        rcases hs with hs | hs
        · refine .inl ⟨hs, fun q hq => ?_⟩
          obtain ⟨e3, s3⟩ := sr.newT (o := .tup vs) hq
          exact p (.ref q) F α _ e3 s3 (.tup (.inl (.inl upd_same)) (Reps.mono e3.ev q1))
        · exact .inr ⟨hs, p.now sr (.tup hs q1)⟩
    · exact p.elim
  · exact p.elim
theorem list_ok : RCall c m W listV (fun xs H Q => ∃ p ys, xs = [.ref p] ∧ (SqL c.K H p ys ∨ SqT c.K H p ys) ∧ ∀ l, H l = none → Q (.ref l) (upd H l (.lst ys))) := fun st F α σ H va x Q sr ra p => by
  unfold listV at p
  split at p
  · split at p
    · rename_i v xs h1
      cases ra with
      | cons r1 r2 =>
        cases r2
        obtain ⟨a, vs, rfl, hs, q1⟩ := seqOf_ok sr r1 h1
        exact ⟨a, vs, rfl, hs, fun q hq => newLst_ok sr q1 hq p⟩
    · exact p.elim
  · exact p.elim
/-- all(xs), any(xs) of a list of bools -/
def blsOf : List D → Option (List Bool)
  | [] => some []
  | .bl b :: xs => (blsOf xs).map (b :: ·)
  | _ :: _ => none
theorem bls_ok : ∀ {xs : List D} {vs : List V} {bs : List Bool}, Reps c F H xs vs → blsOf xs = some bs → vs = bs.map V.bl
  | [], _, _, .nil, e => by cases e; rfl
  | .bl b :: ys, _, _, .cons r t, e => by
    simp only [blsOf] at e
    cases q : blsOf ys with
    | none => rw [q] at e; cases e
    | some cs =>
      rw [q] at e
      cases e
      cases r
      rw [bls_ok t q]
      rfl
  | .non :: _, _, _, _, e => by simp [blsOf] at e
  | .int _ :: _, _, _, _, e => by simp [blsOf] at e
  | .str _ :: _, _, _, _, e => by simp [blsOf] at e
  | .obj _ :: _, _, _, _, e => by simp [blsOf] at e
  | .ty _ :: _, _, _, _, e => by simp [blsOf] at e
  | .tup _ :: _, _, _, _, e => by simp [blsOf] at e
  | .lst _ :: _, _, _, _, e => by simp [blsOf] at e
  | .klst _ :: _, _, _, _, e => by simp [blsOf] at e
def foldB (g : List Bool → Bool) (vs : List Val) (st : S) : OE := match vs with
  | [v] => match lstOf v st with
    | some xs => match blsOf xs with
      | some bs => boolR (g bs) st
      | none => .bad
    | none => .bad
  | _ => .bad
theorem foldB_ok {g : List Bool → Bool} : RCall c m W (foldB g) (fun vs H Q => ∃ (a : Addr) (bs : List Bool), vs = [V.ref a] ∧ SqL c.K H a (bs.map V.bl) ∧ Q (.bl (g bs)) H) := fun st F α σ H va x Q sr ra p => by
  unfold foldB at p
  split at p
  · split at p
    · rename_i v xs h1
      split at p
      · rename_i bs h2
        cases ra with
        | cons r1 r2 =>
          cases r2
          obtain ⟨a, vs, rfl, hs, q1⟩ := lstOf_ok sr r1 h1
          have e := bls_ok q1 h2
          subst e
          exact ⟨a, bs, rfl, .inl (.inl hs), p.now sr .bl⟩
      · exact p.elim
    · exact p.elim
  · exact p.elim
def allV := foldB fun bs => bs.all id
def anyV := foldB fun bs => bs.any id

end
/-! ### slices -/
section
variable {X : Cx} {c : Cn} {m : Fm} {W : WX} {e a b : Expr} {es : List Expr} {pos p2 : Pos} {lo hi : Option Expr}
abbrev OO := Out (Option Int)
def POo (c : Cn) (m : Fm) (W : WX) (σ : L2.St) (F : Fz) (α : List Addr) (H : Hp) (Q : Option Int → Hp → Prop) : OO → Prop
  | .ok v st' => ∀ F' α' H', Evo F α H F' α' H' → SR c m st' F' α' σ H' → Q v H'
  | .exc nm x st' => Xo c m W σ F α H nm x st'
  | .bad => False
def tPp (c : Cn) (m : Fm) (W : WX) (f : S → OO) : TO := fun σ H Q => ∃ st F α, SR c m st F α σ H ∧ POo c m W σ F α H Q (f st)
theorem pstO {σ : L2.St} {Q : Option Int → Hp → Prop} : Pst c m W σ fun F α H o => POo c m W σ F α H Q o := by
  refine ⟨fun {F F1 α α1 H H1 o} e h => ?_, fun h => h, fun h => h⟩
  cases o with
  | ok v st' => exact fun F' α' H' e' => h F' α' H' (e.trans e')
  | exc nm x st' => exact Xo.evo e h
  | bad => exact h
def noP : S → OO := fun st => .ok none st
def atP (f : S → OE) : S → OO := fun st => (f st).bind fun v st1 => match v with
  | .d (.int i) => .ok (some i) st1
  | _ => .bad
theorem o_none : PO X none (tPp c m W noP) := ⟨fun pins s σ H Q I ⟨st, F, α, sr, p⟩ => po_none.run pins s σ H Q I (p F α H .refl sr)⟩
theorem o_some {f : S → OE} (h : PE X e (tI c m W f)) : PO X (some e) (tPp c m W (atP f)) := ⟨fun pins s σ H Q I ⟨st, F, α, sr, p⟩ => (po_some h).run pins s σ H Q I
  (kE pstO sr p fun v st1 x F1 α1 H1 _ s1 r1 p1 => by
    cases v with
    | d y =>
      cases y with
      | int i => cases r1; exact ⟨i, rfl, p1 F1 α1 H1 .refl s1⟩
      | _ => exact p1.elim
    | _ => exact p1.elim)⟩
def cutD (xs : List D) (i j : Option Int) : List D := (xs.drop (HT.sIx xs.length 0 i)).take (HT.sIx xs.length xs.length j - HT.sIx xs.length 0 i)
/-- the items of any list -/
def rdOf : Val → S → Option (List D)
  | .d (.lst xs), _ => some xs
  | .d (.klst xs), _ => some xs
  | .c n, st => (st.c[n]?).map Cell.xs
  | _, _ => none
theorem rdOf_ok {σ : L2.St} {F : Fz} {α : List Addr} {H : Hp} {st : S} {va : Val} {x : V} {xs : List D} (sr : SR c m st F α σ H) (r : VR c m F α H va x) (e : rdOf va st = some xs) : ∃ a vs, x = .ref a ∧ SqL c.K H a vs ∧ Reps c F H xs vs := by
  unfold rdOf at e
  split at e
  · cases e
    cases r with
    | lst f h q => exact ⟨_, _, rfl, .inl (.inl h), q⟩
  · cases e
    cases r with
    | klst h q =>
      refine ⟨_, _, rfl, ?_, q⟩
      rcases h with ⟨o, h⟩ | h
      · exact .inl (.inr ⟨o, h⟩)
      · exact .inr h
  · rename_i n _
    obtain ⟨a, ha, rfl⟩ := r
    obtain ⟨cl, hc, ck⟩ := sr.cell ha
    rw [hc] at e
    cases e
    obtain ⟨vs, h1, h2⟩ := ck.read
    exact ⟨a, vs, rfl, .inl (.inl h1), h2⟩
  · cases e
theorem cut_ok {F : Fz} {H : Hp} {xs : List D} {vs : List V} {i j : Option Int} (q1 : Reps c F H xs vs) : Reps c F H (cutD xs i j) (cutV vs i j) := by
  unfold cutD cutV
  rw [q1.len]
  exact (q1.drop _).take _
def sliceV (v : Val) (i j : Option Int) (st : S) : OE := match v with
  | .d (.tup xs) => .ok (.d (.tup (cutD xs i j))) st
  | v => match rdOf v st with
    | some xs => newLst (cutD xs i j) st
    | none => .bad
def sliceE (f : S → OE) (g h : S → OO) : S → OE := fun st => (f st).bind fun v st1 => (g st1).bind fun i st2 => (h st2).bind fun j st3 => sliceV v i j st3
theorem sl_both : SlR X (fun x lo hi H Q => rSlA X.K x lo hi H Q ∨ rSlL X.K x lo hi H Q) := sl_tupA.or sl_list
theorem kO {σ : L2.St} {F : Fz} {α : List Addr} {H : Hp} {st : S} {β : Type} {R : Fz → List Addr → Hp → Out β → Prop} (p : Pst c m W σ R) {f : S → OO} {g : Option Int → S → Out β} {P : Option Int → Hp → Prop} (sr : SR c m st F α σ H) (h : R F α H ((f st).bind g))
    (k : ∀ v st' F' α' H', Evo F α H F' α' H' → SR c m st' F' α' σ H' → R F' α' H' (g v st') → P v H') : tPp c m W f σ H P := by
  refine ⟨st, F, α, sr, ?_⟩
  generalize f st = o at h ⊢
  cases o with
  | ok v st' => exact fun F' α' H' e s' => k v st' F' α' H' e s' (p.evo e h)
  | exc nm x st' => exact p.exc h
  | bad => exact p.bad h
theorem whole_cut {xs : List D} {i j : Option Int} (h : HT.sIx xs.length 0 i = 0 ∧ HT.sIx xs.length xs.length j = xs.length) : cutD xs i j = xs := by
  unfold cutD
  rw [h.1, h.2, List.drop_zero, Nat.sub_zero, List.take_length]
theorem i_slice {f : S → OE} {g h : S → OO} (hK : X.K = c.K) (he : PE X e (tI c m W f)) (hl : PO X lo (tPp c m W g)) (hu : PO X hi (tPp c m W h)) : PE X (.Subscript e (.Slice lo hi none p2) pos) (tI c m W (sliceE f g h)) :=
  PE_imp (pe_slice sl_both he hl hu) fun σ H Q ⟨st, F, α, sr, p⟩ =>
  kE pstE sr p fun v st1 x F1 α1 H1 _ s1 r1 p1 => kO pstE s1 p1 fun i st2 F2 α2 H2 e2 s2 p2 => kO pstE s2 p2 fun j st3 F3 α3 H3 e3 s3 p3 => by
    have r3 := r1.mono (e2.trans e3)
    rw [hK]
    unfold sliceV at p3
    split at p3
    · cases r3 with
      | @tup a vs xs q1 q2 =>
        refine .inl ⟨a, vs, rfl, q1, fun hw => ?_, fun hw q hq => ?_⟩
        · rw [whole_cut (by rw [q2.len]; exact hw)] at p3
          exact p3.now s3 (.tup q1 q2)
        · obtain ⟨e4, s4⟩ := s3.newT (o := .tup (cutV vs i j)) hq
          exact p3 (.ref q) F3 α3 _ e4 s4 (.tup (.inl (.inl upd_same)) (Reps.mono e4.ev (cut_ok q2)))
    · split at p3
      · rename_i xs hx
        obtain ⟨a, vs, rfl, hs, q1⟩ := rdOf_ok s3 r3 hx
        exact .inr ⟨a, vs, rfl, hs, fun q hq => newLst_ok s3 (cut_ok q1) hq p3⟩
      · exact p3.elim
/-- xs[::-1] of a list -/
def revE (f : S → OE) : S → OE := fun st => (f st).bind fun v st1 => match rdOf v st1 with
  | some xs => newLst xs.reverse st1
  | none => .bad
theorem i_rev {f : S → OE} {k : Nat} {p1 p3 p4 : Pos} (hK : X.K = c.K) (he : PE X e (tI c m W f)) : PE X (.Subscript e (.Slice none none (some (.UnaryOp .USub (.Constant (.int 1) k p1) p3)) p4) pos) (tI c m W (revE f)) :=
  PE_imp (pe_revL he) fun σ H Q ⟨st, F, α, sr, p⟩ =>
  kE pstE sr p fun v st1 x F1 α1 H1 _ s1 r1 p1 => by
    rw [hK]
    split at p1
    · rename_i xs hx
      obtain ⟨a, vs, rfl, hs, q1⟩ := rdOf_ok s1 r1 hx
      exact ⟨a, vs, rfl, hs, fun q hq => newLst_ok s1 q1.rev hq p1⟩
    · exact p1.elim

/-! ### methods of lists -/
variable {name : Str} {apos cpos : Pos} {id T : String}
def RMt (c : Cn) (m : Fm) (W : WX) (g : Val → List Val → S → OE) (r : V → List V → Hp → VK → Prop) : Prop :=
  ∀ st F α σ H v x va xs Q, SR c m st F α σ H → VR c m F α H v x → VRs c m F α H va xs → PEo c m W σ F α H Q (g v va st) → r x xs H Q
def tyOk (T : String) (v : Val) (st : S) : Bool := match v with
  | .d (.str _) => T == "str"
  | v => T == "list" && (rdOf v st).isSome
theorem tyOk_ok {σ : L2.St} {F : Fz} {α : List Addr} {H : Hp} {st : S} {v : Val} {x : V} (sr : SR c m st F α σ H) (r : VR c m F α H v x) (h : tyOk T v st = true) : tyV c.K T x H := by
  unfold tyOk at h
  split at h
  · cases r
    exact eq_of_beq h
  · rw [Bool.and_eq_true] at h
    obtain ⟨xs, hx⟩ := Option.isSome_iff_exists.mp h.2
    obtain ⟨a, vs, rfl, hs, _⟩ := rdOf_ok sr r hx
    exact .inl ⟨eq_of_beq h.1, vs, hs⟩
def methE (T : String) (g : Val → List Val → S → OE) (fo : S → OE) (fs : List (S → OE)) : S → OE := fun st => (fo st).bind fun v st1 => if tyOk T v st1 = true then (seqE fs st1).bind fun vs st2 => g v vs st2 else .bad
theorem i_meth {g : Val → List Val → S → OE} {fo : S → OE} {fs : List (S → OE)} {r : V → List V → Hp → VK → Prop} {o : Expr} (hK : X.K = c.K) (pa : PlainAttrs T) (slot : Slot T name id) (hty : typeOf (.builtin id) = pure (.type "method_descriptor")) (hm : MtR X id r) (hr : RMt c m W g r)
    (ho : PE X o (tI c m W fo)) (ha : PA X (e :: es) (tA c m W (seqE fs)))
    (hbase : attributeBase o name X.env (eval o X.env) = eval o X.env := by rfl)
    (hfew : ((backTo cpos (starEach (e :: es) X.env)).all (fun x => !x.1) && (backToKw cpos (keywordEach [] X.env)).all (fun x => x.1.isSome)
      && decide ((e :: es).length + ([] : List Keyword).length + (if ([] : List Keyword).isEmpty then 0 else 1) < 30)) = true := by rfl)
    (hline : (apos.endLine == cpos.line) = true := by rfl) (hs : starEach (e :: es) X.env = (false, eval e X.env) :: starEach es X.env := by rfl) (hplain : (backTo cpos (starEach es X.env)).any (·.1) = false := by rfl) :
    PE X (.Call (.Attribute o name apos) (e :: es) [] cpos) (tI c m W (methE T g fo fs)) := PE_imp (pe_bm pa slot hty hm ho ha hbase hfew hline hs hplain) fun σ H Q ⟨st, F, α, sr, p⟩ =>
  kE pstE sr p fun v st1 x F1 α1 H1 _ s1 r1 p1 => by
    split at p1
    · rename_i h
      rw [hK]
      exact ⟨tyOk_ok s1 r1 h, kA pstE s1 p1 fun vs st2 xs F2 α2 H2 e2 s2 r2 p2 => hr st2 F2 α2 σ H2 v x vs xs Q s2 (r1.mono e2) r2 p2⟩
    · exact p1.elim
theorem i_meth0 {g : Val → List Val → S → OE} {fo : S → OE} {r : V → List V → Hp → VK → Prop} {o : Expr} (hK : X.K = c.K) (pa : PlainAttrs T) (slot : Slot T name id) (hty : typeOf (.builtin id) = pure (.type "method_descriptor")) (hm : MtR X id r) (hr : RMt c m W g r)
    (ho : PE X o (tI c m W fo)) (hbase : attributeBase o name X.env (eval o X.env) = eval o X.env := by rfl) (hline : (apos.endLine == cpos.line) = true := by rfl) :
    PE X (.Call (.Attribute o name apos) [] [] cpos) (tI c m W (methE T g fo [])) := PE_imp (pe_bm0 pa slot hty hm ho hbase hline) fun σ H Q ⟨st, F, α, sr, p⟩ =>
  kE pstE sr p fun v st1 x F1 α1 H1 _ s1 r1 p1 => by
    split at p1
    · rename_i h
      rw [hK]
      exact ⟨tyOk_ok s1 r1 h, hr st1 F1 α1 σ H1 v x [] [] Q s1 r1 .nil p1⟩
    · exact p1.elim
/-- xs.append(x) -/
def appV (v : Val) (vs : List Val) (st : S) : OE := match v, vs with
  | .c n, [w] => match toD w st with
    | some (x, st1) => match st1.c[n]? with
      | some (.own xs) => if xs.length < 1000000 then .ok (.d .non) { st1 with c := st1.c.set n (.own (xs ++ [x])) } else .bad
      | _ => .bad
    | none => .bad
  | _, _ => .bad
theorem SR.ownA {σ : L2.St} {F : Fz} {α : List Addr} {H : Hp} {st : S} {n : Nat} {xs : List D} (sr : SR c m st F α σ H) (h : st.c[n]? = some (.own xs)) : ∃ a vs, α[n]? = some a ∧ H a = some (.lst vs) ∧ Reps c F H xs vs := by
  obtain ⟨a, ha, _, vs, h1, h2⟩ := sr.addr h
  exact ⟨a, vs, ha, h1, h2⟩
theorem app_ok' : RMt c m W appV rAppend := fun st F α σ H v x va xs Q sr r rs p => by
  unfold appV at p
  split at p
  · rename_i n w
    cases rs with
    | cons r1 r2 =>
      cases r2
      split at p
      · rename_i y st1 hy
        obtain ⟨F1, e1, s1, q1, _⟩ := toD_ok sr r1 hy
        split at p
        · rename_i ys hc
          split at p
          · rename_i hl
            obtain ⟨a, ha, rfl⟩ := r.mono e1
            obtain ⟨b, vs, hb, h1, h2⟩ := s1.ownA hc
            rw [ha] at hb; cases hb
            refine ⟨a, vs, _, rfl, rfl, h1, Nat.lt_of_lt_of_le (by rw [← h2.len]; exact hl) (by rw [sizeLine_eq]; decide), ?_⟩
            obtain ⟨e2, s2⟩ := s1.setL ha hc (h2.append (.cons q1 .nil))
            exact p .non F1 α _ (e1.trans e2) s2 .non
          · exact p.elim
        · exact p.elim
      · exact p.elim
  · exact p.elim
/-- xs.extend(ys) -/
def extV (v : Val) (vs : List Val) (st : S) : OE := match v, vs with
  | .c n, [w] => match lstOf w st, st.c[n]? with
    | some ys, some (.own xs) => if xs.length + ys.length ≤ 1000000 then .ok (.d .non) { st with c := st.c.set n (.own (xs ++ ys)) } else .bad
    | _, _ => .bad
  | _, _ => .bad
theorem ext_ok : RMt c m W extV rExtend := fun st F α σ H v x va xs Q sr r rs p => by
  unfold extV at p
  split at p
  · rename_i n w
    cases rs with
    | cons r1 r2 =>
      cases r2
      split at p
      · rename_i ys zs hy hc
        split at p
        · rename_i hl
          obtain ⟨a, ha, rfl⟩ := r
          obtain ⟨b, vs, hb, h1, h2⟩ := sr.ownA hc
          rw [ha] at hb; cases hb
          obtain ⟨d, ws, rfl, h3, h4⟩ := lstOf_ok sr r1 hy
          refine ⟨a, d, vs, ws, rfl, rfl, h1, h3, line_of (by rw [← h2.len, ← h4.len]; exact hl), ?_⟩
          obtain ⟨e2, s2⟩ := sr.setL ha hc (h2.append h4)
          exact p .non F α _ e2 s2 .non
        · exact p.elim
      · exact p.elim
  · exact p.elim
/-- xs.pop() -/
def popV (v : Val) (vs : List Val) (st : S) : OE := match v, vs with
  | .c n, [] => match st.c[n]? with
    | some (.own xs) => match xs[xs.length - 1]? with
      | some x => .ok (.d x) { st with c := st.c.set n (.own xs.dropLast) }
      | none => .bad
    | _ => .bad
  | _, _ => .bad
theorem pop_ok : RMt c m W popV rPop := fun st F α σ H v x va xs Q sr r rs p => by
  unfold popV at p
  split at p
  · rename_i n
    cases rs
    split at p
    · rename_i ys hc
      split at p
      · rename_i y hy
        obtain ⟨a, ha, rfl⟩ := r
        obtain ⟨b, vs, hb, h1, h2⟩ := sr.ownA hc
        rw [ha] at hb; cases hb
        obtain ⟨w, hw, q⟩ := h2.get hy
        refine ⟨a, vs, w, rfl, rfl, h1, by rw [← h2.len]; exact hw, ?_⟩
        obtain ⟨e2, s2⟩ := sr.setL ha hc h2.dropLast
        exact p w F α _ e2 s2 (Rep.mono e2.ev q)
      · exact p.elim
    · exact p.elim
  · exact p.elim
/-- xs.pop(i) -/
def popAtV (v : Val) (vs : List Val) (st : S) : OE := match v, vs with
  | .c n, [.d (.int i)] => match st.c[n]? with
    | some (.own xs) => if 0 ≤ i ∧ i < xs.length ∧ i < 1000000000 then match xs[i.toNat]? with
      | some x => .ok (.d x) { st with c := st.c.set n (.own (xs.eraseIdx i.toNat)) }
      | none => .bad else .bad
    | _ => .bad
  | _, _ => .bad
theorem popAt_ok : RMt c m W popAtV rPopAt := fun st F α σ H v x va xs Q sr r rs p => by
  unfold popAtV at p
  split at p
  · rename_i n i
    cases rs with
    | cons r1 r2 =>
      cases r2
      cases r1
      split at p
      · rename_i ys hc
        split at p
        · rename_i hi
          split at p
          · rename_i y hy
            obtain ⟨a, ha, rfl⟩ := r
            obtain ⟨b, vs, hb, h1, h2⟩ := sr.ownA hc
            rw [ha] at hb; cases hb
            obtain ⟨w, hw, q⟩ := h2.get hy
            refine ⟨a, vs, i, i.toNat, w, rfl, rfl, h1, by omega, ?_, by rw [← h2.len]; exact PySem.StrLaws.seqIndex_nonneg hi.1 hi.2.1, hw, ?_⟩
            · omega
            · obtain ⟨e2, s2⟩ := sr.setL ha hc (h2.erase i.toNat)
              exact p w F α _ e2 s2 (Rep.mono e2.ev q)
          · exact p.elim
        · exact p.elim
      · exact p.elim
  · exact p.elim
end
end Sh
end
section
set_option Elab.async false
set_option linter.all false
set_option maxRecDepth 100000
set_option maxHeartbeats 2000000
namespace Sh
open PySem PySem.Spec PyProof.Rows
open L2 hiding St

/-! ### statements -/
def seqS (g h : S → OS) : S → OS := fun st => match g st with
  | .ok .nx st1 => h st1
  | o => o
def nextS : S → OS := fun st => .ok .nx st
def setS (i : Nat) (f : S → OE) : S → OS := fun st => (f st).bind fun v st1 => .ok .nx { st1 with v := st1.v.set i (some v) }
def retS (f : S → OE) : S → OS := fun st => (f st).bind fun v st1 => .ok (.ret v) st1
def retN : S → OS := fun st => .ok (.ret (.d .non)) st
def dropS (f : S → OE) : S → OS := fun st => (f st).bind fun _ st1 => .ok .nx st1
def ifS (t : S → OE) (g h : S → OS) : S → OS := fun st => (t st).bind (onB g h)
def brkS : S → OS := fun st => .ok .bk st
def cntS : S → OS := fun st => .ok .ct st
section
variable {X : Cx} {c : Cn} {m : Fm} {W : WX} {e a b : Expr} {es : List Expr} {pos pos' : Pos} {s : Stmt} {ss : List Stmt} {f g : S → OE} {G G' : S → OS}
theorem SR.setv {σ : L2.St} {F : Fz} {α : List Addr} {H : Hp} {st : S} {i : Nat} {val : Val} {v : V} (sr : SR c m st F α σ H) (r : VR c m F α H val v) : SR c m { st with v := st.v.set i (some val) } F α (σ.set i (some v)) H := by
  refine ⟨by rw [List.length_set, List.length_set]; exact sr.len, fun j w hj => ?_, sr.cells, sr.pre, sr.loc, sr.dom, sr.tab, sr.fra, sr.new, sr.old, sr.ioF, sr.ioL, sr.dom0⟩
  by_cases hij : i = j
  · subst hij
    have hl : i < st.v.length := by
      have := (List.getElem?_eq_some_iff.mp hj).1
      rwa [List.length_set] at this
    rw [List.getElem?_set_self hl] at hj
    cases hj
    exact ⟨v, List.getElem?_set_self (by rw [sr.len]; exact hl), r⟩
  · rw [List.getElem?_set_ne hij] at hj
    obtain ⟨u, h1, h2⟩ := sr.vars j w hj
    exact ⟨u, by rw [List.getElem?_set_ne hij]; exact h1, h2⟩
theorem SR.unv {σ : L2.St} {F : Fz} {α : List Addr} {H : Hp} {st : S} {i : Nat} (sr : SR c m st F α σ H) : SR c m { st with v := st.v.set i none } F α (σ.set i none) H := by
  refine ⟨by rw [List.length_set, List.length_set]; exact sr.len, fun j w hj => ?_, sr.cells, sr.pre, sr.loc, sr.dom, sr.tab, sr.fra, sr.new, sr.old, sr.ioF, sr.ioL, sr.dom0⟩
  by_cases hij : i = j
  · subst hij
    have hl : i < st.v.length := by
      have := (List.getElem?_eq_some_iff.mp hj).1
      rwa [List.length_set] at this
    rw [List.getElem?_set_self hl] at hj
    cases hj
  · rw [List.getElem?_set_ne hij] at hj
    obtain ⟨u, h1, h2⟩ := sr.vars j w hj
    exact ⟨u, by rw [List.getElem?_set_ne hij]; exact h1, h2⟩
theorem s_nil : PSs X [] (tS c m W nextS) := PSs_imp pss_nil fun σ H D ⟨st, F, α, sr, p⟩ => p σ F α H .refl sr
theorem s_one (h : PS X s (tS c m W G)) : PSs X [s] (tS c m W G) := pss_one h
theorem s_cons (h1 : PS X s (tS c m W G)) (h2 : PSs X ss (tS c m W G')) : PSs X (s :: ss) (tS c m W (seqS G G')) := PSs_imp (pss_cons h1 h2) fun σ H D ⟨st, F, α, sr, p⟩ => by
  refine ⟨st, F, α, sr, ?_⟩
  unfold seqS at p
  generalize G st = o at p ⊢
  cases o with
  | ok fl st1 =>
    cases fl with
    | nx => exact fun σ' F' α' H' e' s' => ⟨st1, F', α', s', PSo.evo e' p⟩
    | ret v => exact p
    | bk => exact p
    | ct => exact p
  | exc nm x st1 => exact p
  | bad => exact p
theorem s_set {i : Nat} {x : Str} {posn : Pos} (hN : X.N.Nodup) (he : PE X e (tI c m W f)) (hi : X.N[i]? = some x := by rfl) (hx : Loc X.env.scope x := by first | exact Or.inl rfl | exact Or.inr rfl) (hs : swapsWith e (some (.Name x posn)) pos.line X.env = pure false := by rfl)
    (hf : X.fn x = true ∨ X.env.scope.names.lookup x = some .local := by first | exact .inl rfl | exact .inr rfl | assumption) : PS X (.Assign [.Name x posn] e pos) (tS c m W (setS i f)) :=
  PS_imp (ps_set hN hi hx he hs hf) fun σ H D ⟨st, F, α, sr, p⟩ => kE pstS sr p fun v st1 y F1 α1 H1 _ s1 r1 p1 => p1 _ F1 α1 H1 .refl (s1.setv r1)
theorem s_ret (he : PE X e (tI c m W f)) : PS X (.Return (some e) pos) (tS c m W (retS f)) :=
  PS_imp (ps_ret he) fun σ H D ⟨st, F, α, sr, p⟩ => kE pstS sr p fun v st1 y F1 α1 H1 _ s1 r1 p1 => p1 y σ F1 α1 H1 .refl s1 r1
theorem s_retN : PS X (.Return none pos) (tS c m W retN) := PS_imp ps_retN fun σ H D ⟨st, F, α, sr, p⟩ => p .non σ F α H .refl sr .non
theorem s_expr (he : PE X e (tI c m W f)) (hs : swapsWith e none pos.line X.env = pure false := by rfl) : PS X (.Expr e pos) (tS c m W (dropS f)) :=
  PS_imp (ps_expr he hs) fun σ H D ⟨st, F, α, sr, p⟩ => kE pstS sr p fun v st1 y F1 α1 H1 _ s1 r1 p1 => p1 σ F1 α1 H1 .refl s1
theorem s_if {q : Expr} {A B : List Stmt} (ht : PT X q (tT c m W f)) (ha : PSs X A (tS c m W G)) (hb : PSs X B (tS c m W G')) : PS X (.If q A B pos) (tS c m W (ifS f G G')) :=
  PS_imp (ps_if ht ha hb) fun σ H D ⟨st, F, α, sr, p⟩ => kT pstS sr p fun k st1 F1 α1 H1 _ s1 p1 => by
    cases k with
    | true => exact ⟨st1, F1, α1, s1, p1⟩
    | false => exact ⟨st1, F1, α1, s1, p1⟩
theorem s_pass : PS X (.Pass pos) (tS c m W nextS) := PS_imp ps_pass fun σ H D ⟨st, F, α, sr, p⟩ => p σ F α H .refl sr
theorem s_break : PS X (.Break pos) (tS c m W brkS) := PS_imp ps_break fun σ H D ⟨st, F, α, sr, p⟩ => p σ F α H .refl sr
theorem s_continue : PS X (.Continue pos) (tS c m W cntS) := PS_imp ps_continue fun σ H D ⟨st, F, α, sr, p⟩ => p σ F α H .refl sr
/-- a, b = x, y -/
def parS (i j : Nat) (f g : S → OE) : S → OS := fun st => (seqE [f, g] st).bind fun vs st1 => match vs with
  | [v, w] => .ok .nx { st1 with v := (st1.v.set i (some v)).set j (some w) }
  | _ => .bad
theorem s_par {i j : Nat} {x y : Str} {px py pt : Pos} {kt k2 : Nat} {pt2 : Pos} (hc : X.calm = true) (hN : X.N.Nodup) (ha : PA X [a, b] (tA c m W (seqE [f, g]))) (hi : X.N[i]? = some x := by rfl) (hj : X.N[j]? = some y := by rfl) (hij : i ≠ j := by decide)
    (hx : X.env.scope.names.lookup x = some .local := by rfl) (hy : X.env.scope.names.lookup y = some .local := by rfl)
    (hw : swappedStores [.Tuple [.Name x px, .Name y py] kt pt] (.Tuple [a, b] k2 pt2) X.env = pure (some [x, y]) := by rfl)
    (hs : swapsWithSole [.Tuple [.Name x px, .Name y py] kt pt] (.Tuple [a, b] k2 pt2) pos.line X.env = pure false := by rfl) :
    PS X (.Assign [.Tuple [.Name x px, .Name y py] kt pt] (.Tuple [a, b] k2 pt2) pos) (tS c m W (parS i j f g)) :=
  PS_imp (ps_par hc hN hi hj hij hx hy ha hw hs) fun σ H D ⟨st, F, α, sr, p⟩ => kA pstS sr p fun vs st1 xs F1 α1 H1 _ s1 r1 p1 => by
    split at p1
    · cases r1 with
      | cons r1 r2 =>
        cases r2 with
        | cons r2 r3 =>
          cases r3
          exact ⟨_, _, rfl, p1 _ F1 α1 H1 .refl ((s1.setv r1).setv r2)⟩
    · exact p1.elim

/-! ### targets -/
theorem wipe_get (σ : L2.St) (j : Nat) : ∀ vs : List Nat, (wipe σ vs)[j]? = if j ∈ vs then (σ[j]?).map (fun _ => none) else σ[j]?
  | [] => by simp [wipe]
  | v :: vs => by
    unfold wipe
    rw [List.getElem?_set, wipe_get σ j vs]
    by_cases h : v = j
    · subst h
      rw [if_pos rfl, if_pos List.mem_cons_self, wipe_length]
      split
      · rename_i hl
        rw [List.getElem?_eq_getElem hl]; rfl
      · rename_i hl
        rw [List.getElem?_eq_none (by omega)]; rfl
    · rw [if_neg h]
      have : (j ∈ v :: vs) ↔ j ∈ vs := by simp [Ne.symm h]
      simp only [this]
theorem wipe_set {σ : L2.St} {i : Nat} {x : Option V} {vs : List Nat} (h : i ∈ vs) : wipe (σ.set i x) vs = wipe σ vs := by
  refine List.ext_getElem? fun j => ?_
  rw [wipe_get, wipe_get]
  by_cases hj : j ∈ vs
  · rw [if_pos hj, if_pos hj, List.getElem?_set]
    split
    · rename_i e
      subst e
      split
      · rename_i hl
        rw [List.getElem?_eq_getElem hl]; rfl
      · rename_i hl
        rw [List.getElem?_eq_none (by omega)]
    · rfl
  · rw [if_neg hj, if_neg hj, List.getElem?_set_ne (fun (e : i = j) => hj (e ▸ h))]
def Wp (ws : List Nat) (σ σ' : L2.St) : Prop := ∀ vs : List Nat, (∀ i ∈ ws, i ∈ vs) → wipe σ' vs = wipe σ vs
theorem Wp.trans {ws us : List Nat} {σ σ1 σ2 : L2.St} (a : Wp ws σ σ1) (b : Wp us σ1 σ2) : Wp (ws ++ us) σ σ2 := fun vs h =>
  (b vs fun i hi => h i (List.mem_append_right _ hi)).trans (a vs fun i hi => h i (List.mem_append_left _ hi))
def tG (c : Cn) (m : Fm) (ws : List Nat) (g : D → S → Option S) : TG := fun v σ H Q => ∃ st F α x, SR c m st F α σ H ∧ Rep c F H x v ∧ match g x st with
  | some st1 => ∀ σ' F' α' H', Evo F α H F' α' H' → SR c m st1 F' α' σ' H' → Wp ws σ σ' → Q σ' H'
  | none => False
def tGs (c : Cn) (m : Fm) (ws : List Nat) (g : List D → S → Option S) : TGs := fun vs σ H Q => ∃ st F α xs, SR c m st F α σ H ∧ Reps c F H xs vs ∧ match g xs st with
  | some st1 => ∀ σ' F' α' H', Evo F α H F' α' H' → SR c m st1 F' α' σ' H' → Wp ws σ σ' → Q σ' H'
  | none => False
theorem PG_imp {t t' : TG} (h : PG X e t) (i : ∀ v σ H Q, t' v σ H Q → t v σ H Q) : PG X e t' := ⟨fun pins s σ H v u Q I r q => h.run pins s σ H v u Q I r (i v σ H Q q)⟩
theorem PGs_imp {t t' : TGs} (h : PGs X es t) (i : ∀ v σ H Q, t' v σ H Q → t v σ H Q) : PGs X es t' := ⟨fun pins s σ H v u Q I r q => h.run pins s σ H v u Q I r (i v σ H Q q)⟩
def nameT (i : Nat) : D → S → Option S := fun x st => some { st with v := st.v.set i (some (.d x)) }
def nilT : List D → S → Option S := fun xs st => match xs with
  | [] => some st
  | _ => none
def consT (g : D → S → Option S) (h : List D → S → Option S) : List D → S → Option S := fun xs st => match xs with
  | x :: r => (g x st).bind (h r)
  | [] => none
def tupT (n : Nat) (h : List D → S → Option S) : D → S → Option S := fun x st => match x with
  | .tup xs => if xs.length = n then h xs st else none
  | _ => none
theorem g_name {i : Nat} {x : Str} (hN : X.N.Nodup) (hi : X.N[i]? = some x := by rfl) (hx : Loc X.env.scope x := by first | exact Or.inl rfl | exact Or.inr rfl) (hf : X.fn x = true ∨ X.env.scope.names.lookup x = some .local := by first | exact .inl rfl | exact .inr rfl | assumption) :
    PG X (.Name x pos) (tG c m [i] (nameT i)) := PG_imp (pg_name hN hi hx hf) fun v σ H Q ⟨st, F, α, y, sr, r, p⟩ => p _ F α H .refl (sr.setv (val := .d y) r) fun vs h => wipe_set (h i List.mem_cons_self)
theorem g_nil : PGs X [] (tGs c m [] nilT) := PGs_imp pgs_nil fun v σ H Q ⟨st, F, α, xs, sr, r, p⟩ => by
  unfold nilT at p
  split at p
  · rename_i st1 h
    split at h
    · cases h
      cases r
      exact ⟨rfl, p σ F α H .refl sr fun _ _ => rfl⟩
    · cases h
  · exact p.elim
theorem g_cons {g : D → S → Option S} {h : List D → S → Option S} {ws us : List Nat} (h1 : PG X e (tG c m ws g)) (h2 : PGs X es (tGs c m us h)) (hs : (assignEach (e :: es) X.env).map (·.2) = assign e X.env :: (assignEach es X.env).map (·.2) := by rfl) : PGs X (e :: es) (tGs c m (ws ++ us) (consT g h)) :=
  PGs_imp (pgs_cons h1 h2 hs) fun v σ H Q ⟨st, F, α, xs, sr, r, p⟩ => by
    unfold consT at p
    cases r with
    | nil => exact p.elim
    | @cons x v xs vs r1 r2 =>
      refine ⟨v, vs, rfl, st, F, α, x, sr, r1, ?_⟩
      simp only at p
      cases q : g x st with
      | none => rw [q] at p; exact p.elim
      | some st1 =>
        rw [q] at p
        simp only [Option.bind] at p
        intro σ' F' α' H' e' s' w'
        refine ⟨st1, F', α', xs, s', Reps.mono e'.ev r2, ?_⟩
        cases q2 : h xs st1 with
        | none => rw [q2] at p; exact p.elim
        | some st2 =>
          rw [q2] at p
          exact fun σ2 F2 α2 H2 e2 s2 w2 => p σ2 F2 α2 H2 (e'.trans e2) s2 (w'.trans w2)
theorem g_tup {h : List D → S → Option S} {k n : Nat} {ws : List Nat} (hK : X.K = c.K) (hc : X.calm = true) (hh : PGs X es (tGs c m ws h)) (hn : (assignEach es X.env).length = n := by rfl) (hst : (assignEach es X.env).findIdx? (·.1) = none := by rfl) : PG X (.Tuple es k pos) (tG c m ws (tupT n h)) :=
  PG_imp (pg_tup hc hh hn hst) fun v σ H Q ⟨st, F, α, x, sr, r, p⟩ => by
    unfold tupT at p
    cases r with
    | @tup a vs xs q r =>
      simp only at p
      split at p
      · rename_i st1 hq
        split at hq
        · rename_i hl
          rw [hK]
          refine ⟨a, vs, rfl, q, by rw [← r.len]; exact hl, st, F, α, xs, sr, r, ?_⟩
          rw [hq]
          exact p
        · cases hq
      · exact p.elim
    | _ => exact p.elim
/-- target = value, the value data -/
def asgS (g : D → S → Option S) (f : S → OE) : S → OS := fun st => (f st).bind fun v st1 => match toD v st1 with
  | some (x, st2) => match g x st2 with
    | some st3 => .ok .nx st3
    | none => .bad
  | none => .bad
theorem s_asg {tg : Expr} {g : D → S → Option S} {ws : List Nat} (he : PE X e (tI c m W f)) (hg : PG X tg (tG c m ws g)) (hs : swapsWithSole [tg] e pos.line X.env = pure false := by rfl) (hw : swappedStores [tg] e X.env = pure none := by rfl)
    (h1 : (assignEach [tg] X.env).map (·.2) = [assign tg X.env] := by rfl) : PS X (.Assign [tg] e pos) (tS c m W (asgS g f)) :=
  PS_imp (ps_asg he hg hs hw h1) fun σ H D ⟨st, F, α, sr, p⟩ => kE pstS sr p fun v st1 y F1 α1 H1 _ s1 r1 p1 => by
    split at p1
    · rename_i x st2 hx
      obtain ⟨F2, e2, s2, r2, _⟩ := toD_ok s1 r1 hx
      refine ⟨st2, F2, α1, x, s2, r2, ?_⟩
      split at p1
      · exact fun σ' F' α' H' e' s' _ => p1 σ' F' α' H' (e2.trans e') s'
      · exact p1.elim
    · exact p1.elim
/-- xs[i] = e -/
def setIx (x : Val) (w k : Val) (st : S) : OS := match w, k with
  | .c n, .d (.int i) => match toD x st with
    | some (y, st1) => match st1.c[n]? with
      | some (.own xs) => match ixN xs.length i with
        | some j => .ok .nx { st1 with c := st1.c.set n (.own (xs.set j y)) }
        | none => .bad
      | _ => .bad
    | none => .bad
  | _, _ => .bad
def setIxS (fo fi fe : S → OE) : S → OS := fun st => (fe st).bind fun v st1 => (fo st1).bind fun w st2 => (fi st2).bind fun k st3 => setIx v w k st3
theorem s_sub {fo fi : S → OE} {o i : Expr} {tpos : Pos} (ho : PE X o (tI c m W fo)) (hi : PE X i (tI c m W fi)) (he : PE X e (tI c m W f))
    (ha : ∀ v, assign (.Subscript o i tpos) X.env v = (do
      let ov ← holding [v] (eval o X.env)
      let iv ← holding [v, ov] (eval i X.env)
      standAt tpos
      holding [v, ov, iv] (setItem ov iv v)
      release [v, ov, iv] []) := by intro _; rfl)
    (hs : swapsWithSole [.Subscript o i tpos] e pos.line X.env = pure false := by rfl) (hw : swappedStores [.Subscript o i tpos] e X.env = pure none := by rfl)
    (h1 : (assignEach [.Subscript o i tpos] X.env).map (·.2) = [assign (.Subscript o i tpos) X.env] := by rfl) : PS X (.Assign [.Subscript o i tpos] e pos) (tS c m W (setIxS fo fi f)) :=
  PS_imp (ps_asg he (pg_sub ho hi set_list ha) hs hw h1) fun σ H D ⟨st, F, α, sr, p⟩ =>
  kE pstS sr p fun v st1 x F1 α1 H1 _ s1 r1 p1 => kE pstS s1 p1 fun w st2 y F2 α2 H2 e2 s2 r2 p2 => kE pstS s2 p2 fun k st3 z F3 α3 H3 e3 s3 r3 p3 => by
    have q1 := r1.mono (e2.trans e3)
    have q2 := r2.mono e3
    unfold setIx at p3
    split at p3
    · rename_i n i
      cases r3
      split at p3
      · rename_i y st4 hy
        obtain ⟨F4, e4, s4, q4, _⟩ := toD_ok s3 q1 hy
        split at p3
        · rename_i xs hc
          split at p3
          · rename_i j hj
            obtain ⟨a, ha', rfl⟩ := q2.mono e4
            obtain ⟨d, vs, hd, g1, g2⟩ := s4.ownA hc
            rw [ha'] at hd; cases hd
            refine ⟨a, vs, i, j, rfl, rfl, g1, by rw [← g2.len]; exact hj, ?_⟩
            obtain ⟨e5, s5⟩ := s4.setL ha' hc (g2.set q4 j)
            exact p3 σ F4 α3 _ (e4.trans e5) s5
          · exact p3.elim
        · exact p3.elim
      · exact p3.elim
    · exact p3.elim

/-! ### while -/
def whileS (t : S → OE) (g : S → OS) : Nat → S → OS
  | 0, _ => .bad
  | n + 1, st => (t st).bind (onB (fun st1 => match g st1 with
    | .ok .nx st2 => whileS t g n st2
    | .ok .ct st2 => whileS t g n st2
    | .ok .bk st2 => .ok .nx st2
    | o => o) nextS)
theorem s_while {q : Expr} {B : List Stmt} {n : Nat} (hp : PassesOwn (model X.prog X.w) X.A X.env X.xe) (ht : PT X q (tT c m W f)) (hb : PSs X B (tS c m W G)) : PS X (.While q B [] pos) (tS c m W (whileS f G n)) :=
  PS_imp (ps_while hp ht hb) fun σ H D ⟨st, F, α, sr, p⟩ => by
    refine ⟨fun k σ H => ∃ st F α, SR c m st F α σ H ∧ PSo c m W F α H D (whileS f G k st), ⟨n, st, F, α, sr, p⟩, ?_⟩
    rintro k σ H ⟨st, F, α, sr, p⟩
    cases k with
    | zero => exact p.elim
    | succ k =>
      refine kT pstS sr p fun b st1 F1 α1 H1 _ s1 p1 => ?_
      cases b with
      | false => exact p1 σ F1 α1 H1 .refl s1
      | true =>
        refine ⟨fun σ H => ∃ st F α, SR c m st F α σ H ∧ PSo c m W F α H D (whileS f G k st), fun σ' H' h => ⟨k, Nat.lt_succ_self _, h⟩, st1, F1, α1, s1, ?_⟩
        simp only [if_true] at p1
        generalize G st1 = o at p1 ⊢
        cases o with
        | ok fl st2 =>
          cases fl with
          | nx => exact fun σ' F' α' H' e' s' => ⟨st2, F', α', s', PSo.evo e' p1⟩
          | ct => exact fun σ' F' α' H' e' s' => ⟨st2, F', α', s', PSo.evo e' p1⟩
          | bk => exact p1
          | ret v => exact p1
        | exc nm x st2 => exact p1
        | bad => exact p1
end
end Sh
end
section
set_option Elab.async false
set_option linter.all false
set_option maxRecDepth 100000
set_option maxHeartbeats 2000000
namespace Sh
open PySem PySem.Spec PyProof.Rows
open L2 hiding St

mutual
def beqD : D → D → Bool
  | .non, .non => true
  | .bl a, .bl b => a == b
  | .int a, .int b => a == b
  | .str a, .str b => decide (a = b)
  | .obj a, .obj b => a == b
  | .ty a, .ty b => decide (a = b)
  | .tup a, .tup b => beqDs a b
  | .lst a, .lst b => beqDs a b
  | .klst a, .klst b => beqDs a b
  | _, _ => false
def beqDs : List D → List D → Bool
  | [], [] => true
  | x :: xs, y :: ys => beqD x y && beqDs xs ys
  | _, _ => false
end
mutual
theorem beqD_eq : ∀ {x y : D}, beqD x y = true → x = y
  | .non, y, h => by cases y <;> simp_all [beqD]
  | .bl a, y, h => by cases y <;> simp_all [beqD]
  | .int a, y, h => by cases y <;> simp_all [beqD]
  | .str a, y, h => by cases y <;> simp_all [beqD]
  | .obj a, y, h => by cases y <;> simp_all [beqD]
  | .ty a, y, h => by cases y <;> simp_all [beqD]
  | .tup a, y, h => by
    cases y with
    | tup b => rw [beqD] at h; rw [beqDs_eq h]
    | _ => simp [beqD] at h
  | .lst a, y, h => by
    cases y with
    | lst b => rw [beqD] at h; rw [beqDs_eq h]
    | _ => simp [beqD] at h
  | .klst a, y, h => by
    cases y with
    | klst b => rw [beqD] at h; rw [beqDs_eq h]
    | _ => simp [beqD] at h
theorem beqDs_eq : ∀ {xs ys : List D}, beqDs xs ys = true → xs = ys
  | [], [], _ => rfl
  | [], y :: ys, h => by simp [beqDs] at h
  | x :: xs, [], h => by simp [beqDs] at h
  | x :: xs, y :: ys, h => by
    rw [beqDs, Bool.and_eq_true] at h
    rw [beqD_eq h.1, beqDs_eq h.2]
end
mutual
theorem beqD_rfl : ∀ x : D, beqD x x = true
  | .non => by simp [beqD]
  | .bl a => by simp [beqD]
  | .int a => by simp [beqD]
  | .str a => by simp [beqD]
  | .obj a => by simp [beqD]
  | .ty a => by simp [beqD]
  | .tup a => by rw [beqD]; exact beqDs_rfl a
  | .lst a => by rw [beqD]; exact beqDs_rfl a
  | .klst a => by rw [beqD]; exact beqDs_rfl a
theorem beqDs_rfl : ∀ xs : List D, beqDs xs xs = true
  | [] => by simp [beqDs]
  | x :: xs => by rw [beqDs, beqD_rfl x, beqDs_rfl xs]; rfl
end

/-! ### what is walked -/
def gdOk : Option Nat → List D → S → Bool
  | none, _, _ => true
  | some n, xs, st => match st.c[n]? with
    | some cl => beqDs cl.xs xs
    | none => false
/-- an iterator gives xs, one by one, as long as the cell it walks stays -/
def Yl (c : Cn) (m : Fm) (xs : List D) (ck : Option Nat) (F0 : Fz) (α0 : List Addr) (H0 : Hp) (J : It) : Prop :=
  ∀ i st F α σ H, Evo F0 α0 H0 F α H → SR c m st F α σ H → gdOk ck xs st = true →
    (xs.length ≤ i → J.stop i H) ∧ ∀ x, xs[i]? = some x → J.go i H ∧ ∀ v H', J.yld i H v H' → Evo F α H F α H' ∧ SR c m st F α σ H' ∧ Rep c F H' x v
abbrev IO := Out (List D × Option Nat)
def PWo (c : Cn) (m : Fm) (W : WX) (σ : L2.St) (F : Fz) (α : List Addr) (H : Hp) (R : It → Hp → Prop) : IO → Prop
  | .ok p st' => ∀ J F' α' H', Evo F α H F' α' H' → SR c m st' F' α' σ H' → Yl c m p.1 p.2 F' α' H' J → R J H'
  | .exc nm x st' => Xo c m W σ F α H nm x st'
  | .bad => False
def tW (c : Cn) (m : Fm) (W : WX) (f : S → IO) : TI := fun σ H R => ∃ st F α, SR c m st F α σ H ∧ PWo c m W σ F α H R (f st)
theorem PI_imp {X : Cx} {tg e : Expr} {t t' : TI} (h : PI X tg e t) (i : ∀ σ H Q, t' σ H Q → t σ H Q) : PI X tg e t' := ⟨fun pins s σ H Q I q => h.run pins s σ H Q I (i σ H Q q)⟩
section
variable {c : Cn} {m : Fm} {W : WX} {σ : L2.St} {F F1 : Fz} {α α1 : List Addr} {H H1 : Hp} {st st1 : S}
theorem PWo.evo {R : It → Hp → Prop} {o : IO} (e : Evo F α H F1 α1 H1) (h : PWo c m W σ F α H R o) : PWo c m W σ F1 α1 H1 R o := by
  cases o with
  | ok v st' => exact fun J F' α' H' e' => h J F' α' H' (e.trans e')
  | exc nm x st' => exact Xo.evo e h
  | bad => exact h
theorem pstW {R : It → Hp → Prop} : Pst c m W σ fun F α H o => PWo c m W σ F α H R o := ⟨fun e h => h.evo e, fun h => h, fun h => h⟩
theorem SqL.evo {a : Addr} {vs : List V} {xs : List D} (e : Ev F H F1 H1) (f : F a) (h : H a = some (.lst vs)) : SqL c.K H1 a vs := .inl (.inl (e.keep _ _ f h))
/-- a list or a tuple, walked -/
def iSeq (K : PySem.W.Frag) (tl : TE) : TI := fun σ H R => tl σ H fun x H1 => ∃ a, x = .ref a ∧ (((∃ xs, SqL K H1 a xs) ∧ R (Itl K a) H1) ∨ ((∃ xs, SqT K H1 a xs) ∧ R (Itt K a) H1))
theorem pi_seq {X : Cx} {tg l : Expr} {tl : TE} (hl : PE X l tl) : PI X tg l (iSeq X.K tl) := by
  refine ⟨fun pins s σ H R I h => ?_⟩
  refine thn (hl.run pins s σ H _ I h) fun v s1 ⟨x, H1, I1, r1, q1⟩ => ?_
  obtain ⟨a, e, q1⟩ := q1
  subst e
  cases r1
  rcases q1 with ⟨⟨xs, hq⟩, q⟩ | ⟨⟨xs, hq⟩, q⟩
  · obtain ⟨its, rv, p, hz⟩ := I1.list hq
    refine wpAny_pyIter_list p.isList ?_
    refine ⟨s1.heap.objs.size, [s1.heap.objs.size], _, _, H1, rfl, I1.kept (t' := s1.toks) fun b o e => Heap.get?_push_of_some _ e, turn_list a _, ⟨_, Heap.get?_push_size _ rfl, rfl, rfl⟩, fun b hb => ?_, q⟩
    have e : b = s1.heap.objs.size := by simpa using hb
    subst e
    exact I1.fpOk (Nat.le_refl _) (I1.hok.fresh (Nat.le_refl _))
  · obtain ⟨its, rv, p, hz⟩ := I1.tuple hq
    refine wpAny_pyIter_tuple (show s1.heap.IsTuple a its.toArray from p) ?_
    refine ⟨s1.heap.objs.size, [s1.heap.objs.size], _, _, H1, rfl, I1.kept (t' := s1.toks) fun b o e => Heap.get?_push_of_some _ e, turn_tuple a _, ⟨_, Heap.get?_push_size _ rfl, rfl, rfl⟩, fun b hb => ?_, q⟩
    have e : b = s1.heap.objs.size := by simpa using hb
    subst e
    exact I1.fpOk (Nat.le_refl _) (I1.hok.fresh (Nat.le_refl _))
/-- the cell of a value -/
def ckOf : Val → Option Nat
  | .c n => some n
  | _ => none
/-- what stands at a, in the later states too -/
theorem seq_later {va : Val} {a : Addr} {xs : List D} (sr : SR c m st F α σ H) (r : VR c m F α H va (.ref a)) (e : seqOf va st = some xs) :
    (∀ st' F' α' σ' H', Evo F α H F' α' H' → SR c m st' F' α' σ' H' → gdOk (ckOf va) xs st' = true → ∃ vs, SqL c.K H' a vs ∧ Reps c F' H' xs vs) ∨
    ((∃ zs, va = .d (.tup zs)) ∧ ∀ st' F' α' σ' H', Evo F α H F' α' H' → SR c m st' F' α' σ' H' → gdOk (ckOf va) xs st' = true → ∃ vs, SqT c.K H' a vs ∧ Reps c F' H' xs vs) := by
  unfold seqOf at e
  split at e
  · cases e
    cases r with
    | lst f h q => exact .inl fun st' F' α' σ' H' e s g => ⟨_, .inl (.inl (e.ev.keep _ _ f h)), Reps.mono e.ev q⟩
  · cases e
    cases r with
    | klst h q => exact .inl fun st' F' α' σ' H' e s g => ⟨_, (h.imp (fun ⟨o, z⟩ => .inr ⟨o, e.ev.frzs _ _ _ z⟩) id).elim .inl .inr, Reps.mono e.ev q⟩
  · cases e
    cases r with
    | tup h q => exact .inr ⟨⟨_, rfl⟩, fun st' F' α' σ' H' e s g => ⟨_, e.ev.sqT h, Reps.mono e.ev q⟩⟩
  · rename_i n _
    obtain ⟨a', ha, hr⟩ := r
    cases hr
    refine .inl fun st' F' α' σ' H' e' s g => ?_
    obtain ⟨cl, hc, ck⟩ := s.cell (pre_get e'.pre ha)
    unfold gdOk ckOf at g
    simp only [hc] at g
    obtain ⟨vs, h1, h2⟩ := ck.read
    rw [beqDs_eq g] at h2
    exact ⟨vs, .inl (.inl h1), h2⟩
  · cases e
theorem gd0 {va : Val} {xs : List D} (e : seqOf va st = some xs) : gdOk (ckOf va) xs st = true := by
  cases va with
  | d x => rfl
  | t a b x => rfl
  | x nm y => rfl
  | c n =>
    show (match st.c[n]? with
      | some cl => beqDs cl.xs xs
      | none => false) = true
    have e : (st.c[n]?).map Cell.xs = some xs := e
    cases hc : st.c[n]? with
    | none => rw [hc] at e; cases e
    | some cl =>
      rw [hc] at e
      cases e
      exact beqDs_rfl _
/-- sequences -/
def itV (v : Val) (st : S) : IO := match seqOf v st with
  | some xs => .ok (xs, ckOf v) st
  | none => .bad
def itE (f : S → OE) : S → IO := fun st => (f st).bind itV
variable {X : Cx} {tg e : Expr} {f : S → OE} {es : List Expr} {pos p tpos : Pos} {elts : List Expr} {kk : Nat}
theorem w_seq (hK : X.K = c.K) (he : PE X e (tI c m W f)) : PI X tg e (tW c m W (itE f)) := PI_imp (pi_seq he) fun σ H R ⟨st, F, α, sr, p⟩ => by
  rw [hK]
  refine kE pstW sr p fun v st1 x F1 α1 H1 _ s1 r1 p1 => ?_
  unfold itV at p1
  split at p1
  · rename_i xs hx
    obtain ⟨a, vs, rfl, hs, q⟩ := seqOf_ok s1 r1 hx
    refine ⟨a, rfl, ?_⟩
    rcases seq_later s1 r1 hx with h | ⟨_, h⟩
    · obtain ⟨ws, h1, h2⟩ := h st1 F1 α1 σ H1 .refl s1 (gd0 hx)
      refine .inl ⟨⟨ws, h1⟩, p1 _ F1 α1 H1 .refl s1 fun i st2 F2 α2 σ2 H2 e2 s2 g2 => ?_⟩
      obtain ⟨us, h3, h4⟩ := h st2 F2 α2 σ2 H2 e2 s2 g2
      refine ⟨fun hl => ⟨us, h3, by rw [← h4.len]; exact hl⟩, fun y hy => ?_⟩
      obtain ⟨v, hv, rv⟩ := h4.get hy
      exact ⟨⟨us, v, h3, hv⟩, fun w H' ⟨e, hw⟩ => by
        subst e
        have := hw us h3
        rw [hv] at this; cases this
        exact ⟨.refl, s2, rv⟩⟩
    · obtain ⟨ws, h1, h2⟩ := h st1 F1 α1 σ H1 .refl s1 (gd0 hx)
      refine .inr ⟨⟨ws, h1⟩, p1 _ F1 α1 H1 .refl s1 fun i st2 F2 α2 σ2 H2 e2 s2 g2 => ?_⟩
      obtain ⟨us, h3, h4⟩ := h st2 F2 α2 σ2 H2 e2 s2 g2
      refine ⟨fun hl => ⟨us, h3, by rw [← h4.len]; exact hl⟩, fun y hy => ?_⟩
      obtain ⟨v, hv, rv⟩ := h4.get hy
      exact ⟨⟨us, v, h3, hv⟩, fun w H' ⟨e, hw⟩ => by
        subst e
        have := hw us h3
        rw [hv] at this; cases this
        exact ⟨.refl, s2, rv⟩⟩
  · exact p1.elim
/-- lo, lo + 1, .. -/
def rngL (lo : Int) (n : Nat) : List D := (List.range n).map fun i : Nat => D.int (lo + i)
theorem yl_rng (lo : Int) (n : Nat) : Yl c m (rngL lo n) none F α H (Itr lo n) := by
  intro i st2 F2 α2 σ2 H2 e2 s2 g2
  refine ⟨fun hl => ?_, fun x hx => ?_⟩
  · show n ≤ i
    simpa [rngL] using hl
  · have hi : i < n := by
      have := (List.getElem?_eq_some_iff.mp hx).1
      simpa [rngL] using this
    refine ⟨hi, fun v H' ⟨e, hv⟩ => ?_⟩
    subst e hv
    have : x = .int (lo + i) := by
      simp [rngL, hi] at hx
      exact hx.symm
    subst this
    exact ⟨.refl, s2, .int⟩
def bigI (i : Int) : Bool := decide (-(2 ^ 62) ≤ i) && decide (i < 2 ^ 62)
def rng1V (vs : List Val) (st : S) : IO := match vs with
  | [.d (.int j)] => if bigI j then .ok (rngL 0 j.toNat, none) st else .bad
  | _ => .bad
def rng2V (vs : List Val) (st : S) : IO := match vs with
  | [.d (.int i), .d (.int j)] => if bigI i && bigI j then .ok (rngL i (j - i).toNat, none) st else .bad
  | _ => .bad
def itA (g : List Val → S → IO) (fs : List (S → OE)) : S → IO := fun st => (seqE fs st).bind g
theorem big_of {i : Int} (h : bigI i = true) : -(2 ^ 62) ≤ i ∧ i < 2 ^ 62 := by
  unfold bigI at h
  rw [Bool.and_eq_true, decide_eq_true_eq, decide_eq_true_eq] at h
  exact h
theorem w_rng1 {a : Expr} {fs : List (S → OE)} (hg : Gl X "range" := by rfl) (hm : X.mg "range" = none) (ha : PA X [a] (tA c m W (seqE fs))) (hs : starEach [a] X.env = [(false, eval a X.env)] := by rfl) : PI X tg (.Call (.Name "range" p) [a] [] pos) (tW c m W (itA rng1V fs)) :=
  PI_imp (pi_range1 hg hm ha hs) fun σ H R ⟨st, F, α, sr, p⟩ => kA pstW sr p fun vs st1 xs F1 α1 H1 _ s1 r1 p1 => by
    unfold rng1V at p1
    split at p1
    · cases r1 with
      | cons r1 r2 =>
        cases r2
        cases r1
        split at p1
        · rename_i j h
          obtain ⟨h1, h2⟩ := big_of h
          exact ⟨j, rfl, h1, h2, p1 _ F1 α1 H1 .refl s1 (yl_rng 0 j.toNat)⟩
        · exact p1.elim
    · exact p1.elim
theorem w_rng2 {a b : Expr} {fs : List (S → OE)} (hg : Gl X "range" := by rfl) (hm : X.mg "range" = none) (ha : PA X [a, b] (tA c m W (seqE fs))) (hs : starEach [a, b] X.env = [(false, eval a X.env), (false, eval b X.env)] := by rfl) (hs2 : starEach [b] X.env = [(false, eval b X.env)] := by rfl) : PI X tg (.Call (.Name "range" p) [a, b] [] pos) (tW c m W (itA rng2V fs)) :=
  PI_imp (pi_range2 hg hm ha hs hs2) fun σ H R ⟨st, F, α, sr, p⟩ => kA pstW sr p fun vs st1 xs F1 α1 H1 _ s1 r1 p1 => by
    unfold rng2V at p1
    split at p1
    · cases r1 with
      | cons r1 r2 =>
        cases r2 with
        | cons r2 r3 =>
          cases r3
          cases r1
          cases r2
          split at p1
          · rename_i i j h
            rw [Bool.and_eq_true] at h
            obtain ⟨h1, h2⟩ := big_of h.1
            obtain ⟨h3, h4⟩ := big_of h.2
            exact ⟨i, j, rfl, ⟨h1, h2, h3, h4⟩, p1 _ F1 α1 H1 .refl s1 (yl_rng i (j - i).toNat)⟩
          · exact p1.elim
    · exact p1.elim

/-! ### for -/
def forL (g : D → S → Option S) (b : S → OS) (ck : Option Nat) (all : List D) : List D → S → OS
  | [], st => if gdOk ck all st then .ok .nx st else .bad
  | x :: r, st => if gdOk ck all st then match g x st with
    | some st1 => match b st1 with
      | .ok .nx st2 => forL g b ck all r st2
      | .ok .ct st2 => forL g b ck all r st2
      | .ok .bk st2 => .ok .nx st2
      | o => o
    | none => .bad else .bad
def forS (it : S → IO) (g : D → S → Option S) (b : S → OS) : S → OS := fun st => (it st).bind fun p st1 => forL g b p.2 p.1 p.1 st1
variable {G : S → OS} {body : List Stmt} {it : S → IO} {g : D → S → Option S} {ws : List Nat}
theorem s_for {iter : Expr} (hp : PassesOwn (model X.prog X.w) X.A X.env X.xe) (hc : X.calm = true) (hi : PI X tg iter (tW c m W it)) (hg : PG X tg (tG c m ws g)) (hb : PSs X body (tS c m W G))
    (hs : ∀ x, foldedSetIterable iter X.env x = pure x := by intro _; rfl) : PS X (.For tg iter body [] pos) (tS c m W (forS it g G)) := PS_imp (ps_for hp hc hi hg hb hs) fun σ H D ⟨st, F, α, sr, p⟩ => by
  refine ⟨st, F, α, sr, ?_⟩
  unfold forS at p
  generalize it st = o at p ⊢
  cases o with
  | exc nm x st' => exact p σ
  | bad => exact p
  | ok q st1 =>
    obtain ⟨all, ck⟩ := q
    intro J F1 α1 H1 e1 s1 hy
    refine ⟨fun i k σ H => k = all.length - i ∧ ∃ st F α, Evo F1 α1 H1 F α H ∧ SR c m st F α σ H ∧ PSo c m W F α H D (forL g G ck all (all.drop i) st), ⟨_, rfl, st1, F1, α1, .refl, s1, PSo.evo e1 p⟩, ?_⟩
    rintro i k σ H ⟨hk, st, F, α, e, s, p⟩
    cases hx : all[i]? with
    | none =>
      have hl : all.length ≤ i := List.getElem?_eq_none_iff.mp hx
      rw [List.drop_eq_nil_of_le hl] at p
      unfold forL at p
      split at p
      · rename_i hg
        exact .inl ⟨(hy i st F α σ H e s hg).1 hl, p σ F α H .refl s⟩
      · exact p.elim
    | some x =>
      obtain ⟨hl, hx'⟩ := List.getElem?_eq_some_iff.mp hx
      rw [List.drop_eq_getElem_cons hl, hx'] at p
      unfold forL at p
      split at p
      · rename_i hg
        obtain ⟨go, yl⟩ := (hy i st F α σ H e s hg).2 x hx
        refine .inr ⟨go, fun σ' H' => ∃ st F α, Evo F1 α1 H1 F α H' ∧ SR c m st F α σ' H' ∧ PSo c m W F α H' D (forL g G ck all (all.drop (i + 1)) st), fun σ' H' h => ⟨_, by omega, rfl, h⟩, fun v H' hv => ?_⟩
        obtain ⟨e2, s2, r2⟩ := yl v H' hv
        refine ⟨st, F, α, x, s2, r2, ?_⟩
        split at p
        · rename_i st3 hgx
          try rw [hgx]
          intro σ3 F3 α3 H3 e3 s3 _
          refine ⟨st3, F3, α3, s3, ?_⟩
          have ee := e.trans (e2.trans e3)
          have p' := PSo.evo (e2.trans e3) p
          generalize G st3 = o at p' ⊢
          cases o with
          | ok fl st4 =>
            cases fl with
            | nx => exact fun σ' F' α' H' e' s' => ⟨st4, F', α', ee.trans e', s', PSo.evo e' p'⟩
            | ct => exact fun σ' F' α' H' e' s' => ⟨st4, F', α', ee.trans e', s', PSo.evo e' p'⟩
            | bk => exact p'
            | ret v => exact p'
          | exc nm x st4 => exact p'
          | bad => exact p'
        · exact p.elim
      · exact p.elim
end
end Sh
end
section
set_option Elab.async false
set_option linter.all false
set_option maxRecDepth 100000
set_option maxHeartbeats 2000000
namespace Sh
open PySem PySem.Spec PyProof.Rows
open L2 hiding St

section
variable {c : Cn} {m : Fm} {W : WX} {σ : L2.St} {F F1 : Fz} {α α1 : List Addr} {H H1 : Hp} {st st1 : S}
/-- a list that is not among the frame's -/
structure Hid (F : Fz) (α : List Addr) (H : Hp) (D : Addr) (vs : List V) : Prop where
  at_ : H D = some (.lst vs)
  nin : D ∉ α
  nfz : ¬ F D
theorem Hid.evo {D : Addr} {vs : List V} (h : Hid F α H D vs) (e : Evo F α H F1 α1 H1) : Hid F1 α1 H1 D vs := by
  refine ⟨e.fr.keep _ _ h.at_ h.nin fun ps z => (nomatch z), fun z => ?_, fun z => ?_⟩
  · rcases e.loc D z with w | w
    · exact h.nin w
    · exact w.lst h.at_
  · rcases e.nF D z with w | w | w
    · exact h.nfz w
    · exact w.lst h.at_
    · exact h.nin w
theorem SR.setFree (sr : SR c m st F α σ H) {D : Addr} {vs ws : List V} (h : Hid F α H D vs) (h0 : NT m.H0 D) :
    Ev F H F (upd H D (.lst ws)) ∧ SR c m st F α σ (upd H D (.lst ws)) ∧ Hid F α (upd H D (.lst ws)) D ws := by
  have hw := h.at_
  have nF := h.nfz
  have k : ∀ b u, b ≠ D → H b = some u → upd H D (.lst ws) b = some u := fun b u hb e => by rw [upd_ne hb]; exact e
  have no : ∀ b u, H b = some u → (∀ l, u ≠ .lst l) → b ≠ D := fun b u e h z => by
    subst z
    rw [hw] at e
    cases e
    exact h _ rfl
  have ev : Ev F H F (upd H D (.lst ws)) := ⟨fun _ h => h, fun b u f h => k b u (fun z => nF (z ▸ f)) h, fun b xs h => k b _ (no b _ h fun l z => nomatch z) h, fun b ob u h => k b _ (no b _ h fun l z => nomatch z) h, fun b φ h => k b _ (no b _ h fun l z => nomatch z) h, fun b fs h => k b _ (no b _ h fun l z => nomatch z) h⟩
  refine ⟨ev, ⟨sr.len, fun i val hi => ?_, ⟨sr.cells.len, sr.cells.nd, fun j b cl hb hcl => ?_⟩, sr.pre, sr.loc, fun b hb => ?_, fun q hq => ?_, ⟨fun b u h1 h2 h3 => ?_⟩, sr.new, sr.old, sr.ioF, sr.ioL, sr.dom0⟩, ⟨upd_same, h.nin, h.nfz⟩⟩
  · obtain ⟨v, q1, q2⟩ := sr.vars i val hi
    refine ⟨v, q1, ?_⟩
    cases val with
    | d x => exact Rep.mono ev q2
    | c n => exact q2
    | t a b x => exact q2
    | x nm y =>
      obtain ⟨a, oe, C, d, u, h1, h2, h3, h4, h5, h6⟩ := q2
      exact ⟨a, oe, C, d, u, h1, h2, h3, h4, ev.xds _ _ h5, Rep.mono ev h6⟩
  · have hba : b ≠ D := fun z => h.nin (z ▸ List.mem_of_getElem? hb)
    exact (sr.cells.here j b cl hb hcl).mono ev (fun z => z) (upd_ne hba)
  · obtain ⟨xs, h⟩ := sr.dom b hb
    exact ⟨xs, k b _ (fun z => nF (z ▸ hb)) h⟩
  · obtain ⟨ps, t1, t2, t3⟩ := sr.tab q hq
    refine ⟨ps, k _ _ (no _ _ t1 fun l z => nomatch z) t1, t2, fun p' cv hcv => ?_⟩
    obtain ⟨c0, z1, z2⟩ := t3 p' cv hcv
    refine ⟨c0, z1, k _ _ (no _ _ z2 fun l z => ?_) z2⟩
    unfold LamX.CodeO at z
    cases z
  · have hb := sr.fra.keep b u h1 h2 h3
    refine k b u (fun z => ?_) hb
    exact h0.no (z ▸ h1) h3
theorem Evo.setFree {F0 : Fz} {α0 : List Addr} {H0 : Hp} (e : Evo F0 α0 H0 F α H) {D : Addr} {ws : List V} (h0 : NT H0 D) (ev : Ev F H F (upd H D (.lst ws))) : Evo F0 α0 H0 F α (upd H D (.lst ws)) := by
  refine ⟨e.ev.trans ev, e.pre, e.loc, ⟨fun b o q n t => ?_⟩, e.nF⟩
  rw [upd_ne (fun (z : b = D) => h0.no (z ▸ q) t)]; exact e.fr.keep b o q n t
/-- the hidden list becomes the frame's own -/
theorem SR.show_ (sr : SR c m st F α σ H) {Dl : Addr} {xs : List D} {vs : List V} (h : Hid F α H Dl vs) (h0 : NT m.H0 Dl) (r : Reps c F H xs vs) : SR c m { st with c := st.c ++ [.own xs] } F (α ++ [Dl]) σ H := by
  refine ⟨sr.len, fun i val hi => ?_, ⟨by rw [List.length_append, List.length_append, sr.cells.len]; rfl, ?_, fun n a cl ha hc => ?_⟩, sr.pre.trans (List.prefix_append _ _), fun a ha => ?_, sr.dom, sr.tab, sr.fra, sr.new, sr.old, sr.ioF, sr.ioL, sr.dom0⟩
  · obtain ⟨v, q1, q2⟩ := sr.vars i val hi
    refine ⟨v, q1, ?_⟩
    cases val with
    | d x => exact q2
    | c n =>
      obtain ⟨a, h1, h2⟩ := q2
      exact ⟨a, pre_get (List.prefix_append _ _) h1, h2⟩
    | t a b x => exact q2
    | x nm y => exact q2
  · refine List.nodup_append.mpr ⟨sr.cells.nd, List.nodup_cons.mpr ⟨by simp, List.nodup_nil⟩, fun a ha b hb => ?_⟩
    rw [List.mem_singleton.mp hb]
    exact fun z => h.nin (z ▸ ha)
  · by_cases hn : n < α.length
    · rw [List.getElem?_append_left hn] at ha
      rw [List.getElem?_append_left (by rw [← sr.cells.len]; exact hn)] at hc
      exact sr.cells.here n a cl ha hc
    · have hn' : n = α.length := by
        have := (List.getElem?_eq_some_iff.mp ha).1
        rw [List.length_append, List.length_singleton] at this
        omega
      subst hn'
      rw [List.getElem?_append_right (Nat.le_refl _), Nat.sub_self] at ha
      rw [List.getElem?_append_right (by rw [sr.cells.len]; exact Nat.le_refl _), sr.cells.len, Nat.sub_self] at hc
      cases ha
      cases hc
      exact ⟨h.nfz, vs, h.at_, r⟩
  · rcases List.mem_append.mp ha with ha | ha
    · exact sr.loc a ha
    · rw [List.mem_singleton.mp ha]
      exact .inr h0
theorem Evo.show_ {F0 : Fz} {α0 : List Addr} {H0 : Hp} (e : Evo F0 α0 H0 F α H) {D : Addr} (h0 : NT H0 D) : Evo F0 α0 H0 F (α ++ [D]) H :=
  ⟨e.ev, e.pre.trans (List.prefix_append _ _), fun a ha => (List.mem_append.mp ha).elim (e.loc a) fun z => by rw [List.mem_singleton.mp z]; exact .inr h0, e.fr, e.nF⟩
def wipeV (v : List (Option Val)) : List Nat → List (Option Val)
  | [] => v
  | i :: is => (wipeV v is).set i none
theorem SR.wipe (sr : SR c m st F α σ H) : ∀ vs : List Nat, SR c m { st with v := wipeV st.v vs } F α (L2.wipe σ vs) H
  | [] => sr
  | i :: is => (SR.wipe sr is).unv
/-- back from a block -/
theorem SR.back {σ1 : L2.St} (s0 : SR c m st F α σ H) (e : Evo F α H F1 α1 H1) (s1 : SR c m st1 F1 α1 σ1 H1) : SR c m { v := st.v, c := st1.c } F1 α1 σ H1 := by
  refine ⟨s0.len, fun i val hi => ?_, s1.cells, s1.pre, s1.loc, s1.dom, s1.tab, s1.fra, s1.new, s1.old, s1.ioF, s1.ioL, s1.dom0⟩
  obtain ⟨v, h1, h2⟩ := s0.vars i val hi
  exact ⟨v, h1, h2.mono e⟩
end
/-- nothing is raised -/
def WF : WX := fun _ _ _ _ => False
def compL (g : D → S → Option S) (t f : S → OE) (vs : List Nat) (v0 : List (Option Val)) (ck : Option Nat) (all : List D) : List D → S → Out (List D)
  | [], st => if gdOk ck all st then .ok [] st else .bad
  | x :: r, st => if gdOk ck all st then match g x { v := wipeV v0 vs, c := st.c } with
    | some st1 => match t st1 with
      | .ok (.d (.bl true)) st2 => match f st2 with
        | .ok v st3 => match toD v st3 with
          | some (y, st4) => (compL g t f vs v0 ck all r { v := v0, c := st4.c }).bind fun ys st5 => .ok (y :: ys) st5
          | none => .bad
        | _ => .bad
      | .ok (.d (.bl false)) st2 => compL g t f vs v0 ck all r { v := v0, c := st2.c }
      | _ => .bad
    | none => .bad else .bad
def compE (it : S → IO) (g : D → S → Option S) (t f : S → OE) (vs : List Nat) : S → OE := fun st => (it st).bind fun p st1 => if p.1.length ≤ 1000000 then (compL g t f vs st1.v p.2 p.1 p.1 st1).bind newLst else .bad
section
variable {X : Cx} {c : Cn} {m : Fm} {W : WX} {e : Expr} {pos : Pos}
theorem bind_ok {α β : Type} (a : α) (st : S) (g : α → S → Out β) : (Out.ok a st).bind g = g a st := rfl
theorem bind_assoc {α β γ : Type} (o : Out α) (g : α → S → Out β) (h : β → S → Out γ) : (o.bind g).bind h = o.bind fun a s => (g a s).bind h := by
  cases o <;> rfl
theorem lc_imp {it : S → IO} {g : D → S → Option S} {t f : S → OE} {vs ws : List Nat} (hw : ∀ i ∈ ws, i ∈ vs) : ∀ σ H Q, tI c m W (compE it g t f vs) σ H Q → tLc (tW c m W it) (tG c m ws g) (tT c m WF t) (tI c m WF f) vs σ H Q := fun σ H Q ⟨st, F, α, sr, p⟩ => by
  refine ⟨st, F, α, sr, ?_⟩
  unfold compE at p
  generalize it st = o at p ⊢
  cases o with
  | exc nm x st' => exact p
  | bad => exact p
  | ok q st1 =>
    obtain ⟨all, ck⟩ := q
    intro J F1 α1 H1 e1 s1 hy Dl hD
    replace p := PEo.evo e1 p
    rw [bind_ok] at p
    split at p
    · rename_i hlen
      have h0 : NT m.H0 Dl := s1.fresh0 (.of hD)
      have nα : Dl ∉ α1 := fun z => by
        obtain ⟨n, hn⟩ := List.mem_iff_getElem?.mp z
        obtain ⟨cl, _, ck⟩ := s1.cell hn
        obtain ⟨ws, hw, _⟩ := ck.read
        rw [hD] at hw; cases hw
      have nF : ¬ F1 Dl := fun z => by
        obtain ⟨ws, hw⟩ := s1.dom Dl z
        rw [hD] at hw; cases hw
      obtain ⟨e2, s2⟩ := s1.newT (o := .lst []) hD
      refine ⟨fun i k H => k = all.length - i ∧ ∃ st F α acc us, st.v = st1.v ∧ Evo F1 α1 H1 F α H ∧ SR c m st F α σ H ∧ Hid F α H Dl us ∧ Reps c F H acc us ∧ acc.length + (all.length - i) ≤ 1000000 ∧
        PEo c m W σ F1 α1 H1 Q ((compL g t f vs st1.v ck all (all.drop i) st).bind fun ys st => newLst (acc ++ ys) st), ⟨_, rfl, st1, F1, α1, [], [], rfl, e2, s2, ⟨upd_same, nα, nF⟩, .nil, by simpa using hlen, ?_⟩, ?_⟩
      · exact p
      rintro i k H ⟨hk, st, F, α, acc, us, hv, e, s, hid, ra, hn, p⟩
      cases hx : all[i]? with
      | none =>
        have hl : all.length ≤ i := List.getElem?_eq_none_iff.mp hx
        rw [List.drop_eq_nil_of_le hl] at p
        unfold compL at p
        split at p
        · rename_i hg
          refine .inl ⟨(hy i st F α σ H e s hg).1 hl, ?_⟩
          rw [bind_ok, List.append_nil] at p
          refine p (.ref Dl) F (α ++ [Dl]) H (e.show_ (.of hD)) (s.show_ hid h0 ra) ⟨Dl, ?_, rfl⟩
          rw [← s.cells.len, List.getElem?_append_right (Nat.le_refl _), Nat.sub_self]
          rfl
        · exact p.elim
      | some x =>
        obtain ⟨hl, hx'⟩ := List.getElem?_eq_some_iff.mp hx
        rw [List.drop_eq_getElem_cons hl, hx'] at p
        unfold compL at p
        split at p
        · rename_i hg
          obtain ⟨go, yl⟩ := (hy i st F α σ H e s hg).2 x hx
          refine .inr ⟨go, fun H => ∃ st F α acc us, st.v = st1.v ∧ Evo F1 α1 H1 F α H ∧ SR c m st F α σ H ∧ Hid F α H Dl us ∧ Reps c F H acc us ∧ acc.length + (all.length - (i + 1)) ≤ 1000000 ∧
            PEo c m W σ F1 α1 H1 Q ((compL g t f vs st1.v ck all (all.drop (i + 1)) st).bind fun ys st => newLst (acc ++ ys) st), fun H' h => ⟨_, by omega, rfl, h⟩, fun v H' hv' => ?_⟩
          obtain ⟨e2, s2, r2⟩ := yl v H' hv'
          refine ⟨{ v := wipeV st1.v vs, c := st.c }, F, α, x, by rw [← hv]; exact s2.wipe vs, r2, ?_⟩
          split at p
          · rename_i st3 hgx
            try rw [hgx]
            intro σ3 F3 α3 H3 e3 s3 w3
            refine ⟨?_, st3, F3, α3, s3, ?_⟩
            · rw [w3 vs hw]
              refine List.ext_getElem? fun j => ?_
              rw [wipe_get, wipe_get]
              split
              · cases σ[j]? <;> simp
              · rfl
            have e23 := e2.trans e3
            generalize t st3 = o at p ⊢
            cases o with
            | exc nm y st4 => exact p.elim
            | bad => exact p.elim
            | ok w st4 =>
              cases w with
              | c n => exact p.elim
              | t a b z => exact p.elim
              | x a z => exact p.elim
              | d y =>
                cases y with
                | bl b =>
                  intro F4 α4 H4 e4 s4
                  have e24 := e23.trans e4
                  cases b with
                  | false =>
                    rw [if_neg Bool.false_ne_true]
                    refine ⟨{ v := st1.v, c := st4.c }, F4, α4, acc, us, rfl, e.trans e24, ?_, hid.evo e24, Reps.mono e24.ev ra, by omega, p⟩
                    have sb := SR.back s2 (e3.trans e4) s4
                    rw [hv] at sb
                    exact sb
                  | true =>
                    rw [if_pos rfl]
                    refine ⟨st4, F4, α4, s4, ?_⟩
                    simp only at p
                    generalize f st4 = o at p ⊢
                    cases o with
                    | exc nm y st5 => exact p.elim
                    | bad => exact p.elim
                    | ok w st5 =>
                      intro y F5 α5 H5 e5 s5 r5
                      simp only at p
                      split at p
                      · rename_i z st6 hz
                        obtain ⟨F6, e6, s6, r6, hv6⟩ := toD_ok s5 r5 hz
                        have e26 := e24.trans (e5.trans e6)
                        have hid6 := hid.evo e26
                        have ra6 := Reps.mono e26.ev ra
                        refine ⟨us, hid6.at_, by rw [← ra.len]; rw [sizeLine_eq]; omega, ?_⟩
                        have sb := SR.back s2 (e3.trans (e4.trans (e5.trans e6))) s6
                        rw [hv] at sb
                        obtain ⟨ev7, s7, hid7⟩ := sb.setFree (ws := us ++ [y]) hid6 h0
                        refine ⟨{ v := st1.v, c := st6.c }, F6, α5, acc ++ [z], us ++ [y], rfl, (e.trans e26).setFree (.of hD) ev7, s7, hid7, Reps.append (Reps.mono ev7 ra6) (.cons (Rep.mono ev7 r6) .nil), by rw [List.length_append, List.length_singleton]; omega, ?_⟩
                        rw [bind_assoc] at p
                        simp only [bind_ok, List.append_assoc, List.singleton_append] at p ⊢
                        exact p
                      · exact p.elim
                | _ => exact p.elim
          · exact p.elim
        · exact p.elim
    · exact p.elim
theorem t_yes : PTs X [] (tT c m W (cE (.bl true))) := ⟨fun pins s σ H Q I ⟨st, F, α, sr, p⟩ => pts_nil.run pins s σ H Q I (p F α H .refl sr)⟩
theorem t_one {q : Expr} {t : S → OE} (h : PT X q (tT c m W t)) : PTs X [q] (tT c m W t) := pts_one h
theorem i_lc {elt tg iter : Expr} {ifs : List Expr} {scope : Scope} {own : List (Str × Nat)} {it : S → IO} {g : D → S → Option S} {t f : S → OE} {ws : List Nat} (hc : X.calm = true) (hN : X.N.Nodup) (hi : PI X tg iter (tW c m W it)) (ok : BlkOk X.N X.env.scope scope own)
    (hg : ∀ (s : Shared) (H : Hp) (C : Addr) (cl : List (Str × Addr)) (fp : List Addr), PG (X.blk s H scope (compEnvC scope cl C X.env) fp) tg (tG c m ws g)) (ht : ∀ (s : Shared) (H : Hp) (C : Addr) (cl : List (Str × Addr)) (fp : List Addr), PTs (X.blk s H scope (compEnvC scope cl C X.env) fp) ifs (tT c m WF t))
    (he : ∀ (s : Shared) (H : Hp) (C : Addr) (cl : List (Str × Addr)) (fp : List Addr), PE (X.blk s H scope (compEnvC scope cl C X.env) fp) elt (tI c m WF f)) (hw : ∀ i ∈ ws, i ∈ own.map (·.2)) (hs : ∀ x, foldedSetIterable iter X.env x = pure x := by intro _; rfl) :
    PE X (.ListComp elt [⟨tg, iter, ifs, 0⟩] scope pos) (tI c m W (compE it g t f (own.map (·.2)))) := PE_imp (pe_lc hc hN hi ok hg ht he hs) (lc_imp hw)
theorem s_setLc {i : Nat} {y : Str} {py : Pos} {spos : Pos} {elt tg iter : Expr} {ifs : List Expr} {scope : Scope} {own : List (Str × Nat)} {it : S → IO} {g : D → S → Option S} {t f : S → OE} {ws : List Nat} (hc : X.calm = true) (hN : X.N.Nodup) (hi : PI X tg iter (tW c m W it)) (ok : BlkOk X.N X.env.scope scope own)
    (hg : ∀ (s : Shared) (H : Hp) (C : Addr) (cl : List (Str × Addr)) (fp : List Addr), PG (X.blk s H scope (compEnvC scope cl C X.env) fp) tg (tG c m ws g)) (ht : ∀ (s : Shared) (H : Hp) (C : Addr) (cl : List (Str × Addr)) (fp : List Addr), PTs (X.blk s H scope (compEnvC scope cl C X.env) fp) ifs (tT c m WF t))
    (he : ∀ (s : Shared) (H : Hp) (C : Addr) (cl : List (Str × Addr)) (fp : List Addr), PE (X.blk s H scope (compEnvC scope cl C X.env) fp) elt (tI c m WF f)) (hw : ∀ i ∈ ws, i ∈ own.map (·.2)) (hy : X.N[i]? = some y := by rfl) (hyl : X.env.scope.names.lookup y = some .local := by rfl)
    (hsw : swapsWith (.ListComp elt [⟨tg, iter, ifs, 0⟩] scope pos) (some (.Name y py)) spos.line X.env = pure true) (hs : ∀ x, foldedSetIterable iter X.env x = pure x := by intro _; rfl) :
    PS X (.Assign [.Name y py] (.ListComp elt [⟨tg, iter, ifs, 0⟩] scope pos) spos) (tS c m W (setS i (compE it g t f (own.map (·.2))))) :=
  PS_imp (ps_setLc hc hN hy hyl hsw hi ok hg ht he hs) fun σ H D ⟨st, F, α, sr, p⟩ => lc_imp hw σ H _ (kE pstS sr p fun v st1 y F1 α1 H1 _ s1 r1 p1 => p1 _ F1 α1 H1 .refl (s1.setv r1))
end
end Sh
end
section
set_option Elab.async false
set_option linter.all false
set_option maxRecDepth 100000
set_option maxHeartbeats 2000000
namespace Sh
open PySem PySem.Spec PyProof.Rows
open L2 hiding St

/-! ### what a def is given, and what it gives -/
inductive Ar where
  | d (x : D) | o (xs : List D) | t (ok : Bool) (nm : Str) (x : D)
inductive RV where
  | d (x : D) | io (i : Nat) | new (xs : List D)
inductive RD where
  | ok (r : RV) (cs : List Cell) | exc (nm : Str) (x : D) (cs : List Cell) | bad
def inV : List Ar → Nat → List Val
  | [], _ => []
  | .d x :: r, n => .d x :: inV r n
  | .o _ :: r, n => .c n :: inV r (n + 1)
  | .t ok nm x :: r, n => .t ok nm x :: inV r n
def inC : List Ar → List Cell
  | [] => []
  | .d _ :: r => inC r
  | .o xs :: r => .own xs :: inC r
  | .t _ _ _ :: r => inC r
def startS (nl : Nat) (as : List Ar) : S := { v := (inV as 0).map some ++ List.replicate (nl - (inV as 0).length) none, c := inC as }
def outR (n : Nat) (v : Val) (st : S) : RD := match v with
  | .d x => .ok (.d x) (st.c.take n)
  | .c k => if k < n then .ok (.io k) (st.c.take n) else match st.c[k]? with
    | some (.own xs) => .ok (.new xs) (st.c.take n)
    | some (.frz xs) => .ok (.d (.lst xs)) (st.c.take n)
    | none => .bad
  | _ => .bad
def runD (np nl : Nat) (G : S → OS) (as : List Ar) : RD := if as.length = np then match G (startS nl as) with
  | .ok (.ret v) st => outR (inC as).length v st
  | .ok .nx st => .ok (.d .non) (st.c.take (inC as).length)
  | .exc nm x st => .exc nm x (st.c.take (inC as).length)
  | _ => .bad else .bad

abbrev TP := Addr → Bool → Str → D → Prop
inductive ArgsOk (c : Cn) (tp : TP) (F : Fz) (H : Hp) : List Ar → List V → List Addr → Prop
  | nil : ArgsOk c tp F H [] [] []
  | d {x : D} {v : V} {as : List Ar} {vs : List V} {io : List Addr} : Rep c F H x v → ArgsOk c tp F H as vs io → ArgsOk c tp F H (.d x :: as) (v :: vs) io
  | o {a : Addr} {xs : List D} {as : List Ar} {vs : List V} {io : List Addr} : CellOk c F H a (.own xs) → ArgsOk c tp F H as vs io → ArgsOk c tp F H (.o xs :: as) (.ref a :: vs) (a :: io)
  | t {f : Addr} {ok : Bool} {nm : Str} {x : D} {as : List Ar} {vs : List V} {io : List Addr} : tp f ok nm x → ArgsOk c tp F H as vs io → ArgsOk c tp F H (.t ok nm x :: as) (.ref f :: vs) io
theorem ArgsOk.imp {c : Cn} {tp tp' : TP} {F : Fz} {H : Hp} (i : ∀ f ok nm x, tp f ok nm x → tp' f ok nm x) {as : List Ar} {vs : List V} {io : List Addr} (h : ArgsOk c tp F H as vs io) : ArgsOk c tp' F H as vs io := by
  induction h with
  | nil => exact .nil
  | d r _ ih => exact .d r ih
  | o r _ ih => exact .o r ih
  | t r _ ih => exact .t (i _ _ _ _ r) ih
theorem ArgsOk.len {c : Cn} {tp : TP} {F : Fz} {H : Hp} {as : List Ar} {vs : List V} {io : List Addr} (h : ArgsOk c tp F H as vs io) : as.length = vs.length := by
  induction h with
  | nil => rfl
  | d _ _ ih => exact congrArg (· + 1) ih
  | o _ _ ih => exact congrArg (· + 1) ih
  | t _ _ ih => exact congrArg (· + 1) ih
theorem ArgsOk.cl {c : Cn} {tp : TP} {F : Fz} {H : Hp} {as : List Ar} {vs : List V} {io : List Addr} (h : ArgsOk c tp F H as vs io) : io.length = (inC as).length ∧ ∀ (n : Nat) (a : Addr) (cl : Cell), io[n]? = some a → (inC as)[n]? = some cl → CellOk c F H a cl := by
  induction h with
  | nil => exact ⟨rfl, fun n a cl h => by simp at h⟩
  | d _ _ ih => exact ih
  | t _ _ ih => exact ih
  | @o a xs as vs io r _ ih =>
    refine ⟨congrArg (· + 1) ih.1, fun n b cl h1 h2 => ?_⟩
    cases n with
    | zero =>
      simp only [inC, List.getElem?_cons_zero] at h1 h2
      cases h1; cases h2
      exact r
    | succ n =>
      simp only [inC, List.getElem?_cons_succ] at h1 h2
      exact ih.2 n b cl h1 h2
structure Post (c : Cn) (F : Fz) (H : Hp) (io : List Addr) (F' : Fz) (H' : Hp) (cs : List Cell) : Prop where
  ev : Ev F H F' H'
  fr : Keeps0 io H H'
  dom : Dom F' H'
  tab : LamX.Tabs c.T H'
  nF : ∀ a, F' a → F a ∨ NT H a ∨ a ∈ io
  cells : CellsOk c F' H' io cs
def RvOk (c : Cn) (H : Hp) (io : List Addr) (F' : Fz) (H' : Hp) : RV → V → Prop
  | .d x, v => Rep c F' H' x v
  | .io i, v => ∃ a, io[i]? = some a ∧ v = .ref a
  | .new xs, v => ∃ a, v = .ref a ∧ NT H a ∧ CellOk c F' H' a (.own xs)
def RDo (c : Cn) (F : Fz) (H : Hp) (io : List Addr) (Q : VK) (E : XK) : RD → Prop
  | .ok r cs => ∀ v F' H', Post c F H io F' H' cs → RvOk c H io F' H' r v → Q v H'
  | .exc nm x cs => ∀ C dx v F' H', c.mg nm = some (.ref C) → Post c F H io F' H' cs → H' dx = some (.xd [(("what" : Str), v)]) → NT H dx → Rep c F' H' x v → E (.ref C) (some dx) H'
  | .bad => False
/-- a def's promise: where it is called with as, it gives what d says -/
def FnS (c : Cn) (k : Nat) (f : Addr) (d : List Ar → RD) : Prop :=
  ∀ (A : Around) (outer : List Env) (s : Shared) (H : Hp) (F : Fz) (as : List Ar) (vs : List V) (us : List Value) (io : List Addr) (Q : VK) (E : XK), Room k A → Env0 c.P c.w c.K c.mg c.base A outer s H → Dom F H → LamX.Tabs c.T H →
    ArgsOk c (ThkOk c s H F outer) F H as vs io → io.Nodup → Vals vs us → RDo c F H io Q E (d as) → codeAny (model c.P c.w) A (.call (.ref f) ⟨us, []⟩) (CR (L2N.CX c.P c.w) outer c.P c.w H s Q E) s
theorem FnS.mono {c : Cn} {j k : Nat} {f : Addr} {d : List Ar → RD} (h : FnS c j f d) (hk : j ≤ k) : FnS c k f d := fun A outer s H F as vs us io Q E hr => h A outer s H F as vs us io Q E (hr.mono hk)
theorem start_sr {c : Cn} {s : Shared} {H : Hp} {outer : List Env} {F : Fz} {as : List Ar} {vs : List V} {io : List Addr} {N : List Str} (h : ArgsOk c (ThkOk c s H F outer) F H as vs io) (nd : io.Nodup) (hd : Dom F H) (ht : LamX.Tabs c.T H) :
    SR c ⟨s, H, outer, F, io, none⟩ (startS N.length as) F io (L2.start N vs) H := by
  have cl := h.cl
  have hv : ∀ (pre : List Addr) (α : List Addr), α = pre ++ io → (inV as pre.length).length = vs.length ∧ ∀ (i : Nat) (val : Val), (inV as pre.length)[i]? = some val → ∃ v, vs[i]? = some v ∧ VR c ⟨s, H, outer, F, io, none⟩ F α H val v := by
    have key : ∀ {as : List Ar} {vs : List V} {jo : List Addr}, ArgsOk c (ThkOk c s H F outer) F H as vs jo → ∀ (pre α : List Addr), α = pre ++ jo → (inV as pre.length).length = vs.length ∧ ∀ (i : Nat) (val : Val), (inV as pre.length)[i]? = some val → ∃ v, vs[i]? = some v ∧ VR c ⟨s, H, outer, F, io, none⟩ F α H val v := by
      intro as vs jo h
      induction h with
      | nil => exact fun pre α e => ⟨rfl, fun i val hi => by simp [inV] at hi⟩
      | @d x v as vs jo r _ ih =>
        intro pre α e
        obtain ⟨h1, h2⟩ := ih pre α e
        refine ⟨congrArg (· + 1) h1, fun i val hi => ?_⟩
        cases i with
        | zero =>
          simp only [inV, List.getElem?_cons_zero] at hi
          cases hi
          exact ⟨v, rfl, r⟩
        | succ i =>
          simp only [inV, List.getElem?_cons_succ] at hi ⊢
          exact h2 i val hi
      | @t f ok nm x as vs jo r _ ih =>
        intro pre α e
        obtain ⟨h1, h2⟩ := ih pre α e
        refine ⟨congrArg (· + 1) h1, fun i val hi => ?_⟩
        cases i with
        | zero =>
          simp only [inV, List.getElem?_cons_zero] at hi
          cases hi
          exact ⟨_, rfl, f, rfl, r⟩
        | succ i =>
          simp only [inV, List.getElem?_cons_succ] at hi ⊢
          exact h2 i val hi
      | @o a xs as vs jo r _ ih =>
        intro pre α e
        obtain ⟨h1, h2⟩ := ih (pre ++ [a]) α (by rw [e, List.append_assoc]; rfl)
        rw [List.length_append, List.length_singleton] at h1 h2
        refine ⟨congrArg (· + 1) h1, fun i val hi => ?_⟩
        cases i with
        | zero =>
          simp only [inV, List.getElem?_cons_zero] at hi
          cases hi
          refine ⟨_, rfl, a, ?_, rfl⟩
          rw [e, List.getElem?_append_right (Nat.le_refl _), Nat.sub_self]
          rfl
        | succ i =>
          simp only [inV, List.getElem?_cons_succ] at hi ⊢
          exact h2 i val hi
    exact key h
  obtain ⟨hl, hv⟩ := hv [] io rfl
  simp only [List.length_nil] at hl hv
  refine ⟨?_, fun i val hi => ?_, ⟨cl.1, nd, cl.2⟩, List.prefix_rfl, fun a ha => .inl ha, hd, ht, .refl, fun a ha => .inl ha, fun a ha => ha, fun a ha z => ?_, fun a ha => ?_, hd⟩
  · unfold L2.start startS
    simp only [List.length_append, List.length_map, List.length_replicate, hl]
  · unfold startS at hi
    unfold L2.start
    simp only at hi
    by_cases hi2 : i < (inV as 0).length
    · rw [List.getElem?_append_left (by rw [List.length_map]; exact hi2), List.getElem?_map] at hi
      cases q : (inV as 0)[i]? with
      | none => rw [q] at hi; cases hi
      | some w =>
        rw [q] at hi
        cases hi
        obtain ⟨v, h1, h2⟩ := hv i val q
        refine ⟨v, ?_, h2⟩
        rw [List.getElem?_append_left (by rw [List.length_map, ← hl]; exact hi2), List.getElem?_map, h1]
        rfl
    · rw [List.getElem?_append_right (by rw [List.length_map]; omega), List.getElem?_replicate] at hi
      split at hi <;> cases hi
  · obtain ⟨n, hn⟩ := List.mem_iff_getElem?.mp ha
    have h1 := (List.getElem?_eq_some_iff.mp hn).1
    rw [cl.1] at h1
    have ck := cl.2 n a _ hn (List.getElem?_eq_getElem h1)
    cases q : (inC as)[n] with
    | own xs => rw [q] at ck; exact ck.1 z
    | frz xs =>
      have : ∀ as : List Ar, ∀ xs : List D, Cell.frz xs ∉ inC as := by
        intro as
        induction as with
        | nil => intro xs z; simp [inC] at z
        | cons a as ih =>
          intro xs z
          cases a with
          | d x => exact ih xs z
          | t a b x => exact ih xs z
          | o ys => simp only [inC, List.mem_cons] at z; rcases z with z | z; · cases z
                    exact ih xs z
      exact (this as xs (q ▸ List.getElem_mem h1)).elim
  · obtain ⟨n, hn⟩ := List.mem_iff_getElem?.mp ha
    have h1 := (List.getElem?_eq_some_iff.mp hn).1
    rw [cl.1] at h1
    obtain ⟨ws, hw, _⟩ := (cl.2 n a _ hn (List.getElem?_eq_getElem h1)).read
    exact ⟨ws, hw⟩
theorem SR.post {c : Cn} {m : Fm} {st : S} {F : Fz} {α : List Addr} {σ : L2.St} {H : Hp} {n : Nat} (sr : SR c m st F α σ H) (e : Evo m.F0 m.io m.H0 F α H) (hn : n = m.io.length) : Post c m.F0 m.H0 m.io F H (st.c.take n) := by
  subst hn
  obtain ⟨t, ht⟩ := sr.pre
  have hl : m.io.length ≤ st.c.length := by rw [← sr.cells.len, ← ht, List.length_append]; omega
  refine ⟨e.ev, e.fr, sr.dom, sr.tab, e.nF, ⟨by rw [List.length_take]; omega, ?_, fun k a cl ha hc => ?_⟩⟩
  · have := sr.cells.nd
    rw [← ht] at this
    exact (List.nodup_append.mp this).1
  · have hk := (List.getElem?_eq_some_iff.mp ha).1
    rw [List.getElem?_take, if_pos hk] at hc
    exact sr.cells.here k a cl (by rw [← ht, List.getElem?_append_left hk]; exact ha) hc
theorem fnS_of {c : Cn} {k : Nat} {f : Addr} {name qual : Str} {params : Arguments} {body : List Stmt} {scope : Scope} {dV kV doc pm cdv ct oc : Value} {an od : Option Addr}
    {osl : Array (Option Value)} {N ps : List Str} {G : S → OS} (lk : c.K.lookup f = some ⟨oc, od, .func (PySem.W.fnOf name qual params body scope dV kV doc pm an cdv ct), osl⟩) (hcd : PySem.W.codeIn c.K cdv qual = true) (Sc : FnScope N ps scope)
    (hb : Binds c.K (PySem.W.fnOf name qual params body scope dV kV doc pm an cdv ct) ps [])
    (hbody : ∀ (A : Around) (outer : List Env) (s : Shared) (H : Hp) (F : Fz) (io : List Addr) (E : XK), Room k (A.deeper (envOfC qual scope s.heap.objs.size f cdv)) →
      L2N.Takes (cxOf (L2N.CX c.P c.w) c.P c.w c.K c.mg c.base N qual scope f cdv A outer s H E) (fun cls d _ H => E cls d H) →
      PSs (cxOf (L2N.CX c.P c.w) c.P c.w c.K c.mg c.base N qual scope f cdv A outer s H E) body (tS c ⟨s, H, outer, F, io, none⟩ (fun cls d _ H => E cls d H) G)) :
    FnS c (k + 1) f (runD ps.length N.length G) := by
  intro A outer s H F as vs us io Q E hr e0 hd ht ha nd hv h
  unfold runD at h
  split at h
  · rename_i hlen
    have hl : vs.length = ps.length := by rw [← ha.len, hlen]
    have hl2 : us.length = ps.length := by rw [← hl]; exact hv.length.symm
    have KX : c.K.In s.heap := e0.mod.kin.keeps fun b o e => (e0.bs b o e).1
    have hbt : BindsTo s (PySem.W.fnOf name qual params body scope dV kV doc pm an cdv ct) ⟨us, []⟩ (ps.zip us) := by
      have := hb s us KX (by rw [List.append_nil]; exact hl2)
      rw [List.append_nil] at this
      exact this
    refine LamX.run_ofS lk hcd Sc hr e0 hbt hv hl fun hr' => ?_
    refine ⟨_, hbody A outer s H F io E hr' ?_, startS N.length as, F, io, start_sr ha nd hd ht, ?_⟩
    · exact L2N.takes_of rfl rfl rfl rfl
    · have hn := ha.cl.1
      generalize G (startS N.length as) = o at h ⊢
      cases o with
      | bad => exact h
      | exc nm x st =>
        intro σ' C dx v F' α' H' hm e s' hx h0 r
        exact h C dx v F' H' hm (s'.post e hn.symm) hx h0 r
      | ok fl st =>
        cases fl with
        | bk => exact h.elim
        | ct => exact h.elim
        | nx =>
          intro σ' F' α' H' e s'
          exact h .non F' H' (s'.post e hn.symm) .non
        | ret v =>
          intro x σ' F' α' H' e s' r
          simp only at h
          unfold outR at h
          split at h
          · exact h x F' H' (s'.post e hn.symm) r
          · rename_i j
            obtain ⟨a, h1, rfl⟩ := r
            obtain ⟨t, hpre⟩ := s'.pre
            have hpre : io ++ t = α' := hpre
            split at h
            · rename_i hj
              refine h _ F' H' (s'.post e hn.symm) ⟨a, ?_, rfl⟩
              rw [← hpre, List.getElem?_append_left (by rw [hn]; exact hj)] at h1
              exact h1
            · rename_i hj
              have ck := s'.cell h1
              obtain ⟨cl, hc, ck⟩ := ck
              have nio : a ∉ io := fun z => by
                obtain ⟨n, hn'⟩ := List.mem_iff_getElem?.mp z
                have hlt := (List.getElem?_eq_some_iff.mp hn').1
                have : α'[n]? = some a := by rw [← hpre, List.getElem?_append_left hlt]; exact hn'
                have := nd_at s'.cells.nd h1 this
                omega
              have h0 : NT H a := (s'.loc a (List.mem_of_getElem? h1)).resolve_left nio
              rw [hc] at h
              cases cl with
              | own xs => exact h _ F' H' (s'.post e hn.symm) ⟨a, rfl, h0, ck⟩
              | frz xs =>
                obtain ⟨g1, vs, g2, g3⟩ := ck
                exact h _ F' H' (s'.post e hn.symm) (.lst g1 g2 g3)
          · exact h.elim
  · exact h.elim
end Sh
end
section
set_option Elab.async false
set_option linter.all false
set_option maxRecDepth 100000
set_option maxHeartbeats 2000000
namespace Sh
open PySem PySem.Spec PyProof.Rows
open L2 hiding St

/-! ### calls -/
def toArs : List Val → S → Option (List Ar × List Nat)
  | [], _ => some ([], [])
  | v :: vs, st => match toArs vs st with
    | none => none
    | some (as, ns) => match v with
      | .d x => some (.d x :: as, ns)
      | .t ok nm x => some (.t ok nm x :: as, ns)
      | .x _ _ => none
      | .c n => match st.c[n]? with
        | some (.own xs) => if n ∈ ns then none else some (.o xs :: as, n :: ns)
        | some (.frz xs) => some (.d (.lst xs) :: as, ns)
        | none => none
def noT : List Ar → Bool
  | [] => true
  | .t _ _ _ :: _ => false
  | _ :: r => noT r
def updC : List Nat → List Cell → List Cell → List Cell
  | n :: ns, cl :: cs, l => updC ns cs (l.set n cl)
  | _, _, l => l
def backV (r : RV) (ns : List Nat) (st : S) : OE := match r with
  | .d x => .ok (.d x) st
  | .io i => match ns[i]? with
    | some n => .ok (.c n) st
    | none => .bad
  | .new xs => newLst xs st
def afterD (ns : List Nat) (st : S) : RD → OE
  | .ok r cs => backV r ns { st with c := updC ns cs st.c }
  | .exc nm x cs => .exc nm x { st with c := updC ns cs st.c }
  | .bad => .bad
def callV (d : List Ar → RD) (vs : List Val) (st : S) : OE := match toArs vs st with
  | some (as, ns) => if noT as then afterD ns st (d as) else .bad
  | none => .bad
def callVT (d : List Ar → RD) (vs : List Val) (st : S) : OE := match toArs vs st with
  | some (as, ns) => afterD ns st (d as)
  | none => .bad
def tpOf (c : Cn) (m : Fm) : TP := fun f ok nm x => ThkOk c m.s0 m.H0 m.F0 m.outer f ok nm x
section
variable {c : Cn} {m : Fm} {W : WX} {σ : L2.St} {F F1 : Fz} {α α1 : List Addr} {H H1 : Hp} {st st1 : S}
theorem toArs_ok (sr : SR c m st F α σ H) : ∀ {vals : List Val} {vs : List V} {as : List Ar} {ns : List Nat}, VRs c m F α H vals vs → toArs vals st = some (as, ns) →
    ∃ io, ArgsOk c (tpOf c m) F H as vs io ∧ io.length = ns.length ∧ (∀ (i n : Nat), ns[i]? = some n → ∃ a, io[i]? = some a ∧ α[n]? = some a) ∧ ns.Nodup ∧ io.Nodup := by
  intro vals
  induction vals with
  | nil =>
    intro vs as ns r e
    cases r
    cases e
    exact ⟨[], .nil, rfl, fun i n h => by simp at h, .nil, .nil⟩
  | cons val vals ih =>
    intro vs as ns r e
    cases r with
    | @cons _ v _ vs r1 r2 =>
      unfold toArs at e
      cases q : toArs vals st with
      | none => rw [q] at e; cases e
      | some p =>
        obtain ⟨as1, ns1⟩ := p
        rw [q] at e
        obtain ⟨io, h1, h2, h3, h4, h5⟩ := ih r2 q
        simp only at e
        cases val with
        | d x => cases e; exact ⟨io, .d r1 h1, h2, h3, h4, h5⟩
        | x nm y => cases e
        | t ok nm x =>
          cases e
          obtain ⟨f, rfl, hf⟩ := r1
          exact ⟨io, .t hf h1, h2, h3, h4, h5⟩
        | c n =>
          obtain ⟨a, ha, rfl⟩ := r1
          obtain ⟨cl, hc, ck⟩ := sr.cell ha
          simp only [hc] at e
          cases cl with
          | frz xs =>
            cases e
            obtain ⟨g1, us, g2, g3⟩ := ck
            exact ⟨io, .d (.lst g1 g2 g3) h1, h2, h3, h4, h5⟩
          | own xs =>
            simp only at e
            split at e
            · cases e
            · rename_i hn
              cases e
              refine ⟨a :: io, .o ck h1, congrArg (· + 1) h2, fun i k hk => ?_, List.nodup_cons.mpr ⟨hn, h4⟩, List.nodup_cons.mpr ⟨fun z => hn ?_, h5⟩⟩
              · cases i with
                | zero => simp at hk; subst hk; exact ⟨a, rfl, ha⟩
                | succ i =>
                  obtain ⟨b, g1, g2⟩ := h3 i k (by simpa using hk)
                  exact ⟨b, by simpa using g1, g2⟩
              · obtain ⟨i, hi⟩ := List.mem_iff_getElem?.mp z
                have hlt := (List.getElem?_eq_some_iff.mp hi).1
                rw [h2] at hlt
                obtain ⟨b, g1, g2⟩ := h3 i _ (List.getElem?_eq_getElem hlt)
                rw [hi] at g1; cases g1
                rw [nd_at sr.cells.nd ha g2]
                exact List.getElem_mem hlt
theorem updC_len : ∀ (ns : List Nat) (cs l : List Cell), (updC ns cs l).length = l.length
  | [], _, _ => rfl
  | _ :: _, [], _ => rfl
  | n :: ns, cl :: cs, l => by unfold updC; rw [updC_len ns cs, List.length_set]
theorem updC_out : ∀ {ns : List Nat} {cs l : List Cell} {j : Nat}, j ∉ ns → (updC ns cs l)[j]? = l[j]?
  | [], _, _, _, _ => rfl
  | _ :: _, [], _, _, _ => rfl
  | n :: ns, cl :: cs, l, j, h => by
    simp only [List.mem_cons, not_or] at h
    unfold updC
    rw [updC_out h.2, List.getElem?_set_ne (Ne.symm h.1)]
theorem updC_in : ∀ {ns : List Nat} {cs l : List Cell} {i n : Nat}, ns.Nodup → ns.length = cs.length → ns[i]? = some n → n < l.length → ∃ cl, cs[i]? = some cl ∧ (updC ns cs l)[n]? = some cl
  | [], _, _, _, _, _, _, h, _ => by simp at h
  | _ :: _, [], _, _, _, _, h, _, _ => by simp at h
  | k :: ns, cl :: cs, l, i, n, nd, hl, h, hn => by
    obtain ⟨nd1, nd2⟩ := List.nodup_cons.mp nd
    cases i with
    | zero =>
      simp at h; subst h
      refine ⟨cl, rfl, ?_⟩
      unfold updC
      rw [updC_out nd1, List.getElem?_set_self hn]
    | succ i =>
      simp only [List.getElem?_cons_succ] at h ⊢
      unfold updC
      exact updC_in nd2 (by simpa using hl) h (by rw [List.length_set]; exact hn)
theorem SR.called (sr : SR c m st F α σ H) {ns : List Nat} {io : List Addr} {F' : Fz} {H' : Hp} {cs : List Cell} (hl : io.length = ns.length) (hi : ∀ (i n : Nat), ns[i]? = some n → ∃ a, io[i]? = some a ∧ α[n]? = some a) (nd : ns.Nodup) (p : Post c F H io F' H' cs) :
    Evo F α H F' α H' ∧ SR c m { st with c := updC ns cs st.c } F' α σ H' := by
  have sub : ∀ a ∈ io, a ∈ α ∧ ∃ n, n ∈ ns ∧ α[n]? = some a := fun a ha => by
    obtain ⟨i, hi2⟩ := List.mem_iff_getElem?.mp ha
    have hlt := (List.getElem?_eq_some_iff.mp hi2).1
    rw [hl] at hlt
    obtain ⟨b, g1, g2⟩ := hi i _ (List.getElem?_eq_getElem hlt)
    rw [hi2] at g1; cases g1
    exact ⟨List.mem_of_getElem? g2, _, List.getElem_mem hlt, g2⟩
  have evo : Evo F α H F' α H' := ⟨p.ev, List.prefix_rfl, fun _ h => .inl h, ⟨fun b o h n t => p.fr.keep b o h (fun z => n (sub b z).1) t⟩, fun a ha => (p.nF a ha).imp id (Or.imp id fun z => (sub a z).1)⟩
  refine ⟨evo, ⟨sr.len, fun i val h => ?_, ⟨by rw [updC_len]; exact sr.cells.len, sr.cells.nd, fun n a cl ha hc => ?_⟩, sr.pre, sr.loc, p.dom, p.tab, ⟨fun b o h1 h2 h3 => ?_⟩, fun a ha => ?_, fun a ha => p.ev.sub a (sr.old a ha), sr.ioF, sr.ioL, sr.dom0⟩⟩
  · obtain ⟨v, h1, h2⟩ := sr.vars i val h
    exact ⟨v, h1, h2.mono evo⟩
  · by_cases hn : n ∈ ns
    · obtain ⟨i, hin⟩ := List.mem_iff_getElem?.mp hn
      have hlt : n < st.c.length := by rw [← sr.cells.len]; exact (List.getElem?_eq_some_iff.mp ha).1
      obtain ⟨b, g1, g2⟩ := hi i n hin
      rw [ha] at g2; cases g2
      obtain ⟨cl', g3, g4⟩ := updC_in nd (by rw [← hl, p.cells.len]) hin hlt
      rw [g4] at hc; cases hc
      exact p.cells.here i a _ g1 g3
    · rw [updC_out hn] at hc
      have ck := sr.cells.here n a cl ha hc
      have nio : a ∉ io := fun z => by
        obtain ⟨_, k, hk, g⟩ := sub a z
        rw [nd_at sr.cells.nd ha g] at hn
        exact hn hk
      obtain ⟨ws, hw, _⟩ := ck.read
      refine ck.mono p.ev (fun z w => ?_) ((p.fr.keep a _ hw nio fun ps z => nomatch z).trans hw.symm)
      rcases p.nF a w with w | w | w
      · exact z w
      · exact w.lst hw
      · exact nio w
  · have hb := sr.fra.keep b o h1 h2 h3
    refine p.fr.keep b o hb (fun z => ?_) h3
    rcases sr.loc b (sub b z).1 with w | w
    · exact h2 w
    · exact w.no h1 h3
  · rcases p.nF a ha with w | w | w
    · exact sr.new a w
    · exact .inr (.inl (sr.fresh0 w))
    · exact .inr ((sr.loc a (sub a w).1).symm)
/-- behind a call -/
theorem after_ok (sr : SR c m st F α σ H) {ns : List Nat} {io : List Addr} {Q : VK} (hl : io.length = ns.length) (hi : ∀ (i n : Nat), ns[i]? = some n → ∃ a, io[i]? = some a ∧ α[n]? = some a) (nd : ns.Nodup) {r : RD}
    (p : PEo c m W σ F α H Q (afterD ns st r)) : RDo c F H io Q (WE W σ) r := by
  cases r with
  | bad => exact p
  | exc nm x cs =>
    intro C dx v F' H' hm ps hx h0 rp
    obtain ⟨e, s⟩ := sr.called hl hi nd ps
    exact p C dx v F' α H' hm e s hx (sr.fresh0 h0) rp
  | ok r cs =>
    intro v F' H' ps rv
    obtain ⟨e, s⟩ := sr.called hl hi nd ps
    unfold afterD at p
    cases r with
    | d x => exact p v F' α H' e s rv
    | io i =>
      obtain ⟨a, h1, rfl⟩ := rv
      unfold backV at p
      simp only at p
      split at p
      · rename_i n hn
        obtain ⟨b, g1, g2⟩ := hi i n hn
        rw [h1] at g1; cases g1
        exact p _ F' α H' e s ⟨a, g2, rfl⟩
      · exact p.elim
    | new xs =>
      obtain ⟨a, rfl, h0, ck⟩ := rv
      obtain ⟨nF, vs, g1, g2⟩ := ck
      have nα : a ∉ α := fun z => by
        obtain ⟨n, hn⟩ := List.mem_iff_getElem?.mp z
        obtain ⟨cl, _, ck⟩ := sr.cell hn
        obtain ⟨ws, hw, _⟩ := ck.read
        exact h0.lst hw
      refine p (.ref a) F' (α ++ [a]) H' (e.show_ h0) (s.show_ ⟨g1, nα, nF⟩ (sr.fresh0 h0) g2) ⟨a, ?_, rfl⟩
      rw [← s.cells.len, List.getElem?_append_right (Nat.le_refl _), Nat.sub_self]
      rfl
theorem noT_ok {tp tp' : TP} {as : List Ar} {vs : List V} {io : List Addr} (h : ArgsOk c tp F H as vs io) (n : noT as = true) : ArgsOk c tp' F H as vs io := by
  induction h with
  | nil => exact .nil
  | d r _ ih => exact .d r (ih n)
  | o r _ ih => exact .o r (ih n)
  | t r _ ih => cases n
end
/-- the context is c's -/
structure CxA (c : Cn) (X : Cx) : Prop where
  prog : X.prog = c.P
  w : X.w = c.w
  K : X.K = c.K
  mg : X.mg = c.mg
  base : X.base = c.base
/-- and it was entered as m says -/
structure CxM (m : Fm) (X : Cx) : Prop where
  s0 : X.s_0 = m.s0
  H0 : X.H_0 = m.H0
  outer : X.outer = m.outer
  ex : X.ex = []
section
variable {X : Cx} {c : Cn} {m : Fm} {W : WX} {e : Expr} {es : List Expr} {pos p : Pos} {x : Str} {f : Addr} {k : Nat} {d : List Ar → RD} {fd : FuncData} {ps : List Str} {fs : List (S → OE)}
/-- the callee runs -/
theorem run_FnS {pins : List (Addr × Obj)} {s : Shared} {σ : L2.St} {H : Hp} {F : Fz} {Q : VK} {as : List Ar} {vs : List V} {us : List Value} {io : List Addr} (hX : CxA c X) (hf : FnS c k f d) (hr : Room k X.A) (tk : L2N.Takes X W)
    (I : Inv X pins σ H s) (hd : Dom F H) (ht : LamX.Tabs c.T H) (ha : ArgsOk c (ThkOk c s H F X.stack) F H as vs io) (nd : io.Nodup) (hv : Vals vs us) (h : RDo c F H io Q (WE W σ) (d as)) : wpAny (model X.prog X.w) X.A (call (.ref f) us) (EP X pins σ Q) X.xe s := by
  obtain ⟨P, w, K, mg, base, G, T⟩ := c
  obtain ⟨rfl, rfl, rfl, rfl, rfl⟩ := hX
  refine wpAny_call (codeAny_mono (hf X.A X.stack s H F as vs us io Q (WE W σ) hr I.env0 hd ht ha nd hv h) fun r s' hq => ?_)
  cases r with
  | error e => exact L2N.passAt tk σ pins H s e s' I hq
  | ok fl =>
    cases fl with
    | ret u => exact I.after hq
    | next => exact False.elim hq
    | brk => exact False.elim hq
    | cont => exact False.elim hq
theorem i_call (hX : CxA c X) (hf : FnS c k f d) (hm : c.mg x = some (.ref f)) (hr : Room k X.A) (tk : L2N.Takes X W) (ha : PA X (e :: es) (tA c m W (seqE fs))) (hk : PySem.W.keepIn c.K (.ref f) = true := by decide +kernel) (hg : Gl X x := by rfl)
    (hdb : (x == ("__debug__" : Str)) = false := by decide) (he : starEach (e :: es) X.env = (false, eval e X.env) :: starEach es X.env := by rfl) (hpl : (backTo pos (starEach es X.env)).any (·.1) = false := by rfl) :
    PE X (.Call (.Name x p) (e :: es) [] pos) (tI c m W (callE (callV d) fs)) := by
  refine ⟨fun pins s σ H Q I h => ?_⟩
  obtain ⟨st, F, α, sr, h⟩ := h
  have hm' : X.mg x = some (.ref f) := by rw [hX.mg]; exact hm
  refine wpAny_Call_Name_kw (ld_glob I hg hm' ?_ hdb)
  refine PySem.W.callWith_K (h₀ := X.base) I.ok.mod.kin (by rw [hX.K]; exact hk) (thn (ha.run pos pins s σ H (fun vs H1 => ∃ as F1 io, (∀ tp, ArgsOk c tp F1 H1 as vs io) ∧ io.Nodup ∧ Dom F1 H1 ∧ LamX.Tabs c.T H1 ∧ RDo c F1 H1 io Q (WE W σ) (d as)) I ?_) fun us s1 ⟨vs, H1, I1, r, q⟩ => ⟨I1.kIn, ?_⟩) he hpl
  · refine kA pstE sr h fun vs st1 xs F1 α1 H1 _ s1 r1 p1 => ?_
    unfold callV at p1
    split at p1
    · rename_i as ns hq
      split at p1
      · rename_i hn
        obtain ⟨io, h1, h2, h3, h4, h5⟩ := toArs_ok s1 r1 hq
        exact ⟨as, F1, io, fun tp => noT_ok h1 hn, h5, s1.dom, s1.tab, after_ok s1 h2 h3 h4 p1⟩
      · exact p1.elim
    · exact p1.elim
  · obtain ⟨as, F1, io, h1, h2, h3, h4, h5⟩ := q
    exact run_FnS hX hf hr tk I1 h3 h4 (h1 _) h2 r h5
theorem i_call0 (hX : CxA c X) (hf : FnS c k f d) (hm : c.mg x = some (.ref f)) (hr : Room k X.A) (tk : L2N.Takes X W) (hk : PySem.W.keepIn c.K (.ref f) = true := by decide +kernel) (hg : Gl X x := by rfl)
    (hdb : (x == ("__debug__" : Str)) = false := by decide) : PE X (.Call (.Name x p) [] [] pos) (tI c m W (callE (callV d) [])) := by
  refine ⟨fun pins s σ H Q I h => ?_⟩
  obtain ⟨st, F, α, sr, h⟩ := h
  have hm' : X.mg x = some (.ref f) := by rw [hX.mg]; exact hm
  refine wpAny_Call_Name_kw (ld_glob I hg hm' ?_ hdb)
  refine PySem.W.callWith_K0 I.kIn (by rw [hX.K]; exact hk) ?_
  have h : PEo c m W σ F α H Q (afterD [] st (d [])) := h
  exact run_FnS (F := F) (io := []) hX hf hr tk I sr.dom sr.tab .nil .nil .nil (after_ok sr rfl (fun i n h => by simp at h) .nil h)
/-- a thunk of the frame's entry, now -/
theorem thk_now {pins : List (Addr × Obj)} {s : Shared} {σ : L2.St} {H : Hp} {F : Fz} {α : List Addr} {st : S} {g : Addr} {ok : Bool} {nm : Str} {y : D} (hM : CxM m X) (hs : X.stack = X.env :: X.outer) (hfr : X.env.frame = some X.env.locals) (I : Inv X pins σ H s) (sr : SR c m st F α σ H)
    (h : ThkOk c m.s0 m.H0 m.F0 m.outer g ok nm y) : ThkOk c s H F X.stack g ok nm y := by
  obtain ⟨m0, mH, mo, mF, mio, mex⟩ := m
  obtain ⟨rfl, rfl, rfl, hex⟩ := hM
  obtain ⟨k, pins', hk, hp, hfn, hrun⟩ := h
  have nx : ∀ b, b ∉ X.ex := fun b hb => by rw [hex] at hb; cases hb
  refine ⟨k, pins', hk, fun p hpp => ?_, hfn, fun A outer' s' H' F' Q E r e0 hpn ev => hrun A outer' s' H' F' Q E r e0 hpn (sr.ev0.trans ev)⟩
  obtain ⟨h1, h2, h3⟩ := hp p hpp
  refine ⟨I.base.keep _ _ h1 h2 h3 (nx _), I.base.free _ _ h1 h2 (nx _), fun z => ?_⟩
  rw [hs] at z
  obtain ⟨en, he, hq⟩ := List.mem_filterMap.mp z
  rcases List.mem_cons.mp he with rfl | he
  · rw [hfr] at hq
    have hq' := Option.some.inj hq
    have h4 := Nat.lt_of_lt_of_le (Heap.lt_size h1) I.ok.above
    rw [hq'] at h4
    exact absurd h4 (Nat.lt_irrefl _)
  · exact h3 (List.mem_filterMap.mpr ⟨en, he, hq⟩)
/-- a call that may hand thunks on -/
theorem i_callK (hX : CxA c X) (hM : CxM m X) (hs : X.stack = X.env :: X.outer) (hfr : X.env.frame = some X.env.locals) (hf : FnS c k f d) (hm : c.mg x = some (.ref f)) (hr : Room k X.A) (tk : L2N.Takes X W) (ha : PA X (e :: es) (tA c m W (seqE fs))) (hk : PySem.W.keepIn c.K (.ref f) = true := by decide +kernel) (hg : Gl X x := by rfl)
    (hdb : (x == ("__debug__" : Str)) = false := by decide) (he : starEach (e :: es) X.env = (false, eval e X.env) :: starEach es X.env := by rfl) (hpl : (backTo pos (starEach es X.env)).any (·.1) = false := by rfl) :
    PE X (.Call (.Name x p) (e :: es) [] pos) (tI c m W (callE (callVT d) fs)) := by
  refine ⟨fun pins s σ H Q I h => ?_⟩
  obtain ⟨st, F, α, sr, h⟩ := h
  have hm' : X.mg x = some (.ref f) := by rw [hX.mg]; exact hm
  refine wpAny_Call_Name_kw (ld_glob I hg hm' ?_ hdb)
  refine PySem.W.callWith_K (h₀ := X.base) I.ok.mod.kin (by rw [hX.K]; exact hk) (thn (ha.run pos pins s σ H (fun vs H1 => ∃ as F1 io st1 α1, SR c m st1 F1 α1 σ H1 ∧ ArgsOk c (tpOf c m) F1 H1 as vs io ∧ io.Nodup ∧ RDo c F1 H1 io Q (WE W σ) (d as)) I ?_) fun us s1 ⟨vs, H1, I1, r, q⟩ => ⟨I1.kIn, ?_⟩) he hpl
  · refine kA pstE sr h fun vs st1 xs F1 α1 H1 _ s1 r1 p1 => ?_
    unfold callVT at p1
    split at p1
    · rename_i as ns hq
      obtain ⟨io, h1, h2, h3, h4, h5⟩ := toArs_ok s1 r1 hq
      exact ⟨as, F1, io, st1, α1, s1, h1, h5, after_ok s1 h2 h3 h4 p1⟩
    · exact p1.elim
  · obtain ⟨as, F1, io, st1, α1, s1', h1, h2, h3⟩ := q
    exact run_FnS hX hf hr tk I1 s1'.dom s1'.tab (h1.imp fun f ok nm y => thk_now hM hs hfr I1 s1') h2 r h3
/-- x() of a lambda that was handed in -/
def actE (i : Nat) : S → OE := fun st => match st.v[i]? with
  | some (some (.t true _ y)) => .ok (.d y) st
  | some (some (.t false nm y)) => .exc nm y st
  | _ => .bad
theorem i_act {i : Nat} {a : Str} (hX : CxA c X) (hM : CxM m X) (hs : X.stack = X.env :: X.outer) (hfr : X.env.frame = some X.env.locals) (hr : Room 60 X.A) (tk : L2N.Takes X W) (hN : X.N[i]? = some a := by rfl) (hv : Vis X.env.scope a := by first | exact .inl rfl | exact .inr (.inl rfl) | exact .inr (.inr rfl))
    (hd : (a == ("__debug__" : Str)) = false := by decide) (hcd : (a == ("__classdict__" : Str)) = false := by decide) : PE X (.Call (.Name a p) [] [] pos) (tI c m W (actE i)) := by
  refine ⟨fun pins s σ H Q I h => ?_⟩
  obtain ⟨st, F, α, sr, h⟩ := h
  have key : ∀ ok nm y, st.v[i]? = some (some (.t ok nm y)) → PEo c m W σ F α H Q (if ok then .ok (.d y) st else .exc nm y st) → wpAny (model X.prog X.w) X.A (eval (.Call (.Name a p) [] [] pos) X.env) (EP X pins σ Q) X.xe s := by
    intro ok nm y hi h
    obtain ⟨v, h1, g, rfl, h2⟩ := sr.vars i _ hi
    refine wpAny_Call_Name_kw (thn ((pe_var (pos := p) (i := i) hN hv hd hcd).run pins s σ H (fun v H1 => v = .ref g ∧ H1 = H) I ⟨_, h1, rfl, rfl⟩) fun u s1 ⟨v, H1, I1, r1, q1⟩ => ?_)
    obtain ⟨ev, eH⟩ := q1
    subst ev
    rw [eH] at I1
    obtain rfl : u = Value.ref g := r1
    obtain ⟨k, pins', hk, hp, hfn, hrun⟩ := thk_now hM hs hfr I1 sr h2
    refine PySem.W.callWith_F0 (hfn s1.heap fun q hq => (hp q hq).1) ?_
    have e0 := I1.env0
    obtain ⟨P, w, K, mg, base, G, T⟩ := c
    obtain ⟨rfl, rfl, rfl, rfl, rfl⟩ := hX
    refine wpAny_call (codeAny_mono (hrun X.A X.stack s1 H F Q (WE W σ) (hr.mono hk) e0 (fun q hq => ⟨(hp q hq).1, (hp q hq).2.1⟩) .refl sr.dom sr.tab (fun hok v F' H' ev fr dm tb nF r => ?_) (fun hok C dx v F' H' hm ev fr dm tb nF hx h0 r => ?_)) fun r s2 hq => ?_)
    · subst hok
      have hp : Post _ F H [] F' H' [] := ⟨ev, fr, dm, tb, fun a ha => (nF a ha).imp id .inl, ⟨rfl, .nil, fun n a cl z => by simp at z⟩⟩
      obtain ⟨e, s⟩ := sr.called (ns := []) rfl (fun i n z => by simp at z) .nil hp
      exact h v F' α H' e s r
    · subst hok
      have hp : Post _ F H [] F' H' [] := ⟨ev, fr, dm, tb, fun a ha => (nF a ha).imp id .inl, ⟨rfl, .nil, fun n a cl z => by simp at z⟩⟩
      obtain ⟨e, s⟩ := sr.called (ns := []) rfl (fun i n z => by simp at z) .nil hp
      exact h C dx v F' α H' hm e s hx (sr.fresh0 h0) r
    · cases r with
      | error e => exact L2N.passAt tk σ pins H s1 e s2 I1 hq
      | ok fl =>
        cases fl with
        | ret u => exact I1.after hq
        | next => exact False.elim hq
        | brk => exact False.elim hq
        | cont => exact False.elim hq
  unfold actE at h
  split at h
  · rename_i nm y hi
    exact key true nm y hi h
  · rename_i nm y hi
    exact key false nm y hi h
  · exact h.elim
end
end Sh
end
section
set_option Elab.async false
set_option linter.all false
set_option maxRecDepth 100000
set_option maxHeartbeats 2000000
namespace Sh
open PySem PySem.Spec PyProof.Rows
open L2 hiding St

section
variable {c : Cn} {m : Fm} {W : WX} {σ : L2.St} {F F1 : Fz} {α α1 : List Addr} {H H1 : Hp} {st st1 : S}
theorem SR.extN (sr : SR c m st F α σ H) (e : LamX.ExtN H H1) (t : LamX.Tabs c.T H1) : Evo F α H F α H1 ∧ SR c m st F α σ H1 := by
  have k : ∀ b xs, H b = some (.lst xs) → H1 b = some (.lst xs) := fun b xs h => e b _ h fun ps z => nomatch z
  have ev : Ev F H F H1 := by
    refine ⟨fun _ h => h, fun b u f h => ?_, fun b xs h => e b _ h fun ps z => (nomatch z), fun b ob u h => e b _ h fun ps z => (nomatch z), fun b φ h => e b _ h fun ps z => (nomatch z), fun b fs h => e b _ h fun ps z => (nomatch z)⟩
    obtain ⟨xs, hx⟩ := sr.dom b f
    rw [hx] at h; cases h
    exact k b xs hx
  have evo : Evo F α H F α H1 := ⟨ev, List.prefix_rfl, fun _ h => .inl h, ⟨fun b u h _ n => e b u h n⟩, fun _ h => .inl h⟩
  refine ⟨evo, ⟨sr.len, fun i val hi => ?_, ⟨sr.cells.len, sr.cells.nd, fun n a cl ha hc => ?_⟩, sr.pre, sr.loc, fun b hb => ?_, t, ⟨fun b u h1 h2 h3 => e b u (sr.fra.keep b u h1 h2 h3) h3⟩, sr.new, sr.old, sr.ioF, sr.ioL, sr.dom0⟩⟩
  · obtain ⟨v, e1, e2⟩ := sr.vars i val hi
    exact ⟨v, e1, e2.mono evo⟩
  · have ck := sr.cells.here n a cl ha hc
    obtain ⟨vs, h2, _⟩ := ck.read
    exact ck.mono ev (fun z => z) ((k a _ h2).trans h2.symm)
  · obtain ⟨xs, h⟩ := sr.dom b hb
    exact ⟨xs, k b _ h⟩
end
/-- the context of a lambda's body, entered at s from the frames outer -/
def lamN (X : Cx) (A : Around) (outer : List Env) (s : Shared) (H : Hp) (E : XK) (scope : Scope) (f c' : Addr) : Cx :=
  { LamX.lamCx X A outer s H E scope f c' with xe := fun e s' => wpAny (model X.prog X.w) (A.deeper (LamX.lamEnv X scope s.heap.objs.size f c')) (leaving (LamX.lamEnv X scope s.heap.objs.size f c') e) (fun _ s'' => L2N.CX X.prog X.w outer H s E e s'') (fun e' s'' => L2N.CX X.prog X.w outer H s E e' s'') s' }
section
variable {X : Cx} {pins : List (Addr × Obj)} {σ : L2.St} {H HZ : Hp} {s s1 : Shared}
/-- the cells that the lambda holds -/
def CellsAt (X : Cx) (scope : Scope) (s : Shared) (pn : List (Addr × Obj)) : Prop :=
  ∀ y, (y, NameKind.free) ∈ scope.names → ∃ k o v, X.env.cells.lookup y = some k ∧ (k, o) ∈ pn ∧ s.heap.get? k = some o ∧ o.data = .cell v
theorem lam_in {A : Around} {outer : List Env} {E : XK} {scope : Scope} {f c' : Addr} {h₁ : Heap} {tk : Nat} {pn : List (Addr × Obj)} (I : Inv X pins σ H s) (L : LamX.LamS X.env.scope scope) (hc : CellsAt X scope s pn) (hp : ∀ p ∈ pn, s1.heap.get? p.1 = some p.2 ∧ HZ p.1 = none)
    (e0 : Env0 X.prog X.w X.K X.mg X.base A outer s1 HZ) (hd : A.handled = none)
    (hns : h₁.Ns s1.heap.objs.size fun y => ([] : List (Str × Value)).reverse.lookup y) (kp : ∀ b o, s1.heap.get? b = some o → h₁.get? b = some o) :
    Inv (lamN X A outer s1 HZ E scope f c') [] σ HZ { s1 with heap := h₁, toks := tk } := by
  have hfree := L.has I.ok
  -- the lambda's cells are the maker's
  have cm : ∀ {y k}, (cloFrom X.env.cells scope.names []).lookup y = some k → (y, NameKind.free) ∈ scope.names ∧ X.env.cells.lookup y = some k := fun {y k} e => by
    rcases cloFrom_mem (PySem.mem_of_lookup e) with hm | ⟨h1, h2⟩
    · cases hm
    · obtain ⟨k1, q⟩ := hfree _ h1 rfl
      have q : X.env.cells.lookup y = some k1 := q
      rw [h2, q]
      exact ⟨h1, rfl⟩
  have back : ∀ {y}, (y, NameKind.free) ∈ scope.names → ∃ k, (cloFrom X.env.cells scope.names []).lookup y = some k := fun {y} hy => mem_lookup (cloFrom_has (cells := X.env.cells) (acc := []) hy)
  have nex : ∀ b : Addr, b ∉ (lamN X A outer s1 HZ E scope f c').ex := fun b z => nomatch (show b ∈ ([] : List Addr) from z)
  have cell1 : ∀ {y k}, (y, NameKind.free) ∈ scope.names → X.env.cells.lookup y = some k → HZ k = none ∧ ∀ w, s.heap.IsCell k w → h₁.IsCell k w := fun {y k} hy e => by
    obtain ⟨k', o, w, e1, e2, e3, e4⟩ := hc y hy
    rw [e] at e1; cases e1
    obtain ⟨g1, g2⟩ := hp _ e2
    refine ⟨g2, fun w' ⟨o', q1, q2⟩ => ?_⟩
    rw [e3] at q1; cases q1
    exact ⟨o, kp _ _ g1, q2⟩
  have ok : (lamN X A outer s1 HZ E scope f c').Ok :=
    { mod := e0.mod
      kind := L.kind
      glob := rfl
      blt := rfl
      above := Nat.le_refl _
      inj := fun y z k e1 e2 => I.ok.inj y z k (cm e1).2 (cm e2).2
      has := fun y hy => by
        have hy : scope.names.lookup y = some .cell ∨ scope.names.lookup y = some .free := hy
        rcases hy with hy | hy
        · exact absurd rfl (L.own _ (PySem.mem_of_lookup hy)).2
        · exact back (PySem.mem_of_lookup hy)
      cab := fun y k z => by
        have z : false = true := z
        cases z
      hd := fun _ => hd
      frames := Around.frames_deeper e0.frames
      stk := .inr ⟨rfl, rfl⟩
      exf := fun b z => (nex b z).elim
      bs := e0.bs
      bsz := e0.bsz
      noex := fun b _ _ => nex b
      exfs := fun b z => (nex b z).elim
      funs := e0.funs
      frf := e0.frf }
  refine { ok := ok, os := rfl, bare := e0.bare, base := Un.kept kp, loc := ⟨_, hns, fun i y v e1 e2 e3 => ?_⟩, cell := fun y k e => ?_, free := e0.hok.fresh (Nat.le_refl _), freeC := fun y k e => ?_, pin := fun q hq => ?_, hok := e0.hok.kept kp, len := I.len }
  · have e3 : Vis scope y := e3
    rcases e3 with k | k | k
    · exact absurd rfl (L.own _ (PySem.mem_of_lookup k)).1
    · exact absurd rfl (L.own _ (PySem.mem_of_lookup k)).2
    · have hy := PySem.mem_of_lookup k
      have hvis : X.env.scope.names.lookup y = some .cell ∨ X.env.scope.names.lookup y = some .free := L.free _ hy rfl
      obtain ⟨mm, hn, hl⟩ := I.loc
      obtain ⟨u, r, q⟩ := hl i y v e1 e2 (.inr hvis)
      obtain ⟨k2, h2⟩ := back hy
      refine ⟨u, r, .inr ⟨.inr k, k2, h2, ?_⟩⟩
      obtain ⟨_, c1⟩ := cm h2
      rcases q with ⟨k', _⟩ | ⟨_, k3, e', z⟩
      · have k' : X.env.scope.names.lookup y = some .local := k'
        rcases hvis with z | z <;> rw [z] at k' <;> cases k'
      · rw [c1] at e'
        cases e'
        exact (cell1 hy c1).2 _ z
  · obtain ⟨hy, e2⟩ := cm e
    obtain ⟨w', z⟩ := I.cell y k e2
    exact ⟨w', (cell1 hy e2).2 _ z⟩
  · obtain ⟨hy, e2⟩ := cm e
    exact (cell1 hy e2).1
  · exact nomatch (show q ∈ ([] : List (Addr × Obj)) ++ [] from hq)
end

/-! ### x(lambda: body, ..) -/
def frzL : List Nat → S → Option (List D × S)
  | [], st => some ([], st)
  | i :: is, st => match st.v[i]? with
    | some (some v) => match toD v st with
      | some (x, st1) => match frzL is st1 with
        | some (xs, st2) => some (x :: xs, st2)
        | none => none
      | none => none
    | _ => none
def capV (nl : Nat) : List Nat → List D → List (Option Val)
  | i :: is, x :: xs => (capV nl is xs).set i (some (.d x))
  | _, _ => List.replicate nl none
def thkOf (fb : S → OE) (nl : Nat) (caps : List Nat) (xs : List D) : Option (Bool × Str × D) := match fb { v := capV nl caps xs, c := [] } with
  | .ok v st => match toD v st with
    | some (y, _) => some (true, "", y)
    | none => none
  | .exc nm y _ => some (false, nm, y)
  | .bad => none
def lamE (d : List Ar → RD) (caps : List Nat) (fb : S → OE) (fs : List (S → OE)) : S → OE := fun st => match frzL caps st with
  | none => .bad
  | some (xs, st1) => match thkOf fb st.v.length caps xs with
    | none => .bad
    | some (ok, nm, y) => (seqE fs st1).bind fun vs st2 => match toArs vs st2 with
      | some (as, ns) => if noT as then afterD ns st2 (d (.t ok nm y :: as)) else .bad
      | none => .bad
section
variable {c : Cn} {m : Fm} {W : WX} {σ : L2.St} {F F1 : Fz} {α α1 : List Addr} {H H1 : Hp} {st st1 : S}
theorem frzL_ok : ∀ {caps : List Nat} {F : Fz} {st st1 : S} {xs : List D}, SR c m st F α σ H → frzL caps st = some (xs, st1) → ∃ F', Evo F α H F' α H ∧ SR c m st1 F' α σ H ∧ st1.v = st.v ∧ ∃ vs, (∀ (j i : Nat), caps[j]? = some i → ∃ v, vs[j]? = some v ∧ σ[i]? = some (some v)) ∧ Reps c F' H xs vs ∧ xs.length = caps.length
  | [], F, st, st1, xs, sr, e => by
    cases e
    exact ⟨F, .refl, sr, rfl, [], fun j i h => by simp at h, .nil, rfl⟩
  | i :: is, F, st, st1, xs, sr, e => by
    unfold frzL at e
    split at e
    · rename_i v hv
      split at e
      · rename_i x st2 hx
        split at e
        · rename_i ys st3 hy
          cases e
          obtain ⟨u, hu, ru⟩ := sr.vars i v hv
          obtain ⟨F1, e1, s1, r1, v1⟩ := toD_ok sr ru hx
          obtain ⟨F2, e2, s2, v2, vs, h1, h2, h3⟩ := frzL_ok s1 hy
          refine ⟨F2, e1.trans e2, s2, v2.trans v1, u :: vs, fun j k hj => ?_, .cons (Rep.mono e2.ev r1) h2, congrArg (· + 1) h3⟩
          cases j with
          | zero => simp at hj; subst hj; exact ⟨u, rfl, hu⟩
          | succ j => exact h1 j k (by simpa using hj)
        · cases e
      · cases e
    · cases e
theorem capV_len (nl : Nat) : ∀ (caps : List Nat) (xs : List D), (capV nl caps xs).length = nl
  | [], _ => by simp [capV]
  | _ :: _, [] => by simp [capV]
  | i :: is, x :: xs => by simp [capV, capV_len nl is xs]
theorem capV_get (nl : Nat) : ∀ (caps : List Nat) (xs : List D) (i : Nat) (val : Val), (capV nl caps xs)[i]? = some (some val) → ∃ (j : Nat) (x : D), caps[j]? = some i ∧ xs[j]? = some x ∧ val = .d x
  | [], xs, i, val, h => by
    simp only [capV, List.getElem?_replicate] at h
    split at h <;> cases h
  | _ :: _, [], i, val, h => by
    simp only [capV, List.getElem?_replicate] at h
    split at h <;> cases h
  | k :: is, x :: xs, i, val, h => by
    simp only [capV, List.getElem?_set] at h
    split at h
    · rename_i hk
      subst hk
      split at h
      · cases h
        exact ⟨0, x, rfl, rfl, rfl⟩
      · cases h
    · obtain ⟨j, y, h1, h2, h3⟩ := capV_get nl is xs i val h
      exact ⟨j + 1, y, by simpa using h1, by simpa using h2, h3⟩
end
section
variable {X : Cx} {c : Cn} {m : Fm} {W : WX} {e : Expr} {es : List Expr} {pos p lpos : Pos} {x : Str} {f cc P : Addr} {k : Nat} {d : List Ar → RD} {fs : List (S → OE)}
/-- the cells' records, now -/
theorem cells_now {pins : List (Addr × Obj)} {s : Shared} {σ : L2.St} {H : Hp} {scope : Scope} (I : Inv X pins σ H s) (L : LamX.LamS X.env.scope scope) (hfn : ∀ y, X.fn y = true) :
    ∃ pn : List (Addr × Obj), CellsAt X scope s pn ∧ ∀ p ∈ pn, s.heap.get? p.1 = some p.2 ∧ H p.1 = none ∧ p.1 ∉ frs X.stack := by
  refine ⟨scope.names.filterMap fun y => (X.env.cells.lookup y.1).bind fun k => match s.heap.get? k with
    | some o => match o.data with
      | .cell _ => some (k, o)
      | _ => none
    | none => none, fun y hy => ?_, fun q hq => ?_⟩
  · obtain ⟨k, hk⟩ := L.has I.ok _ hy rfl
    have hk : X.env.cells.lookup y = some k := hk
    obtain ⟨v, o, ho, hd⟩ := I.cell y k hk
    refine ⟨k, o, v, hk, List.mem_filterMap.mpr ⟨_, hy, ?_⟩, ho, hd⟩
    simp only [hk, Option.bind, ho, hd]
  · obtain ⟨y, hy, e⟩ := List.mem_filterMap.mp hq
    cases hk : X.env.cells.lookup y.1 with
    | none => rw [hk] at e; cases e
    | some k =>
      rw [hk] at e
      simp only [Option.bind] at e
      split at e
      · rename_i o ho
        split at e
        · rename_i w hd
          cases e
          refine ⟨ho, I.freeC _ _ hk, fun z => ?_⟩
          rcases List.mem_cons.mp (I.stkSub _ z) with z | z
          · have z : k = X.env.locals := z
            obtain ⟨_, ⟨o2, es2, ep2, q1, q2, _⟩, _⟩ := I.loc
            rw [← z, ho] at q1; cases q1
            rw [hd] at q2; cases q2
          · obtain ⟨_, o2, q1, _⟩ := I.ok.funs.mem z
            exact absurd (Nat.lt_of_lt_of_le (Heap.lt_size q1) (I.ok.cab _ _ (hfn _) hk)) (Nat.lt_irrefl _)
        · cases e
      · cases e
theorem i_lam {params : Arguments} {body : Expr} {scope : Scope} {caps : List Nat} {fb : S → OE} (hX : CxA c X) (hfx : ∀ y, X.fn y = true) (hf : FnS c k f d) (hm : c.mg x = some (.ref f)) (hr : Room k X.A) (tk : L2N.Takes X W) (TB : LamX.TabB c.base c.mg cc P) (hcode : X.env.code = .ref cc)
    (hmT : (P, X.env.qual ++ "<lambda>") ∈ c.T) (hu : ∀ q ∈ c.T, q.1 = P → q.2 = X.env.qual ++ "<lambda>") (L : LamX.LamS X.env.scope scope)
    (hbody : ∀ (A : Around) (outer : List Env) (s : Shared) (H : Hp) (F : Fz) (E : XK) (f c' : Addr), Room 59 (A.deeper (LamX.lamEnv X scope s.heap.objs.size f c')) → L2N.Takes (lamN X A outer s H E scope f c') (fun cls d _ H => E cls d H) →
      PE (lamN X A outer s H E scope f c') body (tI c ⟨s, H, outer, F, [], none⟩ (fun cls d _ H => E cls d H) fb))
    (ha : PA X es (tA c m W (seqE fs)))
    (hdef : defaultsOf params X.env = ([], []) := by rfl)
    (hbind : ∀ (q : Str) (cl : List (Str × Addr)) (pm cv ctv : Value), bindArgs (PySem.W.kla_fn "<lambda>" q params body scope cl pm cv ctv) ⟨[], []⟩ = pure [] := by intros; rfl)
    (hk : PySem.W.keepIn c.K (.ref f) = true := by decide +kernel) (hg : Gl X x := by rfl)
    (hdb : (x == ("__debug__" : Str)) = false := by decide) (he : starEach (.Lambda params body scope lpos :: es) X.env = (false, eval (.Lambda params body scope lpos) X.env) :: starEach es X.env := by rfl) (hpl : (backTo pos (starEach es X.env)).any (·.1) = false := by rfl) :
    PE X (.Call (.Name x p) (.Lambda params body scope lpos :: es) [] pos) (tI c m W (lamE d caps fb fs)) := by
  refine ⟨fun pins s σ H Q I h => ?_⟩
  obtain ⟨st, F, α, sr, h⟩ := h
  obtain ⟨P0, w, K, mg, base, G, T⟩ := c
  obtain ⟨rfl, rfl, rfl, rfl, rfl⟩ := hX
  unfold lamE at h
  split at h
  · exact h.elim
  rename_i xs st1 hz
  split at h
  · exact h.elim
  rename_i ok nm y ht
  obtain ⟨F1, e1, s1, hv, vs, hvs, rvs, hlen⟩ := frzL_ok sr hz
  replace h := PEo.evo e1 h
  refine wpAny_Call_Name_kw (ld_glob I hg hm ?_ hdb)
  refine PySem.W.callWith_K (h₀ := X.base) I.ok.mod.kin hk ?_ he hpl
  rw [he]
  show wpAny _ _ (spliced ((false, eval (.Lambda params body scope lpos) X.env) :: backTo pos (starEach es X.env))) _ _ s
  refine Calls.spliced_cons (LamX.lam_make2 I TB hcode hmT hu sr.tab hdef (L.has I.ok) fun g c' pm' ctv H1 s' I1 eN T1 hg' hgn hgr hco => ?_)
  obtain ⟨e2, s2⟩ := s1.extN eN T1
  have I2 : Inv X ((g, PySem.W.kla_obj "<lambda>" (X.env.qual ++ "<lambda>") params body scope (cloFrom X.env.cells scope.names []) pm' c' ctv) :: pins) σ H1 s' := I1.pins_of fun q hq => by
    rcases List.mem_cons.mp hq with rfl | hq
    · refine ⟨hg', hgn, fun z => ?_, fun z => hgr ?_, fun v z => ?_⟩
      · obtain ⟨_, ⟨o2, es2, ep2, q1, q2, _⟩, _⟩ := I1.loc
        have z : g = X.env.locals := z
        rw [← z, hg'] at q1; cases q1
        cases q2
      · have z : g ∈ frs X.outer := z
        rcases I1.ok.stk with e | ⟨e, _⟩
        · rw [e]; exact z
        · rw [e]
          obtain ⟨en, h1, h2⟩ := List.mem_filterMap.mp z
          exact List.mem_filterMap.mpr ⟨en, List.mem_cons_of_mem _ h1, h2⟩
      · cases z
    · exact I1.pin q (List.mem_append_right _ hq)
  refine thn (ha.run pos _ s' σ H1 (fun ws H3 => ∃ as F3 io st3 α3, Evo F1 α H1 F3 α3 H3 ∧ SR (⟨X.prog, X.w, X.K, X.mg, X.base, G, T⟩ : Cn) m st3 F3 α3 σ H3 ∧ (∀ tp, ArgsOk (⟨X.prog, X.w, X.K, X.mg, X.base, G, T⟩ : Cn) tp F3 H3 as ws io) ∧ io.Nodup ∧ RDo (⟨X.prog, X.w, X.K, X.mg, X.base, G, T⟩ : Cn) F3 H3 io Q (WE W σ) (d (.t ok nm y :: as))) I2 ?_) fun us s3 ⟨ws, H3, I3, r3, q3⟩ => ?_
  · refine kA pstE s2 (PEo.evo e2 h) fun vs st3 ws F3 α3 H3 e3 s3 r1 p1 => ?_
    split at p1
    · rename_i as ns hq
      split at p1
      · rename_i hn
        obtain ⟨io, h1, h2, h3, h4, h5⟩ := toArs_ok s3 r1 hq
        exact ⟨as, F3, io, st3, α3, e3, s3, fun tp => noT_ok h1 hn, h5, after_ok s3 h2 h3 h4 p1⟩
      · exact p1.elim
    · exact p1.elim
  · obtain ⟨as, F3, io, st3, α3, e3, s3', h1, h2, h3⟩ := q3
    have I3' : Inv X pins σ H3 s3 := I3.pins_of fun q hq => I3.pin q (List.mem_append_right _ (List.mem_cons_of_mem _ hq))
    refine ⟨I3.kIn, ?_⟩
    obtain ⟨pn, hcells, hpn⟩ := cells_now I3' L hfx
    have pg := I3.pin _ (List.mem_append_right _ List.mem_cons_self)
    have hco3 := e3.ev.exts _ _ hco
    refine run_FnS (c := ⟨X.prog, X.w, X.K, X.mg, X.base, G, T⟩) ⟨rfl, rfl, rfl, rfl, rfl⟩ hf hr tk I3' s3'.dom s3'.tab (.t ⟨60, ((g, PySem.W.kla_obj "<lambda>" (X.env.qual ++ "<lambda>") params body scope (cloFrom X.env.cells scope.names []) pm' c' ctv) : Addr × Obj) :: pn, Nat.le_refl _, fun q hq => ?_, fun hh hq => ⟨_, _, _, _, hq _ List.mem_cons_self⟩, ?_⟩ (h1 _)) h2 (.cons rfl r3) h3
    · rcases List.mem_cons.mp hq with rfl | hq
      · refine ⟨pg.1, pg.2.1, fun z => ?_⟩
        rcases List.mem_cons.mp (I3.stkSub _ z) with z | z
        · exact pg.2.2.1 z
        · exact pg.2.2.2.1 z
      · exact hpn q hq
    · intro A outer' s4 H4 F4 Q' E r e0 hp4 ev dm tb k1 k2
      have hco4 := ev.exts _ _ hco3
      obtain ⟨⟨oc, ov, t, hoc, hdc, hvc⟩, _, _⟩ := e0.hok c' _ hco4
      refine PySem.W.kla_callFunE r.depth (hp4 _ List.mem_cons_self).1 rfl L.co L.gen rfl ⟨c', oc, ov, t, rfl, hoc, hdc, hvc⟩ ?_
      rw [hbind]
      have nl : s4.heap.NoLimit := e0.mod.nolimit.keeps fun b o e => (e0.bs b o e).1
      refine wpAny_pure (wpAny_newFunctionEnv (fun y hy => (L.own y hy).2) (fun y hy => absurd hy (by simp)) (fun h₁ hns hsb => ⟨nl.fresh _ hsb, ?_⟩) L.kind)
      show codeAny _ _ (.expr body (LamX.lamEnv X scope s4.heap.objs.size g c')) _ _
      have kp : ∀ b o, s4.heap.get? b = some o → h₁.get? b = some o := fun b o e => hsb.extBut b o (Nat.ne_of_lt (Heap.lt_size e)) (Heap.get?_push_of_some _ e)
      have J : Inv (lamN X A outer' s4 H4 E scope g c') [] σ H4 { s4 with heap := h₁, toks := s4.toks + ([] : List (Str × Value)).length } :=
        lam_in I3' L hcells (fun q hq => hp4 q (List.mem_cons_of_mem _ hq)) e0 r.hd hns kp
      have rv4 := Reps.mono ev (Reps.mono e3.ev (Reps.mono e2.ev rvs))
      have sr4 : SR ⟨X.prog, X.w, X.K, X.mg, X.base, G, T⟩ ⟨s4, H4, outer', F4, [], none⟩ { v := capV st.v.length caps xs, c := [] } F4 [] σ H4 := by
        refine ⟨by rw [capV_len]; exact sr.len, fun i val hi => ?_, ⟨rfl, .nil, fun n a cl z => by simp at z⟩, List.prefix_rfl, fun a z => (nomatch z), dm, tb, .refl, fun a z => .inl z, fun a z => z, fun a z => (nomatch z), fun a z => (nomatch z), dm⟩
        obtain ⟨j, x, q1, q2, rfl⟩ := capV_get _ _ _ _ _ hi
        obtain ⟨v, q3, q4⟩ := hvs j i q1
        obtain ⟨v', q5, q6⟩ := rv4.get q2
        rw [q3] at q5; cases q5
        exact ⟨v, q4, q6⟩
      refine PySem.W.kla_codeExpr (wpAny_mono ((hbody A outer' s4 H4 F4 E g c' (r.deeper _) (L2N.takes_of rfl rfl rfl rfl)).run [] _ _ H4 Q' J ⟨_, F4, [], sr4, ?_⟩) (fun v s' hq => ?_) fun e s' hq => hq)
      · unfold thkOf at ht
        generalize fb { v := capV st.v.length caps xs, c := [] } = o at ht ⊢
        cases o with
        | bad => cases ht
        | exc nm' y' st' =>
          cases ht
          intro C dx v F' α' H' hm e s hx h0 r
          exact k2 rfl C dx v F' H' hm e.ev e.fr s.dom s.tab (fun a ha => (e.nF a ha).imp id fun z => z.resolve_right fun w => nomatch w) hx h0 r
        | ok v st' =>
          simp only at ht
          split at ht
          · rename_i y' st5 hy
            cases ht
            intro x F' α' H' e s r
            obtain ⟨F5, e5, s5, r5, _⟩ := toD_ok s r hy
            have e6 := e.trans e5
            exact k1 rfl x F5 H' e6.ev e6.fr s5.dom s5.tab (fun a ha => (e6.nF a ha).imp id fun z => z.resolve_right fun w => nomatch w) r5
          · cases ht
      · obtain ⟨w', H', J', rv, q⟩ := hq
        exact ⟨w', H', J'.os, J'.bare, J'.base, J'.hok, rv, q⟩
end
end Sh
end
section
set_option Elab.async false
set_option linter.all false
set_option maxRecDepth 100000
set_option maxHeartbeats 2000000
namespace Sh
open PySem PySem.Spec PyProof.Rows
open L2 hiding St

/-! ### a list comprehension while an exception is handled -/
section
variable {prog : Program} {w : World} {A : Around} {E : Value → Shared → Prop} {s : Shared}
open PyProof.Rows in
theorem next_end_hot {it l x1 : Addr} {i : Nat} {items : Array Value} {Q : Option Value → Shared → Prop} (hot : HotX.HotAt A x1 s.heap) (hit : s.heap.IsListIter it l i) (hl : s.heap.IsList l items) (hx : items[i]? = none) (n1 : x1 ≠ it)
    (hQ : ∀ h', Heap.ExtBut it s.heap h' → Q none { s with heap := h' }) : wpAny (model prog w) A (pyNext (.ref it)) Q E s := by
  obtain ⟨o, ho, hc, hd⟩ := id hit
  obtain ⟨ol, hol, _, nl, hdl⟩ := hl
  obtain ⟨hh, o1, vs1, h1, d1, c1⟩ := hot
  unfold pyNext; refine wpAny_bind (wpAny_attempt (wpAny_callSpecial?_slot (name := Str.ofString "__next__") hit.typeIs slot_listiter_next (wpAny_call_entry slot_listiter_next hit.typeIs entry_listiter_next ?_ (args_listiter_next _))))
  show wpAny _ _ (field (.ref it) 0 >>= _) _ _ s; refine wpAny_bind (wpAny_field ho hd (x := .ref l) rfl ?_)
  show wpAny _ _ (if (Value.ref l == Value.none) = true then _ else _) _ _ s; rw [if_neg (show ¬ ((Value.ref l == Value.none) = true) from Bool.false_ne_true)]
  show wpAny _ _ (field (.ref it) 1 >>= _) _ _ s; refine wpAny_bind (wpAny_field ho hd (x := .int i 0) rfl ?_)
  show wpAny _ _ (seqItems? (.ref l) >>= _) _ _ s; refine wpAny_bind (wpAny_seqItems hol hdl ?_)
  simp only [Int.toNat_natCast, hx]
  refine wpAny_bind (wpAny_rule (wpAny_bind (wpAny_setField ho hd (by simp) ?_)))
  show wpAny _ _ (newExc (.type "StopIteration") [] >>= _) _ _ _; refine wpAny_bind ?_
  simp only [newExc, newTuple]
  refine wpAny_bind (wpAny_newObj_type ?_ (by size_fits)); refine wpAny_bind (m := firstArgMember _ _) (wpAny_of_eq (a := Value.none) (by first | rfl | (simp only [firstArgMember]; rfl)) ?_)
  refine wpAny_newObj_type ?_ (by size_fits)
  have k1 : (s.heap.update it (Obj.mapFields (·.setIfInBounds 0 Value.none))).get? x1 = some o1 := (Heap.get?_update_other _ _ (Ne.symm n1)).trans h1
  refine HotX.raiseNew_hot (x1 := x1) ⟨hh, o1, vs1, Heap.get?_push_of_some _ (Heap.get?_push_of_some _ k1), d1, c1⟩ (Nat.ne_of_lt (Heap.lt_size (Heap.get?_push_of_some _ k1))) (Heap.get?_push_size _ rfl) rfl (by first | (simp; done) | (simp; omega) | (simp only [Array.size_append]; simp; omega)) ?_
  refine wpAny_bind (wpAny_isInstance (T := "StopIteration") (b := true) ⟨_, Heap.get?_update_self _ (Heap.get?_push_size _ rfl) rfl, rfl⟩ isSubtype_stop ?_)
  refine wpAny_pure (hQ _ fun b o hb e => ?_)
  have k2 := (Heap.get?_update_other (b := b) s.heap (Obj.mapFields (·.setIfInBounds 0 Value.none)) (Ne.symm hb)).trans e
  rw [Heap.get?_update_other _ _ (Nat.ne_of_gt (Heap.lt_size (Heap.get?_push_of_some _ k2)))]
  exact Heap.get?_push_of_some _ (Heap.get?_push_of_some _ k2)
end
/-- the handled error's record stands -/
def HotI (X : Cx) : Prop := ∀ (pins : List (Addr × Obj)) (σ : L2.St) (H : Hp) (s : Shared), Inv X pins σ H s → ∃ x1, HotX.HotAt X.A x1 s.heap
theorem hotI_of {X : Cx} (h : L2H.HotC X) : HotI X := fun pins σ H s I => h.at I
section
variable {prog : Program} {w : World} {A : Around} {E : Value → Shared → Prop} {s : Shared}
open PyProof.Rows in
theorem next_tend_hot {it l x1 : Addr} {i : Nat} {items : Array Value} {Q : Option Value → Shared → Prop} (hot : HotX.HotAt A x1 s.heap) (hit : IsTupIter s.heap it l i) (hl : IsTup s.heap l items) (hx : items[i]? = none) (n1 : x1 ≠ it)
    (hQ : ∀ h', Heap.ExtBut it s.heap h' → Q none { s with heap := h' }) : wpAny (model prog w) A (pyNext (.ref it)) Q E s := by
  obtain ⟨o, ho, hc, hd⟩ := id hit
  obtain ⟨ol, hol, _, nl, hdl⟩ := hl
  obtain ⟨hh, o1, vs1, h1, d1, c1⟩ := hot
  have hT : s.TypeIs (.ref it) "tuple_iterator" := ⟨o, ho, hc⟩
  unfold pyNext; refine wpAny_bind (wpAny_attempt (wpAny_callSpecial?_slot (name := Str.ofString "__next__") hT F.slot_tuple_iterator_next (wpAny_call_entry F.slot_tuple_iterator_next hT F.entry_tuple_iterator_next ?_ (F.args_tuple_iterator_next_1 _))))
  show wpAny _ _ (field (.ref it) 0 >>= _) _ _ s; refine wpAny_bind (wpAny_field ho hd (x := .ref l) rfl ?_)
  show wpAny _ _ (if (Value.ref l == Value.none) = true then _ else _) _ _ s; rw [if_neg (show ¬ ((Value.ref l == Value.none) = true) from Bool.false_ne_true)]
  show wpAny _ _ (field (.ref it) 1 >>= _) _ _ s; refine wpAny_bind (wpAny_field ho hd (x := .int i 0) rfl ?_)
  show wpAny _ _ (seqItems? (.ref l) >>= _) _ _ s; refine wpAny_bind (wpAny_seqItems hol hdl ?_)
  simp only [Int.toNat_natCast, hx]
  refine wpAny_bind (wpAny_rule (wpAny_bind (wpAny_setField ho hd (by simp) ?_)))
  show wpAny _ _ (newExc (.type "StopIteration") [] >>= _) _ _ _; refine wpAny_bind ?_
  simp only [newExc, newTuple]
  refine wpAny_bind (wpAny_newObj_type ?_ (by size_fits)); refine wpAny_bind (m := firstArgMember _ _) (wpAny_of_eq (a := Value.none) (by first | rfl | (simp only [firstArgMember]; rfl)) ?_)
  refine wpAny_newObj_type ?_ (by size_fits)
  have k1 : (s.heap.update it (Obj.mapFields (·.setIfInBounds 0 Value.none))).get? x1 = some o1 := (Heap.get?_update_other _ _ (Ne.symm n1)).trans h1
  refine HotX.raiseNew_hot (x1 := x1) ⟨hh, o1, vs1, Heap.get?_push_of_some _ (Heap.get?_push_of_some _ k1), d1, c1⟩ (Nat.ne_of_lt (Heap.lt_size (Heap.get?_push_of_some _ k1))) (Heap.get?_push_size _ rfl) rfl (by first | (simp; done) | (simp; omega) | (simp only [Array.size_append]; simp; omega)) ?_
  refine wpAny_bind (wpAny_isInstance (T := "StopIteration") (b := true) ⟨_, Heap.get?_update_self _ (Heap.get?_push_size _ rfl) rfl, rfl⟩ isSubtype_stop ?_)
  refine wpAny_pure (hQ _ fun b o hb e => ?_)
  have k2 := (Heap.get?_update_other (b := b) s.heap (Obj.mapFields (·.setIfInBounds 0 Value.none)) (Ne.symm hb)).trans e
  rw [Heap.get?_update_other _ _ (Nat.ne_of_gt (Heap.lt_size (Heap.get?_push_of_some _ k2)))]
  exact Heap.get?_push_of_some _ (Heap.get?_push_of_some _ k2)
open PyProof.Rows in
theorem unpackItems_hot {t x1 : Addr} {items : Array Value} {Q : List Value → Shared → Prop} (hot : HotX.HotAt A x1 s.heap) (ht : IsTup s.heap t items)
    (hQ : ∀ h', Heap.ExtBut s.heap.objs.size s.heap h' → Q items.toList { s with heap := h' }) : wpAny (model prog w) A (unpackItems (.ref t) items.size none) Q E s := by
  have hlt : t ≠ s.heap.objs.size := by obtain ⟨o, ho, _⟩ := ht; exact Nat.ne_of_lt (Heap.lt_size ho)
  have hx1 : x1 ≠ s.heap.objs.size := by obtain ⟨_, o, _, ho, _⟩ := hot; exact Nat.ne_of_lt (Heap.lt_size ho)
  unfold unpackItems; refine wpAny_bind ?_
  unfold notIterableAtAll; refine wpAny_bind (wpAny_specialOf ht.typeIs slot_tuple_iter.lookup ?_)
  refine wpAny_pure ?_; simp only [Bool.false_eq_true, if_false]
  refine wpAny_bind (wpAny_holding (iter_tuple ht ?_)); refine wpAny_bind (wpAny_holding (draw_tuple hlt items.size 0 _ _ ⟨_, Heap.get?_push_size _ rfl, rfl, rfl⟩ (ht.push _) (by omega) fun h₁ hit₁ hs₁ => ?_))
  rw [show List.take items.size (List.drop 0 items.toList) = items.toList by rw [List.drop_zero]; exact List.take_of_length_le (by simp), if_neg (by simp)]
  have ht₁ : IsTup h₁ t items := (ht.push _).extBut hs₁.extBut hlt
  have hot₁ : HotX.HotAt A x1 h₁ := by
    obtain ⟨hh, o, vs, e, d, k⟩ := hot
    exact ⟨hh, o, vs, hs₁.extBut x1 o hx1 (Heap.get?_push_of_some _ e), d, k⟩
  refine wpAny_bind (wpAny_holding (next_tend_hot (s := { s with heap := h₁ }) hot₁ hit₁ ht₁ (by simp) hx1 fun h₂ he₂ => ?_)); simp only [Option.isSome_none, Bool.false_eq_true, if_false]
  exact wpAny_pure (hQ h₂ fun b o hb e => he₂ b o hb (hs₁.extBut b o hb (Heap.get?_push_of_some _ e)))
open PyProof.Rows in
theorem assign_hot {env : Env} {elts : List Expr} {x0 : Nat} {pos : Pos} {t x1 : Addr} {items : Array Value} {Q : Unit → Shared → Prop} (hot : HotX.HotAt A x1 s.heap) (ht : IsTup s.heap t items) (hn : (assignEach elts env).length = items.size) (hstar : (assignEach elts env).findIdx? (·.1) = none)
    (h : ∀ h', Heap.ExtBut s.heap.objs.size s.heap h' → wpAny (model prog w) A (assignInOrder ((assignEach elts env).map (·.2)) items.toList) Q E { s with heap := h' }) : wpAny (model prog w) A (assign (.Tuple elts x0 pos) env (.ref t)) Q E s := by
  rw [assign_Tuple]; refine wpAny_bind (wpAny_standAt ?_)
  unfold unpack; rw [hn, hstar]
  exact wpAny_bind (wpAny_holding (unpackItems_hot hot ht h))
end
theorem pg_tupH {X : Cx} {es : List Expr} {k : Nat} {t : TGs} {n : Nat} {pos : Pos} (hot : HotI X) (h : PGs X es t) (hn : (assignEach es X.env).length = n := by rfl) (hst : (assignEach es X.env).findIdx? (·.1) = none := by rfl) : PG X (.Tuple es k pos) (gTup X.K n t) := by
  refine ⟨fun pins s σ H v u Q I r ⟨a, xs, e1, hq, hl, hw⟩ => ?_⟩
  subst e1; cases r
  obtain ⟨its, rv, ht, hz⟩ := I.tuple hq
  obtain ⟨x1, hx1⟩ := hot _ _ _ _ I
  refine assign_hot hx1 ht (by simp [hn, ← hl, rv.length]) hst fun h' hx => ?_
  exact h.run pins _ σ H xs _ Q (I.kept (t' := s.toks) fun b o e => hx b o (Nat.ne_of_lt (Heap.lt_size e)) e) (by simpa using rv) hw
theorem g_tupH {X : Cx} {c : Cn} {m : Fm} {es : List Expr} {pos : Pos} {h : List D → S → Option S} {k n : Nat} {ws : List Nat} (hK : X.K = c.K) (hot : HotI X) (hh : PGs X es (tGs c m ws h)) (hn : (assignEach es X.env).length = n := by rfl) (hst : (assignEach es X.env).findIdx? (·.1) = none := by rfl) : PG X (.Tuple es k pos) (tG c m ws (tupT n h)) :=
  PG_imp (pg_tupH hot hh hn hst) fun v σ H Q ⟨st, F, α, x, sr, r, p⟩ => by
    unfold tupT at p
    cases r with
    | @tup a vs xs q r =>
      simp only at p
      split at p
      · rename_i st1 hq
        split at hq
        · rename_i hl
          rw [hK]
          refine ⟨a, vs, rfl, q, by rw [← r.len]; exact hl, st, F, α, xs, sr, r, ?_⟩
          rw [hq]
          exact p
        · cases hq
      · exact p.elim
    | _ => exact p.elim
section
variable {X : Cx} {σ : L2.St} {H : Hp} {tl te : TE} {g : TG} {tt : TT}
/-- [elt for tg in list if ..], an exception being handled -/
theorem pe_lcH {elt tg l : Expr} {ifs : List Expr} {scope : Scope} {own : List (Str × Nat)} {pos : Pos} (hot : L2H.HotC X) (hN : X.N.Nodup) (hl : PE X l tl) (ok : BlkOk X.N X.env.scope scope own)
    (hg : ∀ s H C cl fp, HotI (X.blk s H scope (compEnvC scope cl C X.env) fp) → PG (X.blk s H scope (compEnvC scope cl C X.env) fp) tg g) (ht : ∀ s H C cl fp, HotI (X.blk s H scope (compEnvC scope cl C X.env) fp) → PTs (X.blk s H scope (compEnvC scope cl C X.env) fp) ifs tt)
    (he : ∀ s H C cl fp, HotI (X.blk s H scope (compEnvC scope cl C X.env) fp) → PE (X.blk s H scope (compEnvC scope cl C X.env) fp) elt te) (hs : ∀ x, foldedSetIterable l X.env x = pure x := by intro _; rfl) :
    PE X (.ListComp elt [⟨tg, l, ifs, 0⟩] scope pos) (tLc (iList X.K tl) g tt te (own.map (·.2))) := by
  refine ⟨fun pins s σ H Q I h => ?_⟩
  rw [eval_ListComp]
  have caps : ∀ y ∈ scope.names, y.2 = .free → ∃ k, X.env.cells.lookup y.1 = some k := fun y hy e => (ok.free y hy e).elim (fun k => I.ok.has _ (.inl k)) fun k => I.ok.has _ (.inr k)
  refine wpAny_comprehension_free (use := none) rfl hs (closure_ok caps) ok.kind (fun y hy e => by rw [ok.uniq y hy, e]) (thn (hl.run pins s σ H _ I h) fun v s1 ⟨x, H1, I1, r1, a, ex, ⟨xs0, hq0⟩, q⟩ => ?_)
  subst ex; cases r1
  obtain ⟨its0, _, pl0, _⟩ := I1.list hq0
  refine wpAny_pyIter_list pl0.isList ?_
  -- the iterator
  generalize hit : s1.heap.objs.size = it
  generalize hs2 : ({ s1 with heap := s1.heap.push { cls := .type "list_iterator", data := .fields #[.ref a, rawInt 0] } } : Shared) = s2
  have e2 : s2.heap = s1.heap.push { cls := .type "list_iterator", data := .fields #[.ref a, rawInt 0] } := by rw [← hs2]
  have I2 : Inv X pins σ H1 s2 := by rw [← hs2]; exact I1.kept (t' := s1.toks) fun b o e => Heap.get?_push_of_some _ e
  have t2 : s2.heap.IsListIter it a 0 := by rw [e2, ← hit]; exact ⟨_, Heap.get?_push_size _ rfl, rfl, rfl⟩
  have fit : FpOk X pins H1 it := by rw [← hit]; exact I1.fpOk (Nat.le_refl _) (I1.hok.fresh (Nat.le_refl _))
  have lit : it < s2.heap.objs.size := by rw [e2, Heap.size_push, hit]; exact Nat.lt_succ_self _
  obtain ⟨x1, hot2⟩ := hot.at I2
  obtain ⟨p1, ⟨hh1, w1, d1, c1⟩, hp1⟩ := hot
  have pin1 := I2.pin p1 (List.mem_append_left _ hp1)
  refine wpAny_newObj_type (newEnv_comp ?_) (by show 0 ≤ sizeLine; decide)
  generalize hD : s2.heap.objs.size = Dl
  have nD : H1 Dl = none := I2.hok.fresh (Nat.le_of_eq hD)
  obtain ⟨Wt, ⟨m0, w0⟩, turn⟩ := q Dl nD
  generalize hs3 : ({ s2 with heap := s2.heap.push { cls := .type "list", data := .seq ([] : List Value).toArray } } : Shared) = s3
  have e3 : s3.heap = s2.heap.push { cls := .type "list", data := .seq ([] : List Value).toArray } := by rw [← hs3]
  generalize hH3 : upd H1 Dl (.lst []) = H3 at w0
  have I3 : Inv X pins σ H3 s3 := by
    rw [← hs3, ← hH3]; exact I2.laid (t' := s2.toks) (fun b o e => Heap.get?_push_of_some _ e) (Nat.le_of_eq hD) ⟨Nat.zero_le _, [], 0, .nil, by rw [← hD]; exact Heap.get?_push_size _ rfl⟩
  have pin3 := I3.pin p1 (List.mem_append_left _ hp1)
  have fit3 : FpOk X pins H3 it := ⟨by rw [← hH3, upd_ne (by rw [← hD]; exact Nat.ne_of_lt lit)]; exact fit.1, fit.2⟩
  have lit3 : it < s3.heap.objs.size := by rw [e3, Heap.size_push]; exact Nat.lt_succ_of_lt lit
  have t3 : s3.heap.IsListIter it a 0 := t2.at fun o e => by rw [e3]; exact Heap.get?_push_of_some _ e
  have I4 := block_start (fp := [it]) I3 ok hN fun b hb => by rw [List.mem_singleton.mp hb]; exact ⟨fit3, lit3⟩
  have nit0 : p1.1 ≠ it := fit3.2.2.2.2.2 p1 (List.mem_append_left _ hp1)
  have hI : HotI (X.blk s3 H3 scope (compEnvC scope (cellsFrom (s3.heap.objs.size + 1) scope.names (cloFrom X.env.cells scope.names [])) s3.heap.objs.size X.env) [it]) := fun pins' σ' H' s' I' => by
    refine ⟨p1.1, hh1, p1.2, w1, I'.base.keep p1.1 p1.2 pin3.1 pin3.2.1 (fun z => ?_) fun z => nit0 (List.mem_singleton.mp z), d1, c1⟩
    rcases List.mem_cons.mp (I3.stkSub _ z) with z | z
    · exact pin3.2.2.1 z
    · exact pin3.2.2.2.1 z
  have pg := hg s3 H3 s3.heap.objs.size (cellsFrom (s3.heap.objs.size + 1) scope.names (cloFrom X.env.cells scope.names [])) [it] hI
  have pt := ht s3 H3 s3.heap.objs.size (cellsFrom (s3.heap.objs.size + 1) scope.names (cloFrom X.env.cells scope.names [])) [it] hI
  have pe := he s3 H3 s3.heap.objs.size (cellsFrom (s3.heap.objs.size + 1) scope.names (cloFrom X.env.cells scope.names [])) [it] hI
  clear hI
  generalize hC : s3.heap.objs.size = C at I4 pg pt pe
  generalize hce : compEnvC scope (cellsFrom (C + 1) scope.names (cloFrom X.env.cells scope.names [])) C X.env = ce at I4 pg pt pe
  have cL : ce.locals = C := by rw [← hce] <;> rfl
  generalize hY : X.blk s3 H3 scope ce [it] = Y at I4 pg pt pe
  have yP : Y.prog = X.prog := by rw [← hY]
  generalize hs4 : ({ s3 with heap := pushCells (s3.heap.push { cls := .type "dict", data := .dict #[] }) scope.names } : Shared) = s4 at I4
  have t4 : s4.heap.IsListIter it a 0 := t3.at fun o e => by rw [← hs4]; exact pushCells_keeps _ _ _ _ (Heap.get?_push_of_some _ e)
  -- the iterator's place, the handled one's
  have stat : ∀ {σ' : L2.St} {H' : Hp} {s' : Shared}, Inv Y [] σ' H' s' → H' it = none → FpOk Y [] H' it := fun {σ' H' s'} I' hn => by
    subst hY
    exact ⟨hn, (I'.ok.exf it List.mem_cons_self).1, I'.ok.exfs it List.mem_cons_self, .inl List.mem_cons_self, fun x c e => (I'.ok.exf it List.mem_cons_self).2 x c e, fun p hp => nomatch (show p ∈ ([] : List (Addr × Obj)) ++ [] from hp)⟩
  have nit : p1.1 ≠ it := fit3.2.2.2.2.2 p1 (List.mem_append_left _ hp1)
  have hotY : ∀ {σ' : L2.St} {H' : Hp} {s' : Shared}, Inv Y [] σ' H' s' → HotX.HotAt X.A p1.1 s'.heap := fun {σ' H' s'} I' => by
    subst hY
    refine ⟨hh1, p1.2, w1, ?_, d1, c1⟩
    refine I'.base.keep p1.1 p1.2 pin3.1 pin3.2.1 (fun z => ?_) fun z => nit (List.mem_singleton.mp z)
    rcases List.mem_cons.mp (I3.stkSub _ z) with z | z
    · exact pin3.2.2.1 z
    · exact pin3.2.2.2.1 z
  have list_at : ∀ {σ' : L2.St} {H' : Hp} {s' : Shared} {ys : List V}, Inv Y [] σ' H' s' → SqL X.K H' a ys → ∃ its : List Value, Vals ys its ∧ PlainL s'.heap a its.toArray := fun {σ' H' s' ys} I' hq => by
    subst hY
    obtain ⟨its, r, p, _⟩ := I'.list hq
    exact ⟨its, r, p⟩
  have inj_at : ∀ {σ' : L2.St} {H' : Hp} {s' : Shared} {ys zs : List V}, Inv Y [] σ' H' s' → SqL X.K H' a ys → SqL X.K H' a zs → ys = zs := fun {σ' H' s' ys zs} I' h1 h2 => by
    subst hY
    exact I'.list_inj h1 h2
  have loop : codeAny (model X.prog X.w) X.A (.compLoop (.ListComp elt [⟨tg, l, ifs, 0⟩] scope pos) 0 (.ref it) (.ref Dl) ce) (compPost (model X.prog X.w) X.A X.xe none (EP X pins σ Q) (.ref Dl) C) s4 := by
    refine compLoop_any (fun n s' => ∃ i H', Inv Y [] (L2.wipe σ (own.map (·.2))) H' s' ∧ s'.heap.IsListIter it a i ∧ H' it = none ∧ Wt i n H') ?_ m0 ⟨0, H3, I4, t4, fit3.1, w0⟩
    rintro n s5 ⟨i, H5, I5, t5, n5, w5⟩
    have fY := stat I5 n5
    rcases turn i n H5 w5 with ⟨⟨ys, hys, hle⟩, qq⟩ | ⟨⟨ys, y, hys, hy⟩, Nx, hNx, step⟩
    · obtain ⟨its, rv, p⟩ := list_at I5 hys
      have hlen := rv.length
      refine next_end_hot (hotY I5) t5 p.isList (by simp; omega) nit fun h' eb => ?_
      have I6 : Inv Y [] (L2.wipe σ (own.map (·.2))) H5 { s5 with heap := h' } := I5.turned (t' := s5.toks) (fun b o hb e => eb b o hb e) fY.1 fY.2.1 fY.2.2.2.1 fY.2.2.2.2.1 fY.2.2.2.2.2
      subst hY
      have I7 : Inv X pins σ H5 { s5 with heap := h' } := I3.call' (ch := [it]) I6.os I6.base I6.hok I6.bare fun b hb => by rw [List.mem_singleton.mp hb]; exact ⟨fit3.2.2.2.1, fit3.2.1, fit3.2.2.2.2.1, fit3.2.2.2.2.2⟩
      have nC : H5 C = none := by rw [← cL]; exact I6.free
      obtain ⟨mm, hn, _⟩ := I6.loc
      have hn : Heap.Ns h' ce.locals mm := hn
      rw [cL] at hn
      refine ⟨mm, hn, fun h'' sb => ?_⟩
      obtain ⟨z0, z1, z2, z3, z4, z5⟩ := I3.fpOk (Nat.le_of_eq hC) nC
      exact ⟨.ref Dl, H5, I7.turned (t' := s5.toks) (fun b o hb e => (sb.2 b hb).trans e) z0 z1 z3 z4 z5, rfl, qq⟩
    · obtain ⟨its, rv, p⟩ := list_at I5 hys
      obtain ⟨u, hu, ru⟩ := rv.get hy
      refine wpAny_pyNext_list_item t5 p.isList (x := u) (by simpa using hu) fun h' t6 sb => ?_
      have I6 : Inv Y [] (L2.wipe σ (own.map (·.2))) H5 { s5 with heap := h' } := I5.turned (t' := s5.toks) (fun b o hb e => (sb.2 b hb).trans e) fY.1 fY.2.1 fY.2.2.2.1 fY.2.2.2.2.1 fY.2.2.2.2.2
      obtain ⟨oi, oe, oc, od⟩ := id t6
      refine go_of (s := { s5 with heap := h' }) oe oc od (by decide) ?_
      have I6' : Inv Y [(it, oi)] (L2.wipe σ (own.map (·.2))) H5 { s5 with heap := h' } := I6.pins_of fun q hq => by
        rw [List.mem_singleton.mp hq]; exact ⟨oe, n5, fY.2.1, fY.2.2.1, fun v z => by rw [od] at z; cases z⟩
      have stp := step y H5 ⟨rfl, fun zs hz => by rw [inj_at I5 hz hys]; exact hy⟩
      subst hY
      refine thnF (pg.run _ _ _ H5 y u _ I6' ru stp) fun _ s8 ⟨σ8, H8, I8, hw8, q8⟩ => ?_
      refine thnF (pt.run _ s8 σ8 H8 _ I8 q8) fun b s9 ⟨H9, I9, q9⟩ => ?_
      have fin : ∀ {s' : Shared} {H' : Hp}, Inv (X.blk s3 H3 scope ce [it]) [(it, oi)] σ8 H' s' → Nx H' → ∃ k, k < n ∧ ∃ i H', Inv (X.blk s3 H3 scope ce [it]) [] (L2.wipe σ (own.map (·.2))) H' s' ∧ s'.heap.IsListIter it a i ∧ H' it = none ∧ Wt i k H' := fun {s' H'} I' nx => by
        obtain ⟨k, hk, w'⟩ := hNx H' nx
        have pz := I'.pin (it, oi) (List.mem_append_right _ List.mem_cons_self)
        have hl8 : (L2.wipe σ (own.map (·.2))).length = σ8.length := by rw [← hw8, wipe_length]
        have I0 : Inv (X.blk s3 H3 scope ce [it]) [] σ8 H' s' := I'.pins_of fun q hq => nomatch hq
        exact ⟨k, hk, i + 1, H', I0.weak hl8 fun j v e => by rw [← hw8] at e; exact (wipe_some e).1, t6.at fun o e => by rw [oe] at e; cases e; exact pz.1, pz.2.1, w'⟩
      cases b with
      | false => exact fin I9 q9
      | true =>
        rw [if_pos rfl] at q9 ⊢
        refine thnF (pe.run _ s9 σ8 H9 _ I9 q9) fun z s10 ⟨yv, H10, I10, r10, acc, hD10, hz10, nx⟩ => ?_
        exact app_ok (X := X.blk s3 H3 scope ce [it]) I10 hD10 hz10 r10 fun s11 I11 => fin I11 nx
  have fin := codeAny_compStart_list loop (wpAny_pyIter_listiter t4 loop)
  subst hs4 hce hC hs3 hD hs2 hit
  exact fin
end
end Sh
end
section
set_option Elab.async false
set_option linter.all false
set_option maxRecDepth 100000
set_option maxHeartbeats 4000000
/-! isinstance of a caught error that has a dict of its own -/
namespace Sh
open PySem PySem.Spec PySem.W PySem.Calls PyProof.Rows
section
variable {prog : Program} {w : World} {A : Around} {E : Value → Shared → Prop} {s : Shared} {K : Frag} {x D : Addr} {ox : Obj} {od : Option Obj}
theorem find_dataD {C : Addr} {name : Str} {a g : Value} (hc : (clsIn K C).isSome = true) (ha : findIn K (.ref C) name = some (some a)) (hg : specialIn K a "__get__" = some (some g)) (ht : takesIn K a = some true) : findObj K C od name = some (.bind g a) := by
  obtain ⟨cd, hc⟩ := Option.isSome_iff_exists.mp hc
  unfold findObj
  rw [hc, Option.bind_some, ha]
  simp only [Option.bind_some, hg, ht]
theorem classD {Q : Option Value → Shared → Prop} (T : L2.ExcC K D) (X : K.In s.heap) (I : InstAt s.heap x ox D od) (h : Q (some (.ref D)) { s with toks := s.toks + 1 }) : wpAny (model prog w) A (getAttr? (.ref x) "__class__") Q E s := by
  have hf : findObj K D od "__class__" = some (.bind (.builtin "getset_descriptor.__get__") (.builtin "object.__class__")) := find_dataD (by obtain ⟨cd, hc, _⟩ := any_some T.hd; rw [hc]; rfl) T.ha T.hn T.ht
  obtain ⟨hp, g, d, t, os⟩ := s
  have Lt := I.type (M := model prog w)
  have Lg := looks_findIn (M := model prog w) X T.hg
  have Lk := looks_findIn (M := model prog w) X T.hk
  have Lf := looks_find (M := model prog w) X I hf
  have Ls : Looks (model prog w) hp (isInstance (.ref x) (.type "BaseException")) true := Lt.andThen (looks_subIn X T.hs)
  have z2 : (Value.builtin "BaseException.__getattribute__" == Value.builtin "object.__getattribute__") = false := by decide +kernel
  have z1 : (onTheHeap (Value.ref D) && Value.builtin "BaseException.__getattribute__" == Value.builtin "object.__getattribute__") = false := by rw [z2]; rfl
  unfold getAttr? getAttrBy? getAttrBy; refine wpAny_bind (wpAny_mkText (wpAny_bind (wpAny_attempt (wpAny_holding (wpAny_bind (Lt.at (wpAny_bind (Lg.at ?_))))))))
  show wpAny _ _ (if (onTheHeap (Value.ref D) && Value.builtin "BaseException.__getattribute__" == Value.builtin "object.__getattribute__") = true then _ else _) _ _ _; rw [z1, if_neg Bool.false_ne_true]
  unfold getAttrByItsOwn hookBefore; refine wpAny_bind ?_
  rw [if_pos (show onTheHeap (Value.ref D) = true from rfl)]; refine Lk.at ?_
  refine wpAny_bind (wpAny_attempt (wpAny_holding ?_)); unfold callGetattribute
  rw [show (false && onTheHeap (Value.builtin "BaseException.__getattribute__")) = false from rfl, if_neg Bool.false_ne_true]
  unfold boundAndCalled; rw [PySem.F.excAttr_ValueError.ga.bind (.ref x)]; refine wpAny_bind (wpAny_pure ?_)
  show wpAny _ _ (call (.builtin "BaseException.__getattribute__") [.ref x, .str "__class__" t]) _ _ _; refine wpAny_call (codeAny_call_builtin PySem.F.excAttr_ValueError.ga.plain PySem.F.entry_bexc_ga ?_)
  refine @check_slot (model prog w) _ _ ⟨hp, g, d, t + 1, os⟩ "BaseException.__getattribute__" "BaseException" "__getattribute__" (.ref x) [.str "__class__" t] [] _ (by decide +kernel) (by decide +kernel) Ls (PySem.F.args_bexc_ga (.ref x) (.str "__class__" t)) ?_
  unfold Builtin.«object.__getattribute__»; refine wpAny_bind (wpAny_of_eq (a := ((Value.ref x : Value), [Value.str "__class__" t])) (by first | rfl | (simp only [slotArgs]; rfl)) ?_)
  refine wpAny_bind (wpAny_pure (wpAny_bind (Lt.at (wpAny_bind (Lf.at ?_)))))
  show wpAny _ _ (holding [Value.builtin "object.__class__"] (call (.builtin "getset_descriptor.__get__") [.builtin "object.__class__", .ref x, .ref D]) >>= ret) _ _ _
  refine wpAny_bind (wpAny_holding (wpAny_call (class_get (s := ⟨hp, g, d, t + 1, os⟩) (ox := ox) (od := od) X I T.hm ?_))); refine wpAny_pure ?_
  show wpAny _ _ (handedOut (.ref D)) _ _ _; rw [handedOut_of (v := .ref D) rfl]
  first
    | exact wpAny_pure (wpAny_pure h)
    | exact wpAny_pure h
    | exact wpAny_pure (wpAny_bind (wpAny_pure (wpAny_pure h)))
theorem kitxD (T : L2.ExcC K D) : KitX K (.ref x) (.ref D) (fun h => InstAt h x ox D od) where
  ty := fun _ _ _ I => I.type
  it := fun _ _ X _ => by
    obtain ⟨cd, hc, _⟩ := any_some T.hd
    unfold clsIn at hc
    split at hc
    · rename_i ho
      intro A' Q' E' s' k q
      unfold isType loadHead; exact wpAny_bind (wpAny_loadPart (k _ _ (X _ _ ho)) (wpAny_pure q))
    · cases hc
  ne := fun h tp dd its n sl X htp => by
    obtain ⟨cd, hc, _⟩ := any_some T.hd
    refine Bool.eq_false_iff.mpr fun q => ?_
    have e : D = tp := Value.ref.inj (beq_iff_eq.mp q); subst e
    unfold clsIn at hc
    split at hc
    · rename_i ho
      cases (X _ _ ho).symm.trans htp
    · cases hc
  ca := fun X I k => classD T X I k
end
end Sh
end
section
set_option Elab.async false
set_option linter.all false
set_option maxRecDepth 100000
set_option maxHeartbeats 4000000
namespace Sh
open PySem PySem.Spec PyProof.Rows
open L2 hiding St

/-! ### an own error with its field what -/
/-- what __init__ promises -/
def spI (K : PySem.W.Frag) : Sp := fun vs H Q E => ∃ (a C : Addr) (v : V), vs = [.ref a, v] ∧ OexC K C ∧ PySem.W.findIn K (.ref C) "what" = some none ∧ H a = some (exo a C none) ∧
  ∀ dx, H dx = none → dx ≠ a → Q .non (upd (upd H dx (exd dx [(("what" : Str), v)])) a (exo a C (some dx)))
structure IniOk (c : Cn) (fI : Addr) : Prop where
  fn : ∃ fd, FnOk c.P c.w c.K c.mg c.base (L2N.CX c.P c.w) 3 fI fd ["self", "what"] (spI c.K) ∧ Binds c.K fd ["self", "what"] []
  ty : PySem.W.typeIn c.K (.ref fI) = some (.type "function")
structure ExOk (c : Cn) (fI C : Addr) : Prop where
  oex : OexC c.K C
  exc : ExcC c.K C
  xf : XfC c.K C
  noW : PySem.W.findIn c.K (.ref C) "what" = some none
  ini : PySem.W.findIn c.K (.ref C) "__init__" = some (some (.ref fI))
section
variable {X : Cx} {c : Cn} {m : Fm} {W : WX} {e : Expr} {es : List Expr} {pos p p2 pos' : Pos} {x : Str} {f : S → OE}
def tIni (K : PySem.W.Frag) : TS := tSeq (tDrop (tVeI K (tCons (tVar 0) (tCons (tVar 1) tNil)))) (tOst K "what" (tVar 0) (tVar 1))
theorem spI_len {K : PySem.W.Frag} : ∀ vs H Q E, spI K vs H Q E → vs.length = (["self", "what"] : List Str).length := fun vs H Q E ⟨a, C, v, e, _⟩ => by rw [e]; rfl
theorem ini_pure {K : PySem.W.Frag} {vs : List V} {H : Hp} {Q : VK} {E : XK} (h : spI K vs H Q E) : tIni K { nx := fun _ H' => Q .non H', rt := Q } (L2.start ["self", "what"] vs) H := by
  obtain ⟨a, C, v, rfl, T, nw, ha, k⟩ := h
  exact ⟨_, rfl, _, rfl, a, C, [v], rfl, Nat.le_of_ble_eq_true rfl, T, ha, _, rfl, _, rfl, a, C, rfl, T, nw, .inl ⟨ha, fun dx n ne => k dx n ne⟩⟩
/-- C(e) is made -/
def tMkN (C : Addr) (ta : TA) : L2.St → Hp → XK → Prop := fun σ H Q => ta σ H fun vs H1 => ∃ v, vs = [v] ∧ ∀ d, H1 d = none → Q (.ref C) (some d) (upd H1 d (.xd [(("what" : Str), v)]))
theorem pmk_N {fI C : Addr} {ta : TA} (hX : CxA c X) (T : ExOk c fI C) (I0 : IniOk c fI) (hr : Room 4 X.A) (hg : Gl X x) (hm : c.mg x = some (.ref C)) (ha : PA X [e] ta)
    (hdb : (x == ("__debug__" : Str)) = false := by decide) (he : starEach [e] X.env = (false, eval e X.env) :: starEach [] X.env := by rfl) (hpl : (backTo pos (starEach [] X.env)).any (·.1) = false := by rfl) :
    L2N.PMk X (.Call (.Name x p) [e] [] pos) (tMkN C ta) := by
  obtain ⟨P, w, K, mg, base, G, TT⟩ := c
  obtain ⟨rfl, rfl, rfl, rfl, rfl⟩ := hX
  intro pins s σ H Q I h
  obtain ⟨nm, q, N, bs, bm, sn, sub, ab, col, dd, k0, k1, k2, k3, k5, hC, hbm⟩ := T.oex.cls
  obtain ⟨⟨fd, F1, hb⟩, tI⟩ := I0
  refine wpAny_Call_Name_kw (ld_glob I hg hm ?_ hdb)
  refine PySem.W.callWith_K (h₀ := X.base) I.ok.mod.kin T.oex.kC (thn (ha.run pos pins s σ H _ I h) fun us s1 ⟨vs, H1, I1, r1, v, ev, q1⟩ => ⟨I1.kIn, ?_⟩) he hpl
  subst ev
  show wpAny _ _ (call (.ref C) us) _ _ _
  obtain ⟨hp, g, dr, tk, os⟩ := s1
  generalize hA : hp.objs.size + 1 = A
  have big : hp.objs.size ≤ A := by rw [← hA]; exact Nat.le_succ _
  have nA : H1 A = none := I1.hok.fresh big
  generalize hh : (hp.push (PySem.W.kdv_tup us)).push (PySem.HandSPX.excO C hp.objs.size) = hp2
  have kk : ∀ b o, hp.get? b = some o → hp2.get? b = some o := fun b o e => by rw [← hh]; exact Heap.get?_push_of_some _ (Heap.get?_push_of_some _ e)
  have hget : hp2.get? A = some (PySem.HandSPX.excO C hp.objs.size) := by rw [← hh, ← hA]; heap_get
  have I2 : Inv X pins σ (upd H1 A (exo A C none)) ⟨hp2, g, dr, tk, os⟩ := I1.laid (t' := tk) (a := A) (o := exo A C none) (h' := hp2) kk big (exo_ok hget)
  have r2 : Vals [V.ref A, v] (Value.ref A :: us) := .cons rfl r1
  have hl : (Value.ref A :: us).length = (["self", "what"] : List Str).length := r2.length.symm
  have hus : us.length ≤ sizeLine := by
    have e1 : us.length + 1 = 2 := hl
    rw [sizeLine_eq]; omega
  have sp : spI X.K [V.ref A, v] (upd H1 A (exo A C none)) (fun z H2 => z = .non ∧ ∃ d, H1 d = none ∧ d ≠ A ∧ H2 = upd (upd (upd H1 A (exo A C none)) d (exd d [(("what" : Str), v)])) A (exo A C (some d))) (fun _ _ _ => False) :=
    ⟨A, C, v, rfl, T.oex, T.noW, upd_same, fun d n ne => ⟨rfl, d, by rw [upd_ne ne] at n; exact n, ne, rfl⟩⟩
  have hbt := hb ⟨hp2, g, dr, tk, os⟩ (Value.ref A :: us) I2.kIn (by rw [List.append_nil]; exact hl)
  rw [List.append_nil] at hbt
  refine wpAny_call (PySem.HandSPX.call_own F.excBase_ValueError (fun Y => PySem.HandSPX.refsVE_contains Y bm hbm) (I1.kIn _ _ hC) (PySem.W.looks_findIn I1.kIn T.ini) (fun self => PySem.W.bind_fn I1.kIn self tI) hus ?_)
  rw [hh, hA]
  refine codeAny_mono (F1.run _ X.stack ⟨hp2, g, dr, tk, os⟩ _ ⟨Value.ref A :: us, []⟩ (Value.ref A :: us) _ _ (fun _ _ _ => False) (hr.make C us []) (I2.env0.make C us []) hbt r2 sp) fun r s' hq' => ?_
  cases r with
  | error er =>
    obtain ⟨_, _, _, _, _, _, _, _, _, _, _, _, z⟩ := hq'
    exact z.elim
  | ok fl =>
    cases fl with
    | ret u =>
      obtain ⟨z, H2, os2, bare2, un2, hok2, rv, ez, d, nd, ne, eH⟩ := hq'
      subst ez
      obtain ⟨h2, g2, d2, t2, os'⟩ := s'
      have ea : H2 A = some (exo A C (some d)) := by rw [eH, upd_same]
      have ed : H2 d = some (exd d [(("what" : Str), v)]) := by rw [eH, upd_ne ne, upd_same]
      obtain ⟨t0, G0, J, kG, ge, hoe, na⟩ := mk_end0 (d2 := d2) (t2 := t2) I1 big kk un2 hok2 os2 bare2 ea ed nd
      refine ⟨rv, A, _, _, ⟨G0, g2, d2, t2, os'⟩, _, .ref C, some d, rfl, J, kG, ge, hoe, ⟨rfl, rfl, fun vs e => by cases e; rfl⟩, rfl, rfl, na, rfl, bare2, raises_own T.oex.exC T.oex.tyC, ?_⟩
      have e2 : upd (del H2 A) d (.xd [(("what" : Str), v)]) = upd H1 d (.xd [(("what" : Str), v)]) := by
        funext b
        by_cases hbd : b = d
        · rw [hbd, upd_same, upd_same]
        · rw [upd_ne hbd, upd_ne hbd]
          by_cases hbA : b = A
          · rw [hbA, del_same, nA]
          · rw [del_ne hbA, eH, upd_ne hbA, upd_ne hbd, upd_ne hbA]
      rw [e2]
      exact q1 d nd
    | next => exact False.elim hq'
    | brk => exact False.elim hq'
    | cont => exact False.elim hq'
def raiseS (nm : Str) (f : S → OE) : S → OS := fun st => (f st).bind fun v st1 => match toD v st1 with
  | some (y, st2) => .exc nm y st2
  | none => .bad
theorem s_raise {fI C : Addr} (hX : CxA c X) (hc : X.calm = true) (T : ExOk c fI C) (I0 : IniOk c fI) (hr : Room 4 X.A) (tk : L2N.Takes X W) (hm : c.mg x = some (.ref C)) (he : PE X e (tI c m W f)) (hg : Gl X x := by rfl)
    (hdb : (x == ("__debug__" : Str)) = false := by decide) (hs : starEach [e] X.env = (false, eval e X.env) :: starEach [] X.env := by rfl) (hpl : (backTo pos (starEach [] X.env)).any (·.1) = false := by rfl) :
    PS X (.Raise (some (.Call (.Name x p) [e] [] pos)) none pos') (tS c m W (raiseS x f)) :=
  PS_imp (L2N.ps_raise hc tk (pmk_N hX T I0 hr hg hm (i_pa_cons he i_pa_nil hs) hdb hs hpl)) fun σ H D ⟨st, F, α, sr, p⟩ => by
    refine kA (f := seqE [f]) (g := fun vs st1 => match vs with
      | [v] => (match toD v st1 with
        | some (y, st2) => .exc x y st2
        | none => .bad : OS)
      | _ => .bad) (pstS (E := D)) sr ?_ fun vs st1 xs F1 α1 H1 e1 s1 r1 p1 => ?_
    · have e : ((seqE [f] st).bind fun vs st1 => match vs with
        | [v] => (match toD v st1 with
          | some (y, st2) => .exc x y st2
          | none => .bad : OS)
        | _ => .bad) = raiseS x f st := by
        unfold raiseS seqE seqE
        cases f st <;> rfl
      rw [e]
      exact p
    · split at p1
      · rename_i v
        cases r1 with
        | cons r1 r2 =>
          cases r2
          split at p1
          · rename_i y st2 hy
            obtain ⟨F2, e2, s2, r2, _⟩ := toD_ok s1 r1 hy
            refine ⟨_, rfl, fun d hd => ?_⟩
            obtain ⟨e3, s3⟩ := s2.newT (o := .xd [(("what" : Str), _)]) hd
            exact p1 σ C d _ F2 α1 _ hm (e2.trans e3) s3 upd_same (s2.fresh0 (.of hd)) (Rep.mono e3.ev r2)
          · exact p1.elim
      · exact p1.elim
end
end Sh
end
section
set_option Elab.async false
set_option linter.all false
set_option maxRecDepth 100000
set_option maxHeartbeats 4000000
namespace Sh
open PySem PySem.Spec PyProof.Rows
open L2 hiding St

/-- the handled error is at hand -/
structure CxE (m : Fm) (X : Cx) : Prop where
  pin : ∀ q, m.ex = some q → q ∈ X.pn ∧ ∃ vs, q.2.data = .fields vs
/-- the own errors: tab tells each class's own bases, itself first -/
structure ClsOk (c : Cn) (fI : Addr) (tab : List (Str × List Str)) : Prop where
  one : ∀ nm C, nm ∈ tab.map (·.1) → c.mg nm = some (.ref C) → ExOk c fI C
  sub : ∀ nm us, (nm, us) ∈ tab → ∀ n2, n2 ∈ tab.map (·.1) → ∀ C C2, c.mg nm = some (.ref C) → c.mg n2 = some (.ref C2) → PySem.W.exmOne c.K (.ref C) (.ref C2) = some (us.contains n2) ∧ PySem.W.kitOne c.K (.ref C) (.ref C2) = some (us.contains n2)
def subN (tab : List (Str × List Str)) (nm n2 : Str) : Option Bool := match tab.find? (fun p => p.1 == nm) with
  | some p => if n2 ∈ tab.map (·.1) then some (p.2.contains n2) else none
  | none => none
theorem subN_in {tab : List (Str × List Str)} {nm n2 : Str} {b : Bool} (h : subN tab nm n2 = some b) : ∃ us, (nm, us) ∈ tab ∧ n2 ∈ tab.map (·.1) ∧ b = us.contains n2 := by
  unfold subN at h
  split at h
  · rename_i p hp
    split at h
    · rename_i hn
      cases h
      have e := List.find?_some hp
      have e1 : p.1 = nm := by simpa using e
      refine ⟨p.2, ?_, hn, rfl⟩
      rw [← e1]
      exact List.mem_of_find?_eq_some hp
    · cases h
  · cases h
section
variable {X : Cx} {c : Cn} {m : Fm} {W : WX} {e : Expr} {es : List Expr} {pos p p2 p3 pos' : Pos} {x n : Str} {f : S → OE} {fI : Addr} {tab : List (Str × List Str)}
/-- a class's name -/
def clsE (x : Str) : S → OE := fun st => .ok (.d (.str x)) st
/-- isinstance(e, C), e the error in slot i -/
def isxE (tab : List (Str × List Str)) (i : Nat) (cn : Str) : S → OE := fun st => match st.v[i]? with
  | some (some (.x nm y)) => match subN tab nm cn with
    | some b => .ok (.d (.bl b)) st
    | none => .bad
  | _ => .bad
def rIsD (X : Cx) (K : PySem.W.Frag) : List V → Hp → VK → Prop := fun xs H Q => ∃ (a C CS d : Addr) (oe : Obj) (fs : List (Str × V)) (b : Bool), xs = [.ref a, .ref CS] ∧ (a, oe) ∈ X.pn ∧ (∃ vs, oe.data = .fields vs) ∧ L2N.Zn (.ref C) (some d) oe ∧ H d = some (.xd fs) ∧
  ExcC K C ∧ PySem.W.kitOne K (.ref C) (.ref CS) = some b ∧ Q (.bl b) H
theorem call_isD : CallR X (.builtin "isinstance") (rIsD X X.K) := by
  intro pins s σ H xs us Q I r h
  obtain ⟨a, C, CS, d, oe, fs, b, rfl, hp, ⟨vs, hv⟩, hz, hd, T, hk, q⟩ := h
  obtain ⟨u1, u2, rfl, r1, r2⟩ := vals2 r
  obtain rfl : u1 = Value.ref a := r1
  obtain rfl : u2 = Value.ref CS := r2
  obtain ⟨hget, _⟩ := I.pin (a, oe) (List.mem_append_left _ hp)
  have hx : ObjOk X.prog X.w H s.heap d (.xd fs) := I.hok d _ hd
  obtain ⟨mA, hns, hr⟩ := hx
  obtain ⟨od, ho, hl⟩ := lookIn_ns hns
  have J : PySem.W.InstAt s.heap a oe C (some od) := ⟨hget, hz.1, by unfold PySem.W.notCls; rw [hv] <;> rfl, by rw [hz.2.1]; exact ho⟩
  exact PySem.W.kia_one (kitxD T) I.kIn J hk (fun z => nomatch z) fun tk => ⟨.bl b, H, I.kept (t' := tk) fun _ _ z => z, rfl, q⟩
theorem i_isx {i : Nat} {ev cn : Str} {CS : Addr} (hX : CxA c X) (hE : CxE m X) (T : ClsOk c fI tab) (hcn : c.mg cn = some (.ref CS)) (hm : c.mg "isinstance" = none) (hN : X.N[i]? = some ev := by rfl) (hv : Vis X.env.scope ev := by first | exact .inl rfl | exact .inr (.inl rfl) | exact .inr (.inr rfl))
    (hg : Gl X "isinstance" := by rfl) (hgc : Gl X cn := by rfl) (hd : (ev == ("__debug__" : Str)) = false := by decide) (hcd : (ev == ("__classdict__" : Str)) = false := by decide) (hdc : (cn == ("__debug__" : Str)) = false := by decide)
    (he : starEach [.Name ev p2, .Name cn p3] X.env = (false, eval (.Name ev p2) X.env) :: starEach [.Name cn p3] X.env := by rfl) (he2 : starEach [.Name cn p3] X.env = (false, eval (.Name cn p3) X.env) :: starEach [] X.env := by rfl) (hpl : (backTo pos (starEach [.Name cn p3] X.env)).any (·.1) = false := by rfl) :
    PE X (.Call (.Name "isinstance" p) [.Name ev p2, .Name cn p3] [] pos) (tI c m W (isxE tab i cn)) := by
  have hmX : X.mg "isinstance" = none := by rw [hX.mg]; exact hm
  have pcn : PE X (.Name cn p3) (tC (.ref CS)) := ⟨fun pins s σ H Q I q => ld_glob I hgc (by rw [hX.mg]; exact hcn) ⟨.ref CS, H, I, rfl, q⟩ hdc⟩
  refine PE_imp (pe_callB (call_isD (X := X)) hg hmX (by rfl) (pa_cons (pe_var hN hv hd hcd) (pa_cons pcn pa_nil he2) he) (by decide) (by decide) he hpl) fun σ H Q ⟨st, F, α, sr, q⟩ => ?_
  unfold isxE at q
  split at q
  · rename_i nm y hi
    split at q
    · rename_i b hb
      obtain ⟨v, h1, a, oe, C, d, u, h2, rfl, h4, h5, h6, h7⟩ := sr.vars i _ hi
      obtain ⟨us, hus, hn2, rfl⟩ := subN_in hb
      obtain ⟨hp, hf⟩ := hE.pin _ h2
      have h3 := T.one nm C (List.mem_map.mpr ⟨_, hus, rfl⟩) h4
      have hk := (T.sub nm us hus cn hn2 C CS h4 hcn).2
      rw [hX.K]
      exact ⟨_, h1, a, C, CS, d, oe, _, _, rfl, hp, hf, h5, h6, h3.exc, hk, q _ F α H .refl sr .bl⟩
    · exact q.elim
  · exact q.elim
/-- e.what, e the error in slot i -/
def whatE (tab : List (Str × List Str)) (i : Nat) : S → OE := fun st => match st.v[i]? with
  | some (some (.x nm y)) => if nm ∈ tab.map (·.1) then .ok (.d y) st else .bad
  | _ => .bad
theorem i_what {i : Nat} {ev : Str} (hX : CxA c X) (hE : CxE m X) (T : ClsOk c fI tab) (hN : X.N[i]? = some ev := by rfl) (hv : Vis X.env.scope ev := by first | exact .inl rfl | exact .inr (.inl rfl) | exact .inr (.inr rfl))
    (hd : (ev == ("__debug__" : Str)) = false := by decide) (hcd : (ev == ("__classdict__" : Str)) = false := by decide) (hb : attributeBase (.Name ev p) "what" X.env (eval (.Name ev p) X.env) = eval (.Name ev p) X.env := by rfl) :
    PE X (.Attribute (.Name ev p) "what" pos) (tI c m W (whatE tab i)) := by
  refine ⟨fun pins s σ H Q I ⟨st, F, α, sr, q⟩ => ?_⟩
  unfold whatE at q
  split at q
  · rename_i nm y hi
    split at q
    · rename_i hin
      obtain ⟨v, h1, a, oe, C, d, u, h2, rfl, h4, h5, h6, h7⟩ := sr.vars i _ hi
      obtain ⟨hp, vs, hf⟩ := hE.pin _ h2
      have h3 := T.one nm C hin h4
      refine attr_of hb (thn ((pe_var (pos := p) hN hv hd hcd).run pins s σ H (fun x H1 => x = .ref a ∧ H1 = H) I ⟨_, h1, rfl, rfl⟩) fun z s1 ⟨x, H1, I1, rx, ex, eH⟩ => ?_)
      subst ex
      rw [eH] at I1
      obtain rfl : z = Value.ref a := rx
      obtain ⟨ha, _⟩ := I1.pin (a, oe) (List.mem_append_left _ hp)
      have hx : ObjOk X.prog X.w H s1.heap d (.xd [(("what" : Str), u)]) := I1.hok d _ h6
      obtain ⟨mA, hns, hr⟩ := hx
      obtain ⟨od, ho, hl⟩ := lookIn_ns hns
      obtain ⟨w', hw, rw'⟩ := RelO.some_of (v := u) (o := mA "what") (hr "what")
      have J : PySem.W.InstAt s1.heap a oe C (some od) := ⟨ha, h5.1, by unfold PySem.W.notCls; rw [hf] <;> rfl, by rw [h5.2.1]; exact ho⟩
      have TK := h3.xf
      have nW := h3.noW
      rw [← hX.K] at TK nW
      exact HandSPX.exc_get I1.kIn J TK.ga TK.gg TK.exC (PySem.W.findObj_own TK.hdC nW rfl (by rw [hl, hw])) (handed_of rw') ⟨u, H, I1.tok _, rw', q u F α H .refl sr h7⟩
    · exact q.elim
  · exact q.elim
/-- 's'.join(texts) -/
def strsOf : List D → Option (List Str)
  | [] => some []
  | .str s :: r => (strsOf r).map (s :: ·)
  | _ :: _ => none
def joinV (v : Val) (vs : List Val) (st : S) : OE := match v, vs with
  | .d (.str a), [w] => match seqOf w st with
    | some xs => match strsOf xs with
      | some ys => if (ys.map (·.length)).sum + ys.length * a.length ≤ 1000000 then .ok (.d (.str (Txt.join a ys))) st else .bad
      | none => .bad
    | none => .bad
  | _, _ => .bad
theorem strs_ok {F : Fz} {H : Hp} : ∀ {xs : List D} {ys : List Str} {vs : List V}, Reps c F H xs vs → strsOf xs = some ys → vs = ys.map V.str
  | [], _, _, .nil, h => by cases h; rfl
  | .str s :: r, ys, _, .cons r1 r2, h => by
    unfold strsOf at h
    cases q : strsOf r with
    | none => rw [q] at h; cases h
    | some zs =>
      rw [q] at h
      cases h
      cases r1
      rw [strs_ok r2 q]
      rfl
  | .non :: _, _, _, _, h => by cases h
  | .bl _ :: _, _, _, _, h => by cases h
  | .int _ :: _, _, _, _, h => by cases h
  | .obj _ :: _, _, _, _, h => by cases h
  | .tup _ :: _, _, _, _, h => by cases h
  | .lst _ :: _, _, _, _, h => by cases h
  | .klst _ :: _, _, _, _, h => by cases h
  | .ty _ :: _, _, _, _, h => by cases h
theorem join_ok : RMt c m W joinV (fun x xs H Q => ∃ a p, ∃ ys : List Str, x = .str a ∧ xs = [.ref p] ∧ (SqL c.K H p (ys.map V.str) ∨ SqT c.K H p (ys.map V.str)) ∧ (ys.map (·.length)).sum + ys.length * a.length ≤ 16777216 ∧ Q (.str (Txt.join a ys)) H) := fun st F α σ H v x va xs Q sr rv ra q => by
  unfold joinV at q
  split at q
  · rename_i a w
    cases rv
    cases ra with
    | cons r1 r2 =>
      cases r2
      split at q
      · rename_i xs hx
        split at q
        · rename_i ys hy
          split at q
          · rename_i hz
            obtain ⟨p, vs, rfl, hs, r⟩ := seqOf_ok sr r1 hx
            rw [strs_ok r hy] at hs
            exact ⟨a, p, ys, rfl, rfl, hs, by omega, q _ F α H .refl sr .str⟩
          · exact q.elim
        · exact q.elim
      · exact q.elim
  · exact q.elim

/-! ### a comprehension in the suite -/
def itLV (v : Val) (st : S) : IO := match v with
  | .d (.tup _) => .bad
  | v => itV v st
def itLE (f : S → OE) : S → IO := fun st => (f st).bind itLV
theorem itL_imp (σ : L2.St) (H : Hp) (R : It → Hp → Prop) (h : tW c m W (itLE f) σ H R) : iList c.K (tI c m W f) σ H R := by
  obtain ⟨st, F, α, sr, q⟩ := h
  refine kE pstW sr q fun v st1 x F1 α1 H1 _ s1 r1 p1 => ?_
  have nt : ∀ xs, v ≠ .d (.tup xs) := fun xs z => by subst z; exact p1
  have p1 : PWo c m W σ F1 α1 H1 R (itV v st1) := by
    unfold itLV at p1
    split at p1
    · exact p1.elim
    · exact p1
  unfold itV at p1
  split at p1
  · rename_i xs hx
    obtain ⟨a, vs, rfl, hs, r⟩ := seqOf_ok s1 r1 hx
    refine ⟨a, rfl, ?_⟩
    rcases seq_later s1 r1 hx with h | h
    · obtain ⟨ws, h1, h2⟩ := h st1 F1 α1 σ H1 .refl s1 (gd0 hx)
      refine ⟨⟨ws, h1⟩, p1 _ F1 α1 H1 .refl s1 fun i st2 F2 α2 σ2 H2 e2 s2 g2 => ?_⟩
      obtain ⟨us, h3, h4⟩ := h st2 F2 α2 σ2 H2 e2 s2 g2
      refine ⟨fun hl => ⟨us, h3, by rw [← h4.len]; exact hl⟩, fun y hy => ?_⟩
      obtain ⟨v, hv, rv⟩ := h4.get hy
      exact ⟨⟨us, v, h3, hv⟩, fun w H' ⟨e, hw⟩ => by
        subst e
        have := hw us h3
        rw [hv] at this; cases this
        exact ⟨.refl, s2, rv⟩⟩
    · exact (nt _ h.1.choose_spec).elim
  · exact p1.elim
end
end Sh
end
section
set_option Elab.async false
set_option linter.all false
set_option maxRecDepth 100000
set_option maxHeartbeats 4000000
namespace Sh
open PySem PySem.Spec PyProof.Rows
open L2 hiding St

section
variable {X : Cx} {c : Cn} {m : Fm} {W : WX} {e : Expr} {es : List Expr} {pos p p2 p3 pos' : Pos} {x n : Str} {f : S → OE} {fI : Addr} {tab : List (Str × List Str)}
theorem i_lcH {elt tg iter : Expr} {ifs : List Expr} {scope : Scope} {own : List (Str × Nat)} {g : D → S → Option S} {t f0 f : S → OE} {ws : List Nat} (hK : X.K = c.K) (hot : L2H.HotC X) (hN : X.N.Nodup) (hi : PE X iter (tI c m W f0)) (ok : BlkOk X.N X.env.scope scope own)
    (hg : ∀ (s : Shared) (H : Hp) (C : Addr) (cl : List (Str × Addr)) (fp : List Addr), HotI (X.blk s H scope (compEnvC scope cl C X.env) fp) → PG (X.blk s H scope (compEnvC scope cl C X.env) fp) tg (tG c m ws g)) (ht : ∀ (s : Shared) (H : Hp) (C : Addr) (cl : List (Str × Addr)) (fp : List Addr), HotI (X.blk s H scope (compEnvC scope cl C X.env) fp) → PTs (X.blk s H scope (compEnvC scope cl C X.env) fp) ifs (tT c m WF t))
    (he : ∀ (s : Shared) (H : Hp) (C : Addr) (cl : List (Str × Addr)) (fp : List Addr), HotI (X.blk s H scope (compEnvC scope cl C X.env) fp) → PE (X.blk s H scope (compEnvC scope cl C X.env) fp) elt (tI c m WF f)) (hw : ∀ i ∈ ws, i ∈ own.map (·.2)) (hs : ∀ x, foldedSetIterable iter X.env x = pure x := by intro _; rfl) :
    PE X (.ListComp elt [⟨tg, iter, ifs, 0⟩] scope pos) (tI c m W (compE (itLE f0) g t f (own.map (·.2)))) := PE_imp (pe_lcH hot hN hi ok hg ht he hs) fun σ H Q h => by
  have h2 := lc_imp (c := c) (m := m) (W := W) hw σ H Q h
  rw [hK]
  exact itL_imp σ H _ h2
/-- no error among the names any more -/
def unx : Option Val → Option Val
  | some (.x _ _) => none
  | v => v
def S.unx (st : S) : S := { st with v := st.v.map Sh.unx }
theorem SR.exUp {q : Addr × Obj} {st : S} {F : Fz} {α : List Addr} {σ : L2.St} {H : Hp} (h0 : m.ex = none) (sr : SR c m st F α σ H) : SR c { m with ex := some q } st F α σ H := by
  refine ⟨sr.len, fun i val hi => ?_, sr.cells, sr.pre, sr.loc, sr.dom, sr.tab, sr.fra, sr.new, sr.old, sr.ioF, sr.ioL, sr.dom0⟩
  obtain ⟨v, h1, h2⟩ := sr.vars i val hi
  refine ⟨v, h1, ?_⟩
  cases val with
  | d x => exact h2
  | c n => exact h2
  | t a b x => exact h2
  | x a y =>
    obtain ⟨a, oe, C, d, u, z, _⟩ := h2
    rw [h0] at z; cases z
theorem SR.exDown {q : Option (Addr × Obj)} {st : S} {F : Fz} {α : List Addr} {σ : L2.St} {H : Hp} (sr : SR c { m with ex := q } st F α σ H) : SR c m st.unx F α σ H := by
  refine ⟨by rw [show st.unx.v = st.v.map Sh.unx from rfl, List.length_map]; exact sr.len, fun i val hi => ?_, sr.cells, sr.pre, sr.loc, sr.dom, sr.tab, sr.fra, sr.new, sr.old, sr.ioF, sr.ioL, sr.dom0⟩
  have hi : (st.v.map Sh.unx)[i]? = some (some val) := hi
  rw [List.getElem?_map] at hi
  cases hq : st.v[i]? with
  | none => rw [hq] at hi; cases hi
  | some w =>
    rw [hq] at hi
    have hi : Sh.unx w = some val := Option.some.inj hi
    unfold Sh.unx at hi
    split at hi
    · cases hi
    · rename_i w nx
      subst hi
      obtain ⟨v, h1, h2⟩ := sr.vars i val hq
      refine ⟨v, h1, ?_⟩
      cases val with
      | d x => exact h2
      | c n => exact h2
      | t a b x => exact h2
      | x a y => exact (nx a y rfl).elim
def tryS (tab : List (Str × List Str)) (cn : Str) (i : Nat) (G Gs : S → OS) : S → OS := fun st => match G st with
  | .exc nm y st1 => match subN tab nm cn with
    | some true => match Gs { st1 with v := st1.v.set i (some (.x nm y)) } with
      | .ok .nx st2 => .ok .nx { st2.unx with v := st2.unx.v.set i none }
      | .ok (.ret (.d z)) st2 => .ok (.ret (.d z)) st2.unx
      | .ok (.ret (.c k)) st2 => .ok (.ret (.c k)) st2.unx
      | _ => .bad
    | some false => .exc nm y st1
    | none => .bad
  | o => o
theorem s_try {i : Nat} {body suite : List Stmt} {b₀ : Stmt} {np : Pos} {CS : Addr} {G Gs : S → OS} (hX : CxA c X) (h0 : m.ex = none) (hs : X.stack = X.env :: X.outer) (hf : X.env.frame = some X.env.locals) (hN : X.N.Nodup) (T : ClsOk c fI tab) (tk : L2N.Takes X W) (hcn : c.mg x = some (.ref CS))
    (hb : ∀ (W : WX) (pn : List (Addr × Obj)) (xe : Value → Shared → Prop), L2N.Takes (X.tr pn xe) W → PassesOwn (model X.prog X.w) X.A X.env xe → PSs (X.tr pn xe) body (tS c m W G))
    (hsu : ∀ (a : Addr) (oe : Obj) (pn : List (Addr × Obj)), L2H.HotC (X.suite a ((a, oe) :: pn)) → CxE { m with ex := some (a, oe) } (X.suite a ((a, oe) :: pn)) → PSs (X.suite a ((a, oe) :: pn)) (b₀ :: suite) (tS c { m with ex := some (a, oe) } WF Gs))
    (hi : X.N[i]? = some n := by rfl) (hln : X.env.kindOf n = some .local := by rfl) (hg : Gl X x := by rfl) (hdb : (x == ("__debug__" : Str)) = false := by decide) :
    PS X (.Try body [.ExceptHandler (some (.Name x np)) (some n) (b₀ :: suite) pos'] [] [] pos) (tS c m W (tryS tab x i G Gs)) :=
  PS_imp (L2N.ps_try_as (i := i) (c := .ref CS) (tb := fun W => tS c m W G) (ts := fun a cls d D σ H => ∀ oe, L2N.Zn cls d oe → (∃ vs, oe.data = .fields vs) → tS c { m with ex := some (a, oe) } WF Gs D σ H) hs hf hN hi hln ⟨hg, hdb, .inl (by rw [hX.mg]; exact hcn)⟩ tk hb
    (fun a oe cls d pn hz hd => PSs_imp (hsu a oe pn (by obtain ⟨vs, hv⟩ := hd; exact ⟨(a, oe), ⟨rfl, vs, hv, hz.2.2 vs hv⟩, List.mem_cons_self⟩) ⟨fun q e => by cases e; exact ⟨List.mem_cons_self, hd⟩⟩) fun σ H D h => h oe hz hd)) fun σ H D ⟨st, F, α, sr, q⟩ => by
    refine ⟨st, F, α, sr, ?_⟩
    unfold tryS at q
    generalize G st = o at q ⊢
    cases o with
    | bad => exact q
    | ok fl st1 => cases fl <;> exact q
    | exc nm y st1 =>
      simp only at q
      intro σ' C dx v F' α' H' hm e s hx hn r
      cases hb : subN tab nm x with
      | none => rw [hb] at q; exact q.elim
      | some b =>
        rw [hb] at q
        obtain ⟨us, h1, h2, h3⟩ := subN_in hb
        have hk := (T.sub nm us h1 x h2 C CS hm hcn).1
        rw [← hX.K, ← h3] at hk
        refine ⟨b, hk, fun eb a na oe hz hd => ?_, fun eb => ?_⟩
        · subst eb
          simp only at q
          refine ⟨_, F', α', (s.exUp (q := (a, oe)) h0).setv (i := i) (val := .x nm y) ⟨a, oe, C, dx, v, rfl, rfl, hm, hz, hx, r⟩, ?_⟩
          generalize Gs { st1 with v := st1.v.set i (some (.x nm y)) } = o at q ⊢
          cases o with
          | bad => exact q
          | exc _ _ _ => exact q.elim
          | ok fl st2 =>
            cases fl with
            | nx => exact fun σ2 F2 α2 H2 e2 s2 => q (σ2.set i none) F2 α2 H2 (e.trans e2) s2.exDown.unv
            | bk => exact q.elim
            | ct => exact q.elim
            | ret w =>
              cases w with
              | d z => exact fun u σ2 F2 α2 H2 e2 s2 ru => q u σ2 F2 α2 H2 (e.trans e2) s2.exDown ru
              | c z => exact fun u σ2 F2 α2 H2 e2 s2 ru => q u σ2 F2 α2 H2 (e.trans e2) s2.exDown ru
              | t _ _ _ => exact q.elim
              | x _ _ => exact q.elim
        · subst eb
          exact q σ' C dx v F' α' H' hm e s hx hn r
end
end Sh
end
section
set_option Elab.async false
set_option linter.all false
set_option maxRecDepth 100000
set_option maxHeartbeats 4000000
namespace Sh
open PySem PySem.Spec PyProof.Rows
open L2 hiding St

/-! ### t[::-1] of a tuple -/
theorem rev_pick (xs : Array Value) : ((List.range xs.size).filterMap fun (k : Nat) => xs[(((xs.size : Int) - 1) + (k : Int) * (-1)).toNat]?).toArray = xs.toList.reverse.toArray := by
  congr 1
  have e : ((List.range xs.size).filterMap fun (k : Nat) => xs[(((xs.size : Int) - 1) + (k : Int) * (-1)).toNat]?) = (List.range xs.size).map fun k => xs.toList.reverse.getD k default := by
    have : ∀ l : List Nat, (∀ k ∈ l, k < xs.size) → (l.filterMap fun (k : Nat) => xs[(((xs.size : Int) - 1) + (k : Int) * (-1)).toNat]?) = l.map fun k => xs.toList.reverse.getD k default := by
      intro l
      induction l with
      | nil => intro _; rfl
      | cons k l ih =>
        intro h
        have hk := h k List.mem_cons_self
        have e1 : (((xs.size : Int) - 1) + (k : Int) * (-1)).toNat = xs.size - 1 - k := by omega
        have h2 : xs.size - 1 - k < xs.size := by omega
        rw [List.filterMap_cons, e1, Array.getElem?_eq_getElem h2, List.map_cons, ih fun j hj => h j (List.mem_cons_of_mem _ hj)]
        have h3 : k < xs.toList.reverse.length := by rw [List.length_reverse, Array.length_toList]; exact hk
        rw [List.getD_eq_getElem?_getD, List.getElem?_eq_getElem h3, List.getElem_reverse]
        simp
    exact this _ fun k hk => List.mem_range.mp hk
  rw [e]
  refine List.ext_getElem? fun i => ?_
  rw [List.getElem?_map]
  by_cases hi : i < xs.size
  · have h3 : i < xs.toList.reverse.length := by rw [List.length_reverse, Array.length_toList]; exact hi
    rw [List.getElem?_range hi, List.getElem?_eq_getElem h3]
    rw [Option.map_some, List.getD_eq_getElem?_getD, List.getElem?_eq_getElem h3]; rfl
  · rw [List.getElem?_eq_none (by simpa using hi), List.getElem?_eq_none (by simpa using hi)]
    rfl
section
variable {prog : Program} {w : World} {A : Around} {E : Value → Shared → Prop} {s : Shared}
theorem rev_adj (n : Nat) : Builtin.Slice.sliceAdjust none none (-1) (n : Int) = ((n : Int) - 1, -1) ∧ Builtin.Slice.slicePlaces ((n : Int) - 1) (-1) (-1) = n := by
  refine ⟨rfl, ?_⟩
  unfold Builtin.Slice.slicePlaces
  rw [if_neg (by decide)]
  by_cases h : n = 0
  · subst h; decide
  · rw [if_pos (by omega)]
    have : ((n : Int) - 1 - -1 - 1) / (- -1) + 1 = n := by
      rw [show (- -1 : Int) = 1 from rfl, Int.ediv_one]; omega
    rw [this]; rfl
theorem get_rev {t sl : Addr} {items : Array Value} {u : Tok} {Q : Value → Shared → Prop} (ht : IsTup s.heap t items) (hs : s.heap.IsSliceOf sl .none .none (.int (-1) u))
    (h : Q (.ref s.heap.objs.size) { s with heap := s.heap.push { cls := .type "tuple", data := .seq items.toList.reverse.toArray } }) (hsz : items.size ≤ sizeLine) : wpAny (model prog w) A (getItem (.ref t) (.ref sl)) Q E s := by
  have hok : sizeOk (.seq items.toList.reverse.toArray) := by
    show items.toList.reverse.toArray.size ≤ sizeLine
    rw [List.size_toArray, List.length_reverse, Array.length_toList]; exact hsz
  obtain ⟨os, hos, hcs, hds⟩ := id hs
  have hT : s.TypeIs (.ref sl) "slice" := ⟨os, hos, hcs⟩
  unfold getItem; try with_reducible refine wpAny_holding ?_
  first | refine wpAny_bind (wpAny_pure ?_) | skip
  refine wpAny_bind (wpAny_sequenceKey ht.typeIs (by decide) ?_); refine wpAny_bind (wpAny_callSpecial?_slot (name := Str.ofString "__getitem__") ht.typeIs PyProof.Rows.slot_tuple_getitem (wpAny_call_entry PyProof.Rows.slot_tuple_getitem ht.typeIs entry_tuple_getitem ?_ (args_tuple_getitem _ _)))
  show wpAny _ _ (Builtin.Tuple.tupleItemsOf (.ref t) >>= _) _ _ s; refine wpAny_bind (tupleItemsOf_ ht ?_)
  refine wpAny_bind (wpAny_typeOf hT ?_); rw [if_pos (by decide)]
  refine wpAny_bind (m := Builtin.Slice.sliceApplied (.ref sl) (pure (items.size : Int))) ?_
  · unfold Builtin.Slice.sliceApplied Builtin.Slice.sliceFields
    refine wpAny_bind (wpAny_bind (wpAny_field hos hds (x := .none) rfl (wpAny_bind (wpAny_field hos hds (x := .none) rfl (wpAny_bind (wpAny_field hos hds (x := .int (-1) u) rfl (wpAny_pure ?_)))))))
    refine wpAny_bind (slicePart_int ?_)
    show wpAny _ _ (if ((-1 : Int) == 0) = true then _ else _) _ _ s; rw [if_neg (by decide)]
    refine wpAny_bind (slicePart_none (wpAny_bind (slicePart_none (wpAny_bind (wpAny_pure ?_)))))
    show wpAny _ _ (pure (((items.size : Int) - 1, (-1 : Int), Builtin.Slice.slicePlaces ((items.size : Int) - 1) (-1) (-1)))) _ _ s
    rw [(rev_adj items.size).2]
    refine wpAny_pure ?_
    have hno : ¬ ((((items.size : Int) - 1) == 0 && (-1 : Int) == 1 && items.size == items.size) = true) := by
      rw [show ((-1 : Int) == 1) = false from by decide, Bool.and_false, Bool.false_and]; exact Bool.false_ne_true
    show wpAny _ _ (if ((((items.size : Int) - 1) == 0 && (-1 : Int) == 1 && items.size == items.size) = true) then _ else _) _ _ s
    rw [if_neg hno, rev_pick]
    first
      | exact wpAny_bind (m := Builtin.Tuple.tupleExact _) (wpAny_newObj_type (wpAny_pure ⟨_, rfl, wpAny_pure h⟩) hok)
      | exact wpAny_bind (m := Builtin.Tuple.tupleExact _) (wpAny_newObj_type (wpAny_bind (wpAny_pure (wpAny_pure ⟨_, rfl, wpAny_pure h⟩))) hok)
      | exact wpAny_bind (wpAny_bind (m := Builtin.Tuple.tupleExact _) (wpAny_newObj_type (wpAny_pure (wpAny_pure ⟨_, rfl, wpAny_pure h⟩)) hok))
      | exact wpAny_bind (wpAny_bind (m := Builtin.Tuple.tupleExact _) (wpAny_newObj_type (wpAny_pure ⟨_, rfl, wpAny_pure h⟩) hok))
end
section
variable {X : Cx} {c : Cn} {m : Fm} {W : WX} {e : Expr} {pos p1 p3 p4 : Pos} {k : Nat}
/-- xs[::-1] of a list or a tuple -/
def tRevA (K : PySem.W.Frag) (te : TE) : TE := fun σ H Q => te σ H fun x H1 => ∃ a xs, x = .ref a ∧ ((SqL K H1 a xs ∧ ∀ p, H1 p = none → Q (.ref p) (upd H1 p (.lst xs.reverse))) ∨ (SqT K H1 a xs ∧ ∀ p, H1 p = none → Q (.ref p) (upd H1 p (.tup xs.reverse))))
theorem pe_revA {te : TE} (he : PE X e te) : PE X (.Subscript e (.Slice none none (some (.UnaryOp .USub (.Constant (.int 1) k p1) p3)) p4) pos) (tRevA X.K te) := by
  refine ⟨fun pins s σ H Q I h => ?_⟩
  refine Subscript_ (thn (he.run pins s σ H _ I h) fun v s1 ⟨x, H1, I1, r1, a, xs, ex, q⟩ => ?_)
  subst ex; cases r1
  have hst : PO X (some (.UnaryOp .USub (.Constant (.int 1) k p1) p3)) (tPart (tUn (rU fun i => .int (-i)) (tC (.int 1)))) := po_some (pe_un un_neg pe_int)
  refine wpAny_Slice (thn (po_none.run pins s1 σ H1 (fun o H2 => o = none ∧ H2 = H1) I1 ⟨rfl, rfl⟩) fun vl s2 ⟨l, H2, I2, pl, el, e2⟩ => ?_)
  subst el e2
  refine thn (po_none.run pins s2 σ H2 (fun o H3 => o = none ∧ H3 = H2) I2 ⟨rfl, rfl⟩) fun vu s3 ⟨u, H3, I3, pu, eu, e3⟩ => ?_
  subst eu e3
  refine thn (hst.run pins s3 σ H3 (fun o H4 => o = some (-1) ∧ H4 = H3) I3 ⟨1, rfl, -1, rfl, rfl, rfl⟩) fun vs s4 ⟨o, H4, I4, ps, eo, e4⟩ => ?_
  subst eo e4
  have I5 : Inv X pins σ H4 { s4 with heap := s4.heap.push { cls := .type "slice", data := .fields #[vl, vu, vs] } } := I4.kept (t' := s4.toks) fun b ob q => Heap.get?_push_of_some _ q
  show wpAny (model X.prog X.w) X.A (subscriptTail e (.Slice none none (some (.UnaryOp .USub (.Constant (.int 1) k p1) p3)) p4) (.ref a) (.ref s4.heap.objs.size)) (EP X pins σ Q) X.xe { s4 with heap := s4.heap.push { cls := .type "slice", data := .fields #[vl, vu, vs] } }
  rcases q with ⟨hx, q⟩ | ⟨hx, q⟩
  · obtain ⟨its, r, ht, hz⟩ := I5.list hx
    have hlen := r.length
    refine tail_any (ops := [.ref a, .ref s4.heap.objs.size]) ht.isList.typeIs PySem.slot_list_getitem.lookup ?_ (by with_unfolding_all rfl)
    refine wpAny_getItem_list_slice ht.isList (Heap.IsSliceOf.new _ vl vu vs) pl pu ps (by decide) ?_ (by rw [List.size_toArray]; omega)
    rw [PySem.W.krv_pick]
    exact ⟨.ref _, _, I5.laid (t' := s4.toks) (o := .lst xs.reverse) (fun b ob q => Heap.get?_push_of_some _ q) (Nat.le_refl _) ⟨by rw [List.length_reverse]; exact hz, _, 0, r.reverse, Heap.get?_push_size _ rfl⟩, rfl, q _ (I5.hok.fresh (Nat.le_refl _))⟩
  · obtain ⟨its, r, ht, hz⟩ := I5.tuple hx
    have hlen := r.length
    refine tail_any (ops := [.ref a, .ref s4.heap.objs.size]) ht.typeIs PyProof.Rows.slot_tuple_getitem.lookup ?_ (by with_unfolding_all rfl)
    cases pl
    cases pu
    cases ps
    refine get_rev (items := its.toArray) ht (Heap.IsSliceOf.new _ _ _ _) ?_ (by rw [List.size_toArray]; omega)
    exact ⟨.ref _, _, I5.laid (t' := s4.toks) (o := .tup xs.reverse) (fun b ob q => Heap.get?_push_of_some _ q) (Nat.le_refl _) ⟨by rw [List.length_reverse]; exact hz, _, r.reverse, ⟨_, Heap.get?_push_size _ rfl, rfl, _, rfl⟩⟩, rfl, q _ (I5.hok.fresh (Nat.le_refl _))⟩
def revAE (f : S → OE) : S → OE := fun st => (f st).bind fun v st1 => match v with
  | .d (.tup xs) => .ok (.d (.tup xs.reverse)) st1
  | _ => match rdOf v st1 with
    | some xs => newLst xs.reverse st1
    | none => .bad
theorem i_revA {f : S → OE} (hK : X.K = c.K) (he : PE X e (tI c m W f)) : PE X (.Subscript e (.Slice none none (some (.UnaryOp .USub (.Constant (.int 1) k p1) p3)) p4) pos) (tI c m W (revAE f)) :=
  PE_imp (pe_revA he) fun σ H Q ⟨st, F, α, sr, p⟩ =>
  kE pstE sr p fun v st1 x F1 α1 H1 _ s1 r1 p1 => by
    rw [hK]
    split at p1
    · cases r1 with
      | @tup a vs xs q1 q2 =>
        refine ⟨a, vs, rfl, .inr ⟨q1, fun q hq => ?_⟩⟩
        obtain ⟨e4, s4⟩ := s1.newT (o := .tup vs.reverse) hq
        exact p1 (.ref q) F1 α1 _ e4 s4 (.tup (.inl (.inl upd_same)) (Reps.mono e4.ev q2.rev))
    · split at p1
      · rename_i xs hx
        obtain ⟨a, vs, rfl, hs, q1⟩ := rdOf_ok s1 r1 hx
        exact ⟨a, vs, rfl, .inl ⟨hs, fun q hq => newLst_ok s1 q1.rev hq p1⟩⟩
      · exact p1.elim
/-! ### names of the module, names of built-in kinds -/
theorem i_glob {x : Str} {u : Value} {v : V} {y : D} (hX : CxA c X) (hm : c.mg x = some u) (hv : RelV v u) (r : ∀ F H, Rep c F H y v) (hg : Gl X x := by rfl) (hdb : (x == ("__debug__" : Str)) = false := by decide) : PE X (.Name x pos) (tI c m W (cE y)) :=
  i_c ⟨fun pins s σ H Q I q => ld_glob I hg (by rw [hX.mg]; exact hm) ⟨v, H, I, hv, q⟩ hdb⟩ r
theorem i_kind {x : Str} {T : String} (hX : CxA c X) (hm : c.mg x = none) (hv : bootBuiltins x = some (.type T)) (hg : Gl X x := by rfl) (hn : x ≠ "__name__" := by decide) (hdb : (x == ("__debug__" : Str)) = false := by decide) : PE X (.Name x pos) (tI c m W (cE (.ty T))) :=
  i_c ⟨fun pins s σ H Q I q => ld_blt I hg (by rw [hX.mg]; exact hm) hv ⟨.ty T, H, I, rfl, q⟩ hn hdb⟩ fun _ _ => .ty
end
end Sh
end
section
set_option Elab.async false
set_option linter.all false
set_option maxRecDepth 100000
set_option maxHeartbeats 4000000
namespace Sh
open PySem PySem.Spec PyProof.Rows
open L2 hiding St

/-! ### what a body's rules want -/
structure Bd (c : Cn) (m : Fm) (W : WX) (X : Cx) (k : Nat) : Prop where
  hX : CxA c X
  calm : X.calm = true
  room : Room k X.A
  tk : L2N.Takes X W
  nd : X.N.Nodup
theorem takes0N {X : Cx} : L2N.Takes X WF := fun _ _ x => by
  obtain ⟨_, _, _, _, _, _, _, _, _, _, _, _, _, _, _, _, z⟩ := x
  exact z.elim
theorem Bd.K {c : Cn} {m : Fm} {W : WX} {X : Cx} {k : Nat} (b : Bd c m W X k) : X.K = c.K := b.hX.K
theorem Bd.blk {c : Cn} {m : Fm} {W : WX} {X : Cx} {k : Nat} (b : Bd c m W X k) {s : Shared} {H : Hp} {scope : Scope} {cenv : Env} {fp : List Addr} : Bd c m WF (X.blk s H scope cenv fp) k :=
  ⟨⟨b.hX.prog, b.hX.w, b.hX.K, b.hX.mg, b.hX.base⟩, b.calm, b.room, takes0N, b.nd⟩
theorem Bd.tr {c : Cn} {m : Fm} {W W' : WX} {X : Cx} {k : Nat} (b : Bd c m W X k) {pn : List (Addr × Obj)} {xe : Value → Shared → Prop} (tk : L2N.Takes (X.tr pn xe) W') : Bd c m W' (X.tr pn xe) k :=
  ⟨⟨b.hX.prog, b.hX.w, b.hX.K, b.hX.mg, b.hX.base⟩, b.calm, b.room, tk, b.nd⟩
theorem CxA.suite {c : Cn} {X : Cx} (h : CxA c X) {a : Addr} {pn : List (Addr × Obj)} : CxA c (X.suite a pn) := ⟨h.prog, h.w, h.K, h.mg, h.base⟩
theorem CxA.blk {c : Cn} {X : Cx} (h : CxA c X) {s : Shared} {H : Hp} {scope : Scope} {cenv : Env} {fp : List Addr} : CxA c (X.blk s H scope cenv fp) := ⟨h.prog, h.w, h.K, h.mg, h.base⟩
theorem CxM.tr {m : Fm} {X : Cx} (h : CxM m X) {pn : List (Addr × Obj)} {xe : Value → Shared → Prop} : CxM m (X.tr pn xe) := ⟨h.s0, h.H0, h.outer, h.ex⟩
theorem Bd.lam {c : Cn} {m m' : Fm} {W W' : WX} {X : Cx} {k k' : Nat} (b : Bd c m W X k) {A : Around} {outer : List Env} {s : Shared} {H : Hp} {E : XK} {scope : Scope} {f c' : Addr} (hr : Room k' (A.deeper (LamX.lamEnv X scope s.heap.objs.size f c'))) (tk : L2N.Takes (lamN X A outer s H E scope f c') W') : Bd c m' W' (lamN X A outer s H E scope f c') k' :=
  ⟨⟨b.hX.prog, b.hX.w, b.hX.K, b.hX.mg, b.hX.base⟩, rfl, hr, tk, b.nd⟩
abbrev cxD (c : Cn) (N : List Str) (qual : Str) (scope : Scope) (f : Addr) (cdv : Value) (A : Around) (outer : List Env) (s : Shared) (H : Hp) (E : XK) : Cx := cxOf (L2N.CX c.P c.w) c.P c.w c.K c.mg c.base N qual scope f cdv A outer s H E
abbrev WD (E : XK) : WX := fun cls d _ H => E cls d H
/-- a def by its body's mirror -/
theorem fun_sh {c : Cn} {k : Nat} {f : Addr} {x qual : Str} {params : Arguments} {body : List Stmt} {scope : Scope} {fd : FuncData} {N ps : List Str} {G : S → OS} (F : FunD c.K x qual params body scope [] [] f fd) (Sc : FnScope N ps scope) (hb : Binds c.K fd ps [])
    (hbody : ∀ (cdv : Value) (A : Around) (outer : List Env) (s : Shared) (H : Hp) (F : Fz) (io : List Addr) (E : XK), (f = He.fAd c.K (x, none) → cdv = .ref (He.codeOf c.K (x, none))) →
      Bd c ⟨s, H, outer, F, io, none⟩ (WD E) (cxD c N qual scope f cdv A outer s H E) k → CxM ⟨s, H, outer, F, io, none⟩ (cxD c N qual scope f cdv A outer s H E) →
      PSs (cxD c N qual scope f cdv A outer s H E) body (tS c ⟨s, H, outer, F, io, none⟩ (WD E) G)) : FnS c (k + 1) f (runD ps.length N.length G) := by
  obtain ⟨oc, od, dV, kV, doc, pm, an, cdv, ct, osl, rfl, lk, hcd, _, _⟩ := F.ex
  refine fnS_of lk hcd Sc hb fun A outer s H F io E hr tk => hbody cdv A outer s H F io E (fun hf => ?_) ⟨⟨rfl, rfl, rfl, rfl, rfl⟩, rfl, hr, tk, Sc.nd⟩ ⟨rfl, rfl, rfl, rfl⟩
  subst hf
  obtain ⟨k0, e⟩ := He.codeIn_ref hcd
  rw [He.codeOf_eq lk e]
  exact e
theorem codeRef {c : Cn} {k : Nat} {f : Addr} {x qual : Str} {params : Arguments} {body : List Stmt} {scope : Scope} {fd : FuncData} (F : FunD c.K x qual params body scope [] [] f fd) : PySem.W.codeIn c.K fd.code qual = true := by
  obtain ⟨oc, od, dV, kV, doc, pm, an, cdv, ct, osl, rfl, lk, hcd, _, _⟩ := F.ex
  exact hcd

/-! ### the law's promise -/
def spL (T : List (Addr × Str)) (K : PySem.W.Frag) (nl : Nat) (G : S → OS) : Sp := fun vs H Q E => ∃ (a : Addr) (ns : List Int), vs = [.ref a] ∧ LamX.Tabs T H ∧ SqL K H a (ns.map V.int) ∧ (∀ H', Q (.bl true) H') ∧
  ∀ y, (y = D.lst (ns.map D.int) ∨ y = D.klst (ns.map D.int)) → ∃ cs, runD 1 nl G [.d y] = .ok (.d (.bl true)) cs
theorem reps_int {c : Cn} {F : Fz} {H : Hp} : ∀ ns : List Int, Reps c F H (ns.map D.int) (ns.map V.int)
  | [] => .nil
  | _ :: r => .cons .int (reps_int r)
theorem script_at {c : Cn} {H : Hp} {a : Addr} {ns : List Int} (h : SqL c.K H a (ns.map V.int)) : ∃ (F : Fz) (y : D), Dom F H ∧ (y = D.lst (ns.map D.int) ∨ y = D.klst (ns.map D.int)) ∧ Rep c F H y (.ref a) := by
  rcases h with (h | ⟨o, h⟩) | h
  · exact ⟨fun b => b = a, _, fun b hb => by cases hb; exact ⟨_, h⟩, .inl rfl, .lst rfl h (reps_int ns)⟩
  · exact ⟨fun _ => False, _, fun b hb => hb.elim, .inr rfl, .klst (.inl ⟨o, h⟩) (reps_int ns)⟩
  · exact ⟨fun _ => False, _, fun b hb => hb.elim, .inr rfl, .klst (.inr h) (reps_int ns)⟩
theorem fnOk_law {c : Cn} {k : Nat} {f : Addr} {x qual p : Str} {params : Arguments} {body : List Stmt} {scope : Scope} {fd : FuncData} {N : List Str} {G : S → OS} (F : FunD c.K x qual params body scope [] [] f fd) (Sc : FnScope N [p] scope)
    (hbody : ∀ (cdv : Value) (A : Around) (outer : List Env) (s : Shared) (H : Hp) (F : Fz) (io : List Addr) (E : XK), (f = He.fAd c.K (x, none) → cdv = .ref (He.codeOf c.K (x, none))) →
      Bd c ⟨s, H, outer, F, io, none⟩ (WD E) (cxD c N qual scope f cdv A outer s H E) k → CxM ⟨s, H, outer, F, io, none⟩ (cxD c N qual scope f cdv A outer s H E) →
      PSs (cxD c N qual scope f cdv A outer s H E) body (tS c ⟨s, H, outer, F, io, none⟩ (WD E) G)) : FnOk c.P c.w c.K c.mg c.base (L2N.CX c.P c.w) (k + 1) f fd [p] (spL c.T c.K N.length G) := by
  obtain ⟨oc, od, dV, kV, doc, pm, an, cdv, ct, osl, rfl, lk, hcd, _, _⟩ := F.ex
  refine ⟨fun vs H Q E ⟨a, ns, e, _⟩ => by rw [e]; rfl, fun A outer s H args us vs Q E hr e0 hbt hv h => ?_⟩
  obtain ⟨a, ns, rfl, ht, hs, hQ, hm⟩ := h
  obtain ⟨Fz, y, hd, hy, rep⟩ := script_at hs
  obtain ⟨cs, hrun⟩ := hm y hy
  have ha : ArgsOk c (ThkOk c s H Fz outer) Fz H [.d y] [.ref a] [] := .d rep .nil
  refine LamX.run_ofS lk hcd Sc hr e0 hbt hv rfl fun hr' => ?_
  refine ⟨_, hbody cdv A outer s H Fz [] E (fun hf => ?_) ⟨⟨rfl, rfl, rfl, rfl, rfl⟩, rfl, hr', L2N.takes_of rfl rfl rfl rfl, Sc.nd⟩ ⟨rfl, rfl, rfl, rfl⟩, startS N.length [.d y], Fz, [], start_sr ha .nil hd ht, ?_⟩
  · subst hf
    obtain ⟨k0, e⟩ := He.codeIn_ref hcd
    rw [He.codeOf_eq lk e]
    exact e
  · unfold runD at hrun
    rw [if_pos (show [Ar.d y].length = 1 from rfl)] at hrun
    generalize G (startS N.length [.d y]) = o at hrun ⊢
    cases o with
    | bad => cases hrun
    | exc nm z st => cases hrun
    | ok fl st =>
      cases fl with
      | bk => cases hrun
      | ct => cases hrun
      | nx => cases hrun
      | ret v =>
        intro w σ' F' α' H' e s' r
        cases v with
        | d z =>
          cases hrun
          cases r
          exact hQ H'
        | c j =>
          exfalso
          simp only [outR] at hrun
          split at hrun
          · cases hrun
          · split at hrun <;> cases hrun
        | t _ _ _ => cases hrun
        | x _ _ => cases hrun
/-! ### own errors, by a Bool -/
def oexB (K : PySem.W.Frag) (C : Addr) : Bool := match K.lookup C with
  | some ⟨.type "type", _, .cls cd, sl⟩ => (match cd.mro, sl.toList with
    | .ref C' :: bm, [_, _, _, _, some (.builtin n), _] => C' == C && (n == "ValueError.__new__" && (!cd.hasDel && (cd.hasDict && PySem.HandSPX.refsVE bm)))
    | _, _ => false)
  | _ => false
def exOneB (K : PySem.W.Frag) (fI C : Addr) : Bool :=
  oexB K C && (He.eqO (PySem.W.findIn K (.ref C) "__setattr__") (some (some (.builtin "object.__setattr__"))) && (decide (PySem.W.subIn K (.ref C) (.type "BaseException") = some true) && (decide (PySem.W.typeIn K (.ref C) = some (.type "type")) && (PySem.W.keepIn K (.ref C) &&
  (He.eqO (PySem.W.findIn K (.ref C) "__getattribute__") (some (some (.builtin "BaseException.__getattribute__"))) && (He.eqO (PySem.W.findIn K (.ref C) "__getattr__") (some none) && (PySem.W.hasDictIn K C && (He.eqO (PySem.W.findIn K (.ref C) "__class__") (some (some (.builtin "object.__class__"))) &&
  (He.eqO (PySem.W.specialIn K (.builtin "object.__class__") "__get__") (some (some (.builtin "getset_descriptor.__get__"))) && (decide (PySem.W.takesIn K (.builtin "object.__class__") = some true) && (decide (PySem.W.mroIn K C (.type "object") = some true) &&
  (He.eqO (PySem.W.findIn K (.ref C) "what") (some none) && He.eqO (PySem.W.findIn K (.ref C) "__init__") (some (some (.ref fI)))))))))))))))
def clsB (K : PySem.W.Frag) (fI : Addr) (tab : List (Str × List Str)) : Bool := tab.all fun p => exOneB K fI (He.ga K p.1) && tab.all fun q =>
  decide (PySem.W.exmOne K (.ref (He.ga K p.1)) (.ref (He.ga K q.1)) = some (p.2.contains q.1)) && decide (PySem.W.kitOne K (.ref (He.ga K p.1)) (.ref (He.ga K q.1)) = some (p.2.contains q.1))
def iniB (K : PySem.W.Frag) (fI : Addr) : Bool := decide (PySem.W.typeIn K (.ref fI) = some (.type "function")) && (match PySem.W.findCls K (.type "ValueError") (.type "type") "__init__" with
  | some (.val v) => decide (v = .builtin "ValueError.__init__")
  | _ => false)
theorem iniB_ok {K : PySem.W.Frag} {fI : Addr} (h : iniB K fI = true) : PySem.W.typeIn K (.ref fI) = some (.type "function") ∧ PySem.W.findCls K (.type "ValueError") (.type "type") "__init__" = some (.val (.builtin "ValueError.__init__")) := by
  obtain ⟨h1, h2⟩ := Bool.and_eq_true_iff.mp h
  refine ⟨of_decide_eq_true h1, ?_⟩
  split at h2
  · rename_i v hv
    rw [hv, of_decide_eq_true h2]
  · cases h2
theorem oexB_ok {K : PySem.W.Frag} {C : Addr} (h : oexB K C = true) : ∃ nm q N bs bm sn sub ab col dd k0 k1 k2 k3 k5, K.lookup C = some (excClassObj nm q C N bs bm true sn sub ab col dd k0 k1 k2 k3 k5 "ValueError.__new__") ∧ PySem.HandSPX.refsVE bm = true := by
  unfold oexB at h
  split at h
  · rename_i dd cd sl ho
    split at h
    · rename_i C' bm k0 k1 k2 k3 n k5 hm hs
      simp only [Bool.and_eq_true, beq_iff_eq, Bool.not_eq_true'] at h
      obtain ⟨rfl, rfl, hdel, hdict, hbm⟩ := h
      obtain ⟨nm, bs, mro, ns, qn, hd, sn, sub, ab, col, del⟩ := cd
      dsimp only at hm hdel hdict
      subst hm hdel hdict
      have hsl : sl = #[k0, k1, k2, k3, some (.builtin "ValueError.__new__"), k5] := by
        obtain ⟨l⟩ := sl
        simp only at hs
        rw [hs]
      subst hsl
      exact ⟨nm, qn, ns, bs, bm, sn, sub, ab, col, dd, k0, k1, k2, k3, k5, ho, hbm⟩
    · cases h
  · cases h
theorem exOne_ok {c : Cn} {fI C : Addr} (h : exOneB c.K fI C = true) : ExOk c fI C := by
  unfold exOneB at h
  simp only [Bool.and_eq_true, decide_eq_true_eq] at h
  obtain ⟨h1, h2, h3, h4, h5, h6, h7, h8, h9, h10, h11, h12, h13, h14⟩ := h
  have e2 := He.eqO_ok h2
  have e6 := He.eqO_ok h6
  have e7 := He.eqO_ok h7
  exact ⟨⟨oexB_ok h1, e2, h3, h4, h5⟩, ⟨e6, e7, h3, h8, He.eqO_ok h9, He.eqO_ok h10, h11, h12⟩, ⟨e6, e7, h3, h8⟩, He.eqO_ok h13, He.eqO_ok h14⟩
theorem cls_of {c : Cn} {fI : Addr} {tab : List (Str × List Str)} (h : clsB c.K fI tab = true) (hg : ∀ nm ∈ tab.map (·.1), c.mg nm = some (.ref (He.ga c.K nm))) : ClsOk c fI tab := by
  have key := List.all_eq_true.mp h
  refine ⟨fun nm C hn hm => ?_, fun nm us hp n2 hn2 C C2 hm hm2 => ?_⟩
  · obtain ⟨p, hp, rfl⟩ := List.mem_map.mp hn
    have e := (hg _ hn).symm.trans hm
    cases e
    exact exOne_ok (Bool.and_eq_true_iff.mp (key p hp)).1
  · obtain ⟨q, hq, rfl⟩ := List.mem_map.mp hn2
    have e := (hg nm (List.mem_map.mpr ⟨_, hp, rfl⟩)).symm.trans hm
    have e2 := (hg _ hn2).symm.trans hm2
    cases e
    cases e2
    have z := List.all_eq_true.mp (Bool.and_eq_true_iff.mp (key _ hp)).2 q hq
    simp only [Bool.and_eq_true, decide_eq_true_eq] at z
    exact z
/-! ### the lambdas' tables, one for each def -/
def uniqB (K : PySem.W.Frag) (tf : List He.Defn) : Bool := tf.all fun x => tf.all fun y => decide (x = y) || !decide ((He.cT K x).2 = (He.cT K y).2)
theorem uniq_ok {K : PySem.W.Frag} {tf : List He.Defn} (h : uniqB K tf = true) : ∀ x, x ∈ tf → ∀ q ∈ tf.map fun x => ((He.cT K x).2, (x.1 ++ ".<locals>.") ++ "<lambda>"), q.1 = (He.cT K x).2 → q.2 = (x.1 ++ ".<locals>.") ++ "<lambda>" := fun x hx q hq e => by
  obtain ⟨y, hy, rfl⟩ := List.mem_map.mp hq
  have z := List.all_eq_true.mp (List.all_eq_true.mp h x hx) y hy
  rw [Bool.or_eq_true, decide_eq_true_eq, Bool.not_eq_true', decide_eq_false_iff_not] at z
  rcases z with z | z
  · rw [z]
  · exact absurd e.symm z
end Sh
end
section
set_option Elab.async false
set_option linter.all false
set_option maxRecDepth 100000
set_option maxHeartbeats 4000000
namespace Sh
open PySem PySem.Spec PyProof.Rows
open L2 hiding St

/-! ### the rules in short -/
section
variable {X : Cx} {c : Cn} {m : Fm} {W : WX} {k j : Nat} {e a b : Expr} {es : List Expr} {pos p : Pos} {f fa fb : S → OE} {fs : List (S → OE)} {x : Str} {g : Addr} {d : List Ar → RD}
theorem c_add (hX : CxA c X) (ha : PE X a (tI c m W fa)) (hb : PE X b (tI c m W fb)) : PE X (.BinOp a .Add b pos) (tI c m W (bin2 addV fa fb)) := i_op op_addA (by rw [hX.K]; exact add_ok) ha hb
theorem c_sub (hX : CxA c X) (ha : PE X a (tI c m W fa)) (hb : PE X b (tI c m W fb)) : PE X (.BinOp a .Sub b pos) (tI c m W (bin2 subV fa fb)) := i_op op_sub int_ok0 ha hb
theorem c_mul (hX : CxA c X) (ha : PE X a (tI c m W fa)) (hb : PE X b (tI c m W fb)) : PE X (.BinOp a .Mult b pos) (tI c m W (bin2 mulV fa fb)) := i_op op_mulA (by rw [hX.K]; exact mul_ok) ha hb
theorem c_div (hX : CxA c X) (ha : PE X a (tI c m W fa)) (hb : PE X b (tI c m W fb)) : PE X (.BinOp a .FloorDiv b pos) (tI c m W (bin2 divV fa fb)) := i_op op_fdivA (int_ok fun i j h => by have q := of_decide_eq_true h; exact q) ha hb
theorem c_mod (hX : CxA c X) (ha : PE X a (tI c m W fa)) (hb : PE X b (tI c m W fb)) : PE X (.BinOp a .Mod b pos) (tI c m W (bin2 modV fa fb)) := i_op op_modN (int_ok fun i j h => by have q := of_decide_eq_true h; exact q) ha hb
theorem c_pow (hX : CxA c X) (ha : PE X a (tI c m W fa)) (hb : PE X b (tI c m W fb)) : PE X (.BinOp a .Pow b pos) (tI c m W (bin2 powV fa fb)) := i_op op_pow (int_ok fun i j h => by have q := of_decide_eq_true h; exact q) ha hb
theorem c_neg (ha : PE X a (tI c m W fa)) : PE X (.UnaryOp .USub a pos) (tI c m W (un1 negV fa)) := i_un un_neg neg_ok ha
def units_of (r : Room k X.A) : X.A.units + 64 < cLine := r.units
theorem c_eq (hu : X.A.units + 64 < cLine) (hX : CxA c X) (ha : PE X a (tI c m W fa)) (hb : PE X b (tI c m W fb)) : PE X (.Compare a [.Eq] [b] pos) (tI c m W (bin2 (eqV false) fa fb)) := i_cmp (op_eqD hu) (by rw [hX.K]; exact eq_ok) ha hb (nomark _)
theorem c_ne (hu : X.A.units + 64 < cLine) (hX : CxA c X) (ha : PE X a (tI c m W fa)) (hb : PE X b (tI c m W fb)) : PE X (.Compare a [.NotEq] [b] pos) (tI c m W (bin2 (eqV true) fa fb)) := i_cmp (op_neD hu) (by rw [hX.K]; exact ne_ok) ha hb (nomark _)
theorem c_lt (ha : PE X a (tI c m W fa)) (hb : PE X b (tI c m W fb)) : PE X (.Compare a [.Lt] [b] pos) (tI c m W (bin2 ltV fa fb)) := i_cmp op_lt cmp_ok ha hb (nomark _)
theorem c_le (ha : PE X a (tI c m W fa)) (hb : PE X b (tI c m W fb)) : PE X (.Compare a [.LtE] [b] pos) (tI c m W (bin2 leV fa fb)) := i_cmp op_le cmp_ok ha hb (nomark _)
theorem c_gt (ha : PE X a (tI c m W fa)) (hb : PE X b (tI c m W fb)) : PE X (.Compare a [.Gt] [b] pos) (tI c m W (bin2 gtV fa fb)) := i_cmp op_gt cmp_ok ha hb (nomark _)
theorem c_ge (ha : PE X a (tI c m W fa)) (hb : PE X b (tI c m W fb)) : PE X (.Compare a [.GtE] [b] pos) (tI c m W (bin2 geV fa fb)) := i_cmp op_ge cmp_ok ha hb (nomark _)
theorem c_is (ha : PE X a (tI c m W fa)) (hb : PE X b (tI c m W fb)) : PE X (.Compare a [.Is] [b] pos) (tI c m W (bin2 (isNV false) fa fb)) := i_cmp op_isN isN_ok ha hb (nomark _)
theorem c_isnot (ha : PE X a (tI c m W fa)) (hb : PE X b (tI c m W fb)) : PE X (.Compare a [.IsNot] [b] pos) (tI c m W (bin2 (isNV true) fa fb)) := i_cmp op_notN notN_ok ha hb (nomark _)
theorem q_eq (hu : X.A.units + 64 < cLine) (hX : CxA c X) (ha : PE X a (tI c m W fa)) (hb : PE X b (tI c m W fb)) : PT X (.Compare a [.Eq] [b] pos) (tT c m W (bin2 (eqV false) fa fb)) := i_testc (op_eqD hu) (by rw [hX.K]; exact eq_ok) ha hb (nomark _)
theorem q_ne (hu : X.A.units + 64 < cLine) (hX : CxA c X) (ha : PE X a (tI c m W fa)) (hb : PE X b (tI c m W fb)) : PT X (.Compare a [.NotEq] [b] pos) (tT c m W (bin2 (eqV true) fa fb)) := i_testc (op_neD hu) (by rw [hX.K]; exact ne_ok) ha hb (nomark _)
theorem q_lt (ha : PE X a (tI c m W fa)) (hb : PE X b (tI c m W fb)) : PT X (.Compare a [.Lt] [b] pos) (tT c m W (bin2 ltV fa fb)) := i_testc op_lt cmp_ok ha hb (nomark _)
theorem q_le (ha : PE X a (tI c m W fa)) (hb : PE X b (tI c m W fb)) : PT X (.Compare a [.LtE] [b] pos) (tT c m W (bin2 leV fa fb)) := i_testc op_le cmp_ok ha hb (nomark _)
theorem q_gt (ha : PE X a (tI c m W fa)) (hb : PE X b (tI c m W fb)) : PT X (.Compare a [.Gt] [b] pos) (tT c m W (bin2 gtV fa fb)) := i_testc op_gt cmp_ok ha hb (nomark _)
theorem q_ge (ha : PE X a (tI c m W fa)) (hb : PE X b (tI c m W fb)) : PT X (.Compare a [.GtE] [b] pos) (tT c m W (bin2 geV fa fb)) := i_testc op_ge cmp_ok ha hb (nomark _)
theorem q_is (ha : PE X a (tI c m W fa)) (hb : PE X b (tI c m W fb)) : PT X (.Compare a [.Is] [b] pos) (tT c m W (bin2 (isNV false) fa fb)) := i_testc op_isN isN_ok ha hb (nomark _)
theorem q_isnot (ha : PE X a (tI c m W fa)) (hb : PE X b (tI c m W fb)) : PT X (.Compare a [.IsNot] [b] pos) (tT c m W (bin2 (isNV true) fa fb)) := i_testc op_notN notN_ok ha hb (nomark _)
theorem c_ix (hX : CxA c X) (ha : PE X a (tI c m W fa)) (hb : PE X b (tI c m W fb)) (hs : PlainIx b := by intro _ _; rfl) : PE X (.Subscript a b pos) (tI c m W (bin2 ixV fa fb)) := i_ix ix_seq (by rw [hX.K]; exact ix_ok) ha hb hs
theorem c_len (hX : CxA c X) (hm : c.mg "len" = none) (ha : PA X [e] (tA c m W (seqE fs))) (hg : Gl X "len" := by rfl) (he : starEach [e] X.env = (false, eval e X.env) :: starEach [] X.env := by rfl) (hpl : (backTo pos (starEach [] X.env)).any (·.1) = false := by rfl) :
    PE X (.Call (.Name "len" p) [e] [] pos) (tI c m W (callE lenV fs)) := i_callB call_len (by rw [hX.K]; exact len_ok) (by rw [hX.mg]; exact hm) boot_len ha hg (by decide) (by decide) he hpl
theorem c_max (hc : X.calm = true) (hX : CxA c X) (hm : c.mg "max" = none) (ha : PA X [e, a] (tA c m W (seqE fs))) (hg : Gl X "max" := by rfl) (he : starEach [e, a] X.env = (false, eval e X.env) :: starEach [a] X.env := by rfl) (hpl : (backTo pos (starEach [a] X.env)).any (·.1) = false := by rfl) :
    PE X (.Call (.Name "max" p) [e, a] [] pos) (tI c m W (callE maxV fs)) := i_callB (call_max2 hc) i2_ok (by rw [hX.mg]; exact hm) (by decide +kernel) ha hg (by decide) (by decide) he hpl
theorem c_min (hc : X.calm = true) (hX : CxA c X) (hm : c.mg "min" = none) (ha : PA X [e, a] (tA c m W (seqE fs))) (hg : Gl X "min" := by rfl) (he : starEach [e, a] X.env = (false, eval e X.env) :: starEach [a] X.env := by rfl) (hpl : (backTo pos (starEach [a] X.env)).any (·.1) = false := by rfl) :
    PE X (.Call (.Name "min" p) [e, a] [] pos) (tI c m W (callE minV fs)) := i_callB (call_min2 hc) i2_ok (by rw [hX.mg]; exact hm) (by decide +kernel) ha hg (by decide) (by decide) he hpl
theorem c_abs (hX : CxA c X) (hm : c.mg "abs" = none) (ha : PA X [e] (tA c m W (seqE fs))) (hg : Gl X "abs" := by rfl) (he : starEach [e] X.env = (false, eval e X.env) :: starEach [] X.env := by rfl) (hpl : (backTo pos (starEach [] X.env)).any (·.1) = false := by rfl) :
    PE X (.Call (.Name "abs" p) [e] [] pos) (tI c m W (callE absV fs)) := i_callB call_abs i1_ok (by rw [hX.mg]; exact hm) (by decide +kernel) ha hg (by decide) (by decide) he hpl
theorem c_int (hX : CxA c X) (hm : c.mg "int" = none) (ha : PA X [e] (tA c m W (seqE fs))) (hg : Gl X "int" := by rfl) (he : starEach [e] X.env = (false, eval e X.env) :: starEach [] X.env := by rfl) (hpl : (backTo pos (starEach [] X.env)).any (·.1) = false := by rfl) :
    PE X (.Call (.Name "int" p) [e] [] pos) (tI c m W (callE toIntV fs)) := i_callT call_int1 toInt_ok (by rw [hX.mg]; exact hm) (by decide +kernel) ha hg (by decide) (by decide) he hpl
theorem c_list (hX : CxA c X) (hm : c.mg "list" = none) (ha : PA X [e] (tA c m W (seqE fs))) (hg : Gl X "list" := by rfl) (he : starEach [e] X.env = (false, eval e X.env) :: starEach [] X.env := by rfl) (hpl : (backTo pos (starEach [] X.env)).any (·.1) = false := by rfl) :
    PE X (.Call (.Name "list" p) [e] [] pos) (tI c m W (callE listV fs)) := i_callT call_list_of (by rw [hX.K]; exact list_ok) (by rw [hX.mg]; exact hm) (by decide +kernel) ha hg (by decide) (by decide) he hpl
theorem c_tuple (hX : CxA c X) (hm : c.mg "tuple" = none) (ha : PA X [e] (tA c m W (seqE fs))) (hg : Gl X "tuple" := by rfl) (he : starEach [e] X.env = (false, eval e X.env) :: starEach [] X.env := by rfl) (hpl : (backTo pos (starEach [] X.env)).any (·.1) = false := by rfl) :
    PE X (.Call (.Name "tuple" p) [e] [] pos) (tI c m W (callE tupleV fs)) := i_callT call_tuple_of (by rw [hX.K]; exact tuple_ok) (by rw [hX.mg]; exact hm) (by decide +kernel) ha hg (by decide) (by decide) he hpl
theorem c_isi (hX : CxA c X) (hm : c.mg "isinstance" = none) (ha : PA X [e, a] (tA c m W (seqE fs))) (hg : Gl X "isinstance" := by rfl) (he : starEach [e, a] X.env = (false, eval e X.env) :: starEach [a] X.env := by rfl) (hpl : (backTo pos (starEach [a] X.env)).any (·.1) = false := by rfl) :
    PE X (.Call (.Name "isinstance" p) [e, a] [] pos) (tI c m W (callE isiV fs)) := i_callB call_isi (by rw [hX.K]; exact isi_ok) (by rw [hX.mg]; exact hm) (by decide +kernel) ha hg (by decide) (by decide) he hpl
theorem c_gcd (hX : CxA c X) (hm : c.mg x = some (.builtin "math.gcd")) (ha : PA X [e, a] (tA c m W (seqE fs))) (hg : Gl X x := by rfl) (hdb : (x == ("__debug__" : Str)) = false := by decide) (he : starEach [e, a] X.env = (false, eval e X.env) :: starEach [a] X.env := by rfl) (hpl : (backTo pos (starEach [a] X.env)).any (·.1) = false := by rfl) :
    PE X (.Call (.Name x p) [e, a] [] pos) (tI c m W (callE gcdV fs)) := i_callF cr_gcd i2_ok (by rw [hX.mg]; exact hm) ha hg hdb he hpl
theorem c_call (bd : Bd c m W X k) (hf : FnS c j g d) (hm : c.mg x = some (.ref g)) (hk : PySem.W.keepIn c.K (.ref g) = true) (ha : PA X (e :: es) (tA c m W (seqE fs))) (hj : j ≤ k := by decide) (hg : Gl X x := by rfl)
    (hdb : (x == ("__debug__" : Str)) = false := by decide) (he : starEach (e :: es) X.env = (false, eval e X.env) :: starEach es X.env := by rfl) (hpl : (backTo pos (starEach es X.env)).any (·.1) = false := by rfl) :
    PE X (.Call (.Name x p) (e :: es) [] pos) (tI c m W (callE (callV d) fs)) := i_call bd.hX hf hm (bd.room.mono hj) bd.tk ha hk hg hdb he hpl
theorem c_callK (bd : Bd c m W X k) (hM : CxM m X) (hf : FnS c j g d) (hm : c.mg x = some (.ref g)) (hk : PySem.W.keepIn c.K (.ref g) = true) (ha : PA X (e :: es) (tA c m W (seqE fs))) (hj : j ≤ k := by decide) (hs : X.stack = X.env :: X.outer := by rfl) (hfr : X.env.frame = some X.env.locals := by rfl) (hg : Gl X x := by rfl)
    (hdb : (x == ("__debug__" : Str)) = false := by decide) (he : starEach (e :: es) X.env = (false, eval e X.env) :: starEach es X.env := by rfl) (hpl : (backTo pos (starEach es X.env)).any (·.1) = false := by rfl) :
    PE X (.Call (.Name x p) (e :: es) [] pos) (tI c m W (callE (callVT d) fs)) := i_callK bd.hX hM hs hfr hf hm (bd.room.mono hj) bd.tk ha hk hg hdb he hpl
theorem c_act {i : Nat} (bd : Bd c m W X k) (hM : CxM m X) (hj : 60 ≤ k := by decide) (hs : X.stack = X.env :: X.outer := by rfl) (hfr : X.env.frame = some X.env.locals := by rfl) (hN : X.N[i]? = some x := by rfl) (hv : Vis X.env.scope x := by first | exact .inl rfl | exact .inr (.inl rfl) | exact .inr (.inr rfl))
    (hd : (x == ("__debug__" : Str)) = false := by decide) (hcd : (x == ("__classdict__" : Str)) = false := by decide) : PE X (.Call (.Name x p) [] [] pos) (tI c m W (actE i)) := i_act bd.hX hM hs hfr (bd.room.mono hj) bd.tk hN hv hd hcd
variable {o : Expr} {fo : S → OE} {apos cpos : Pos}
theorem c_append (hX : CxA c X) (ho : PE X o (tI c m W fo)) (ha : PA X [e] (tA c m W (seqE fs))) (hbase : attributeBase o "append" X.env (eval o X.env) = eval o X.env := by rfl)
    (hfew : ((backTo cpos (starEach [e] X.env)).all (fun x => !x.1) && (backToKw cpos (keywordEach [] X.env)).all (fun x => x.1.isSome) && decide ([e].length + ([] : List Keyword).length + (if ([] : List Keyword).isEmpty then 0 else 1) < 30)) = true := by rfl)
    (hline : (apos.endLine == cpos.line) = true := by rfl) (hs : starEach [e] X.env = (false, eval e X.env) :: starEach [] X.env := by rfl) (hpl : (backTo cpos (starEach [] X.env)).any (·.1) = false := by rfl) : PE X (.Call (.Attribute o "append" apos) [e] [] cpos) (tI c m W (methE "list" appV fo fs)) :=
  i_meth hX.K PySem.F.plainAttrs_list PySem.F.slot_list_append PySem.F.type_list_append mt_append app_ok' ho ha hbase hfew hline hs hpl
theorem c_extend (hX : CxA c X) (ho : PE X o (tI c m W fo)) (ha : PA X [e] (tA c m W (seqE fs))) (hbase : attributeBase o "extend" X.env (eval o X.env) = eval o X.env := by rfl)
    (hfew : ((backTo cpos (starEach [e] X.env)).all (fun x => !x.1) && (backToKw cpos (keywordEach [] X.env)).all (fun x => x.1.isSome) && decide ([e].length + ([] : List Keyword).length + (if ([] : List Keyword).isEmpty then 0 else 1) < 30)) = true := by rfl)
    (hline : (apos.endLine == cpos.line) = true := by rfl) (hs : starEach [e] X.env = (false, eval e X.env) :: starEach [] X.env := by rfl) (hpl : (backTo cpos (starEach [] X.env)).any (·.1) = false := by rfl) : PE X (.Call (.Attribute o "extend" apos) [e] [] cpos) (tI c m W (methE "list" extV fo fs)) :=
  i_meth hX.K PySem.F.plainAttrs_list PySem.F.slot_list_extend PySem.F.type_list_extend mt_extend ext_ok ho ha hbase hfew hline hs hpl
theorem c_popAt (hX : CxA c X) (ho : PE X o (tI c m W fo)) (ha : PA X [e] (tA c m W (seqE fs))) (hbase : attributeBase o "pop" X.env (eval o X.env) = eval o X.env := by rfl)
    (hfew : ((backTo cpos (starEach [e] X.env)).all (fun x => !x.1) && (backToKw cpos (keywordEach [] X.env)).all (fun x => x.1.isSome) && decide ([e].length + ([] : List Keyword).length + (if ([] : List Keyword).isEmpty then 0 else 1) < 30)) = true := by rfl)
    (hline : (apos.endLine == cpos.line) = true := by rfl) (hs : starEach [e] X.env = (false, eval e X.env) :: starEach [] X.env := by rfl) (hpl : (backTo cpos (starEach [] X.env)).any (·.1) = false := by rfl) : PE X (.Call (.Attribute o "pop" apos) [e] [] cpos) (tI c m W (methE "list" popAtV fo fs)) :=
  i_meth hX.K PySem.F.plainAttrs_list PySem.F.slot_list_pop PySem.F.type_list_pop mt_popAt popAt_ok ho ha hbase hfew hline hs hpl
theorem c_pop (hX : CxA c X) (ho : PE X o (tI c m W fo)) (hbase : attributeBase o "pop" X.env (eval o X.env) = eval o X.env := by rfl) (hline : (apos.endLine == cpos.line) = true := by rfl) : PE X (.Call (.Attribute o "pop" apos) [] [] cpos) (tI c m W (methE "list" popV fo [])) :=
  i_meth0 hX.K PySem.F.plainAttrs_list PySem.F.slot_list_pop PySem.F.type_list_pop mt_pop pop_ok ho hbase hline
theorem c_join (hX : CxA c X) (ho : PE X o (tI c m W fo)) (ha : PA X [e] (tA c m W (seqE fs))) (hbase : attributeBase o "join" X.env (eval o X.env) = eval o X.env := by rfl)
    (hfew : ((backTo cpos (starEach [e] X.env)).all (fun x => !x.1) && (backToKw cpos (keywordEach [] X.env)).all (fun x => x.1.isSome) && decide ([e].length + ([] : List Keyword).length + (if ([] : List Keyword).isEmpty then 0 else 1) < 30)) = true := by rfl)
    (hline : (apos.endLine == cpos.line) = true := by rfl) (hs : starEach [e] X.env = (false, eval e X.env) :: starEach [] X.env := by rfl) (hpl : (backTo cpos (starEach [] X.env)).any (·.1) = false := by rfl) : PE X (.Call (.Attribute o "join" apos) [e] [] cpos) (tI c m W (methE "str" joinV fo fs)) :=
  i_meth hX.K PySem.F.plainAttrs_str PySem.F.slot_str_join PySem.F.type_str_join mt_join (by rw [hX.K]; exact join_ok) ho ha hbase hfew hline hs hpl
end
/-! ### how much there is of a thing: the turns that a loop is given -/
mutual
def szD : D → Nat
  | .tup xs => szDs xs + 1
  | .lst xs => szDs xs + 1
  | .klst xs => szDs xs + 1
  | .non => 1
  | .bl _ => 1
  | .int _ => 1
  | .str _ => 1
  | .obj _ => 1
  | .ty _ => 1
def szDs : List D → Nat
  | [] => 0
  | x :: xs => szD x + szDs xs
end
def fuelA : List Ar → Nat
  | [] => 2
  | .d x :: r => szD x + fuelA r
  | .o xs :: r => szDs xs + 1 + fuelA r
  | .t _ _ _ :: r => fuelA r
end Sh
end
section
set_option Elab.async false
set_option linter.all false
set_option maxRecDepth 100000
set_option maxHeartbeats 4000000
namespace Sh
open PySem PySem.Spec PyProof.Rows
open L2 hiding St

/-! ### how a mirror computes -/
def thS : OS → (S → OS) → OS
  | .ok .nx st, h => h st
  | o, _ => o
def setK (i : Nat) (v : Val) (st : S) : OS := .ok .nx { st with v := st.v.set i (some v) }
def retK (v : Val) (st : S) : OS := .ok (.ret v) st
def dropK (v : Val) (st : S) : OS := .ok .nx st
def varK : Option (Option Val) → S → OE
  | some (some v), st => .ok v st
  | _, _ => .bad
def tupK : Option (List D × S) → OE
  | some (xs, st) => .ok (.d (.tup xs)) st
  | none => .bad
def lstK : Option (List D × S) → OE
  | some (xs, st) => newLst xs st
  | none => .bad
def argK (d : List Ar → RD) (st : S) : Option (List Ar × List Nat) → OE
  | some (as, ns) => if noT as then afterD ns st (d as) else .bad
  | none => .bad
def argKT (d : List Ar → RD) (st : S) : Option (List Ar × List Nat) → OE
  | some (as, ns) => afterD ns st (d as)
  | none => .bad
def consA (v : Val) (st : S) : Option (List Ar × List Nat) → Option (List Ar × List Nat)
  | none => none
  | some (as, ns) => match v with
    | .d x => some (.d x :: as, ns)
    | .t ok nm x => some (.t ok nm x :: as, ns)
    | .x _ _ => none
    | .c n => match st.c[n]? with
      | some (.own xs) => if n ∈ ns then none else some (.o xs :: as, n :: ns)
      | some (.frz xs) => some (.d (.lst xs) :: as, ns)
      | none => none
def endD (n : Nat) : OS → RD
  | .ok (.ret v) st => outR n v st
  | .ok .nx st => .ok (.d .non) (st.c.take n)
  | .exc nm x st => .exc nm x (st.c.take n)
  | _ => .bad
def nextL (o : OS) (k : S → OS) : OS := match o with
  | .ok .nx st => k st
  | .ok .ct st => k st
  | .ok .bk st => .ok .nx st
  | o => o
section
variable {g h : S → OS} {f fa fb t : S → OE} {st st1 : S} {v : Val} {i : Nat} {x : D} {vs : List (Option Val)} {cs : List Cell} {fs : List (S → OE)} {nm : Str} {xs ys : List D} {ws : List Val}
theorem bind_exc {α β : Type} (nm : Str) (x : D) (st : S) (g : α → S → Out β) : (Out.exc nm x st : Out α).bind g = .exc nm x st := rfl
theorem bind_bad {α β : Type} (g : α → S → Out β) : (Out.bad : Out α).bind g = .bad := rfl
theorem e_seq : seqS g h st = thS (g st) h := by
  unfold seqS thS
  cases g st with
  | ok fl st1 => cases fl <;> rfl
  | exc _ _ _ => rfl
  | bad => rfl
theorem th_nx : thS (.ok .nx st) h = h st := rfl
theorem th_ret : thS (.ok (.ret v) st) h = .ok (.ret v) st := rfl
theorem th_bk : thS (.ok .bk st) h = .ok .bk st := rfl
theorem th_ct : thS (.ok .ct st) h = .ok .ct st := rfl
theorem th_exc : thS (.exc nm x st) h = .exc nm x st := rfl
theorem e_set : setS i f st = (f st).bind (setK i) := rfl
theorem e_setK : setK i v ⟨vs, cs⟩ = .ok .nx ⟨vs.set i (some v), cs⟩ := rfl
theorem e_ret : retS f st = (f st).bind retK := rfl
theorem e_retK : retK v st = .ok (.ret v) st := rfl
theorem e_drop : dropS f st = (f st).bind dropK := rfl
theorem e_dropK : dropK v st = .ok .nx st := rfl
theorem e_retN : retN st = .ok (.ret (.d .non)) st := rfl
theorem e_next : nextS st = .ok .nx st := rfl
theorem e_brk : brkS st = .ok .bk st := rfl
theorem e_cnt : cntS st = .ok .ct st := rfl
theorem e_if : ifS t g h st = (t st).bind (onB g h) := rfl
theorem e_ifE : ifE t fa fb st = (t st).bind (onB fa fb) := rfl
theorem e_and : andE fa fb st = (fa st).bind (onB fb (cE (.bl false))) := rfl
theorem e_or : orE fa fb st = (fa st).bind (onB (cE (.bl true)) fb) := rfl
theorem e_not : notE fa st = (fa st).bind (onB (cE (.bl false)) (cE (.bl true))) := rfl
theorem onB_t {β : Type} {t e : S → Out β} : onB t e (.d (.bl true)) st = t st := rfl
theorem onB_f {β : Type} {t e : S → Out β} : onB t e (.d (.bl false)) st = e st := rfl
theorem onB_b {β : Type} {t e : S → Out β} {b : Bool} : onB t e (.d (.bl b)) st = if b = true then t st else e st := by cases b <;> rfl
theorem e_var : varE i ⟨vs, cs⟩ = varK vs[i]? ⟨vs, cs⟩ := by
  unfold varE varK
  cases vs[i]? with
  | none => rfl
  | some o => cases o <;> rfl
theorem e_varK : varK (some (some v)) st = .ok v st := rfl
theorem e_c : cE x st = .ok (.d x) st := rfl
theorem e_bin {g : Val → Val → S → OE} : bin2 g fa fb st = (fa st).bind fun x st1 => (fb st1).bind fun y st2 => g x y st2 := rfl
theorem e_un {g : Val → S → OE} : un1 g fa st = (fa st).bind g := rfl
theorem e_call {g : List Val → S → OE} : callE g fs st = (seqE fs st).bind g := rfl
theorem e_nil : seqE [] st = .ok [] st := rfl
theorem e_cons : seqE (f :: fs) st = (f st).bind fun v st1 => (seqE fs st1).bind fun vs st2 => .ok (v :: vs) st2 := rfl
theorem e_tup : tupE fs st = (seqE fs st).bind fun vs st1 => tupK (toDs vs st1) := by
  unfold tupE
  congr 1
theorem e_tupK : tupK (some (xs, st)) = .ok (.d (.tup xs)) st := rfl
theorem e_lst : lstE fs st = (seqE fs st).bind fun vs st1 => lstK (toDs vs st1) := by
  unfold lstE
  congr 1
theorem e_lstK : lstK (some (xs, st)) = newLst xs st := rfl
theorem e_newLst : newLst xs ⟨vs, cs⟩ = .ok (.c cs.length) ⟨vs, cs ++ [.own xs]⟩ := rfl
theorem toDs_nil : toDs [] st = some ([], st) := rfl
theorem toDs_d : toDs (.d x :: ws) st = (toDs ws st).map fun p => (x :: p.1, p.2) := by
  simp only [toDs, toD]
  cases toDs ws st <;> rfl
theorem e_callV {d : List Ar → RD} : callV d ws st = argK d st (toArs ws st) := by
  unfold callV argK
  cases toArs ws st <;> rfl
theorem e_callVT {d : List Ar → RD} : callVT d ws st = argKT d st (toArs ws st) := by
  unfold callVT argKT
  cases toArs ws st <;> rfl
theorem ar_nil : toArs [] st = some ([], []) := rfl
theorem ar_cons : toArs (v :: ws) st = consA v st (toArs ws st) := by
  unfold consA
  simp only [toArs]
  try (cases toArs ws st <;> rfl)
theorem ar_d {as : List Ar} {ns : List Nat} : consA (.d x) st (some (as, ns)) = some (.d x :: as, ns) := rfl
theorem ar_t {b : Bool} {as : List Ar} {ns : List Nat} : consA (.t b nm x) st (some (as, ns)) = some (.t b nm x :: as, ns) := rfl
theorem e_argK {d : List Ar → RD} {as : List Ar} {ns : List Nat} (h : noT as = true) : argK d st (some (as, ns)) = afterD ns st (d as) := by
  show (if noT as = true then _ else _) = _
  rw [if_pos h]
theorem e_argKT {d : List Ar → RD} {as : List Ar} {ns : List Nat} : argKT d st (some (as, ns)) = afterD ns st (d as) := rfl
theorem af_d {ns : List Nat} {c' : List Cell} : afterD ns ⟨vs, cs⟩ (.ok (.d x) c') = .ok (.d x) ⟨vs, updC ns c' cs⟩ := rfl
theorem af_new {ns : List Nat} {c' : List Cell} : afterD ns ⟨vs, cs⟩ (.ok (.new xs) c') = newLst xs ⟨vs, updC ns c' cs⟩ := rfl
theorem af_exc {ns : List Nat} {c' : List Cell} : afterD ns ⟨vs, cs⟩ (.exc nm x c') = .exc nm x ⟨vs, updC ns c' cs⟩ := rfl
theorem up_nil {c' : List Cell} : updC [] c' cs = cs := by cases c' <;> rfl
theorem up_cons {n : Nat} {ns : List Nat} {cl : Cell} {c' : List Cell} : updC (n :: ns) (cl :: c') cs = updC ns c' (cs.set n cl) := rfl
theorem e_run {np nl : Nat} {as : List Ar} (h : as.length = np) : runD np nl g as = endD (inC as).length (g (startS nl as)) := by
  unfold runD
  rw [if_pos h]
  unfold endD
  cases g (startS nl as) with
  | ok fl st => cases fl <;> rfl
  | exc _ _ _ => rfl
  | bad => rfl
theorem end_ret {n : Nat} : endD n (.ok (.ret v) st) = outR n v st := rfl
theorem end_exc {n : Nat} : endD n (.exc nm x st) = .exc nm x (st.c.take n) := rfl
theorem end_nx {n : Nat} : endD n (.ok .nx st) = .ok (.d .non) (st.c.take n) := rfl
theorem out_d {n : Nat} : outR n (.d x) st = .ok (.d x) (st.c.take n) := rfl
variable {a b : Int}
theorem v_add : addV (.d (.int a)) (.d (.int b)) st = .ok (.d (.int (a + b))) st := rfl
theorem v_sub : subV (.d (.int a)) (.d (.int b)) st = .ok (.d (.int (a - b))) st := rfl
theorem v_mul (h : a.natAbs.log2 + b.natAbs.log2 < 1000000) : mulV (.d (.int a)) (.d (.int b)) st = .ok (.d (.int (a * b))) st := by
  show (if _ then _ else _) = _
  rw [if_pos h]; rfl
theorem v_div (h : b ≠ 0) (h2 : b.natAbs.log2 < 9000) : divV (.d (.int a)) (.d (.int b)) st = .ok (.d (.int (a.fdiv b))) st := by
  show (if decide (b ≠ 0 ∧ b.natAbs.log2 < 9000) = true then _ else _) = _
  rw [if_pos (decide_eq_true ⟨h, h2⟩)]; rfl
theorem v_mod (h : b ≠ 0) : modV (.d (.int a)) (.d (.int b)) st = .ok (.d (.int (a.fmod b))) st := by
  show (if decide (b ≠ 0) = true then _ else _) = _
  rw [if_pos (decide_eq_true h)]; rfl
theorem v_neg : negV (.d (.int a)) st = .ok (.d (.int (-a))) st := rfl
theorem v_lt : ltV (.d (.int a)) (.d (.int b)) st = .ok (.d (.bl (decide (a < b)))) st := rfl
theorem v_le : leV (.d (.int a)) (.d (.int b)) st = .ok (.d (.bl (decide (a ≤ b)))) st := rfl
theorem v_gt : gtV (.d (.int a)) (.d (.int b)) st = .ok (.d (.bl (decide (b < a)))) st := rfl
theorem v_ge : geV (.d (.int a)) (.d (.int b)) st = .ok (.d (.bl (decide (b ≤ a)))) st := rfl
theorem v_eqI : eqV false (.d (.int a)) (.d (.int b)) st = .ok (.d (.bl (a == b))) st := rfl
theorem v_neI : eqV true (.d (.int a)) (.d (.int b)) st = .ok (.d (.bl (!(a == b)))) st := rfl
theorem v_gcd : gcdV [.d (.int a), .d (.int b)] st = .ok (.d (.int ((Nat.gcd a.natAbs b.natAbs : Nat) : Int))) st := rfl
theorem v_abs : absV [.d (.int a)] st = .ok (.d (.int (if a < 0 then -a else a))) st := rfl
theorem v_max : maxV [.d (.int a), .d (.int b)] st = .ok (.d (.int (if b > a then b else a))) st := rfl
theorem v_int : toIntV [.d (.int a)] st = .ok (.d (.int a)) st := rfl
theorem v_ixT (h : atI xs a = some x) : ixV (.d (.tup xs)) (.d (.int a)) st = .ok (.d x) st := by
  unfold ixV seqOf
  simp only [h]
theorem v_ixC {n : Nat} {cl : Cell} (hc : st.c[n]? = some cl) (h : atI cl.xs a = some x) : ixV (.c n) (.d (.int a)) st = .ok (.d x) st := by
  unfold ixV seqOf
  simp only [hc, Option.map_some, h]
theorem v_lenT : lenV [.d (.tup xs)] st = .ok (.d (.int xs.length)) st := rfl
theorem v_lenL : lenV [.d (.lst xs)] st = .ok (.d (.int xs.length)) st := rfl
theorem e_run1 {nl : Nat} {x : Ar} : runD 1 nl g [x] = endD (inC [x]).length (g (startS nl [x])) := e_run rfl
theorem e_run2 {nl : Nat} {x y : Ar} : runD 2 nl g [x, y] = endD (inC [x, y]).length (g (startS nl [x, y])) := e_run rfl
theorem e_run3 {nl : Nat} {x y z : Ar} : runD 3 nl g [x, y, z] = endD (inC [x, y, z]).length (g (startS nl [x, y, z])) := e_run rfl
theorem e_run4 {nl : Nat} {x y z u : Ar} : runD 4 nl g [x, y, z, u] = endD (inC [x, y, z, u]).length (g (startS nl [x, y, z, u])) := e_run rfl
theorem s_d1 {nl : Nat} {x : D} : startS nl [.d x] = ⟨some (.d x) :: List.replicate (nl - 1) none, []⟩ := rfl
theorem s_d2 {nl : Nat} {x y : D} : startS nl [.d x, .d y] = ⟨some (.d x) :: some (.d y) :: List.replicate (nl - 2) none, []⟩ := rfl
theorem s_od {nl : Nat} {y : D} : startS nl [.o xs, .d y] = ⟨some (.c 0) :: some (.d y) :: List.replicate (nl - 2) none, [.own xs]⟩ := rfl
theorem s_oo {nl : Nat} : startS nl [.o xs, .o ys] = ⟨some (.c 0) :: some (.c 1) :: List.replicate (nl - 2) none, [.own xs, .own ys]⟩ := rfl
theorem s_o1 {nl : Nat} : startS nl [.o xs] = ⟨some (.c 0) :: List.replicate (nl - 1) none, [.own xs]⟩ := rfl
theorem s_odd {nl : Nat} {x y : D} : startS nl [.o xs, .d x, .d y] = ⟨some (.c 0) :: some (.d x) :: some (.d y) :: List.replicate (nl - 3) none, [.own xs]⟩ := rfl
theorem s_t1 {nl : Nat} {b : Bool} : startS nl [.t b nm x] = ⟨some (.t b nm x) :: List.replicate (nl - 1) none, []⟩ := rfl
theorem s_td {nl : Nat} {b : Bool} {y : D} : startS nl [.t b nm x, .d y] = ⟨some (.t b nm x) :: some (.d y) :: List.replicate (nl - 2) none, []⟩ := rfl
theorem ic_d {as : List Ar} : inC (.d x :: as) = inC as := rfl
theorem ic_o {as : List Ar} : inC (.o xs :: as) = .own xs :: inC as := rfl
theorem ic_t {as : List Ar} {b : Bool} : inC (.t b nm x :: as) = inC as := rfl
theorem ic_nil : inC [] = [] := rfl
theorem nt_d {as : List Ar} : noT (.d x :: as) = noT as := rfl
theorem nt_o {as : List Ar} : noT (.o xs :: as) = noT as := rfl
theorem nt_nil : noT [] = true := rfl
theorem e_argD {d : List Ar → RD} : argK d st (some ([.d x], [])) = afterD [] st (d [.d x]) := rfl
theorem e_argDD {d : List Ar → RD} {y : D} : argK d st (some ([.d x, .d y], [])) = afterD [] st (d [.d x, .d y]) := rfl
theorem e_meth {T : String} {g : Val → List Val → S → OE} {fo : S → OE} : methE T g fo fs st = (fo st).bind fun v st1 => if tyOk T v st1 = true then (seqE fs st1).bind fun vs st2 => g v vs st2 else .bad := rfl
theorem ty_c {n : Nat} : tyOk "list" (.c n) ⟨vs, cs⟩ = (cs[n]?).isSome := by
  unfold tyOk rdOf
  simp
theorem ty_s {z : Str} : tyOk "str" (.d (.str z)) st = true := rfl
theorem v_app {n : Nat} (h : cs[n]? = some (.own xs)) (hl : xs.length < 1000000) : appV (.c n) [.d x] ⟨vs, cs⟩ = .ok (.d .non) ⟨vs, cs.set n (.own (xs ++ [x]))⟩ := by
  unfold appV toD
  simp only [h, hl, if_true]
theorem v_extC {n k : Nat} {cl : Cell} (h : cs[n]? = some (.own xs)) (h2 : cs[k]? = some cl) (hl : xs.length + cl.xs.length ≤ 1000000) : extV (.c n) [.c k] ⟨vs, cs⟩ = .ok (.d .non) ⟨vs, cs.set n (.own (xs ++ cl.xs))⟩ := by
  unfold extV lstOf
  simp only [h, h2, Option.map_some, hl, if_true]
theorem v_pop {n : Nat} (h : cs[n]? = some (.own (xs ++ [x]))) : popV (.c n) [] ⟨vs, cs⟩ = .ok (.d x) ⟨vs, cs.set n (.own xs)⟩ := by
  unfold popV
  simp [h]
theorem e_lam {d : List Ar → RD} {caps : List Nat} {fb : S → OE} : lamE d caps fb fs st = match frzL caps st with
    | none => .bad
    | some (xs, st1) => match thkOf fb st.v.length caps xs with
      | none => .bad
      | some (ok, nm, y) => (seqE fs st1).bind fun vs st2 => match toArs vs st2 with
        | some (as, ns) => if noT as then afterD ns st2 (d (.t ok nm y :: as)) else .bad
        | none => .bad := rfl
theorem f_cons {gt : D → S → Option S} {ck : Option Nat} {all r : List D} (hg : gdOk ck all st = true) (hx : gt x st = some st1) : forL gt g ck all (x :: r) st = nextL (g st1) (forL gt g ck all r) := by
  rw [forL, if_pos hg]
  simp only [hx]
  unfold nextL
  cases g st1 with
  | ok fl _ => cases fl <;> rfl
  | exc _ _ _ => rfl
  | bad => rfl
theorem f_nil {gt : D → S → Option S} {ck : Option Nat} {all : List D} (hg : gdOk ck all st = true) : forL gt g ck all [] st = .ok .nx st := by rw [forL, if_pos hg]
theorem n_nx {k : S → OS} : nextL (.ok .nx st) k = k st := rfl
theorem n_ct {k : S → OS} : nextL (.ok .ct st) k = k st := rfl
theorem n_bk {k : S → OS} : nextL (.ok .bk st) k = .ok .nx st := rfl
theorem n_ret {k : S → OS} : nextL (.ok (.ret v) st) k = .ok (.ret v) st := rfl
theorem e_for {it : S → IO} {gt : D → S → Option S} : forS it gt g st = (it st).bind fun p st1 => forL gt g p.2 p.1 p.1 st1 := rfl
theorem e_itE : itE f st = (f st).bind itV := rfl
theorem e_itA {gv : List Val → S → IO} : itA gv fs st = (seqE fs st).bind gv := rfl
theorem e_nameT : nameT i x ⟨vs, cs⟩ = some ⟨vs.set i (some (.d x)), cs⟩ := rfl
theorem e_tupT {n : Nat} {hh : List D → S → Option S} (hl : xs.length = n) : tupT n hh (.tup xs) st = hh xs st := by
  show (if xs.length = n then _ else _) = _
  rw [if_pos hl]
theorem e_consT {gt : D → S → Option S} {hh : List D → S → Option S} : consT gt hh (x :: xs) st = (gt x st).bind (hh xs) := rfl
theorem e_nilT : nilT [] st = some st := rfl
def parK (i j : Nat) (ws : List Val) (st : S) : OS := match ws with
  | [v, w] => .ok .nx { st with v := (st.v.set i (some v)).set j (some w) }
  | _ => .bad
theorem e_par {j : Nat} : parS i j fa fb st = (seqE [fa, fb] st).bind (parK i j) := by
  unfold parS
  congr 1
theorem e_parK {j : Nat} {v w : Val} : parK i j [v, w] ⟨vs, cs⟩ = .ok .nx ⟨(vs.set i (some v)).set j (some w), cs⟩ := rfl
def asgK (gt : D → S → Option S) : Option (D × S) → OS
  | some (x, st) => match gt x st with
    | some st1 => .ok .nx st1
    | none => .bad
  | none => .bad
theorem e_asg {gt : D → S → Option S} : asgS gt f st = (f st).bind fun v st1 => asgK gt (toD v st1) := by
  unfold asgS
  congr 1
theorem toD_d : toD (.d x) st = some (x, st) := rfl
theorem e_asgK {gt : D → S → Option S} : asgK gt (some (x, st)) = match gt x st with
    | some st1 => .ok .nx st1
    | none => .bad := rfl
theorem e_rng1 {n : Nat} (h : bigI n = true) : rng1V [.d (.int n)] st = .ok (rngL 0 n, none) st := by
  unfold rng1V
  simp only [h, if_true, Int.toNat_natCast]
theorem e_rngI (h : bigI a = true) : rng1V [.d (.int a)] st = .ok (rngL 0 a.toNat, none) st := by
  unfold rng1V
  simp only [h, if_true]
theorem gd_none : gdOk none xs st = true := rfl
theorem c_no {gt : D → S → Option S} {us : List Nat} {v0 : List (Option Val)} {ck : Option Nat} {all r : List D} {st2 : S} (hg : gdOk ck all st = true) (hx : gt x ⟨wipeV v0 us, st.c⟩ = some st1) (ht : t st1 = .ok (.d (.bl false)) st2) :
    compL gt t f us v0 ck all (x :: r) st = compL gt t f us v0 ck all r ⟨v0, st2.c⟩ := by
  rw [compL, if_pos hg]
  simp only [hx, ht]
theorem c_yes {gt : D → S → Option S} {us : List Nat} {v0 : List (Option Val)} {ck : Option Nat} {all r : List D} {st2 st3 st4 : S} {y : D} (hg : gdOk ck all st = true) (hx : gt x ⟨wipeV v0 us, st.c⟩ = some st1) (ht : t st1 = .ok (.d (.bl true)) st2) (hf : f st2 = .ok v st3) (hd : toD v st3 = some (y, st4)) :
    compL gt t f us v0 ck all (x :: r) st = (compL gt t f us v0 ck all r ⟨v0, st4.c⟩).bind fun ys st5 => .ok (y :: ys) st5 := by
  rw [compL, if_pos hg]
  simp only [hx, ht, hf, hd]
theorem c_nil {gt : D → S → Option S} {us : List Nat} {v0 : List (Option Val)} {ck : Option Nat} {all : List D} (hg : gdOk ck all st = true) : compL gt t f us v0 ck all [] st = .ok [] st := by rw [compL, if_pos hg]
theorem e_comp {it : S → IO} {gt : D → S → Option S} {us : List Nat} : compE it gt t f us st = (it st).bind fun p st1 => if p.1.length ≤ 1000000 then (compL gt t f us st1.v p.2 p.1 p.1 st1).bind newLst else .bad := rfl
theorem v_itT : itV (.d (.tup xs)) st = .ok (xs, none) st := rfl
theorem v_itL : itV (.d (.lst xs)) st = .ok (xs, none) st := rfl
theorem v_itC {n : Nat} {cl : Cell} (h : st.c[n]? = some cl) : itV (.c n) st = .ok (cl.xs, some n) st := by
  unfold itV seqOf
  simp only [h, Option.map_some]
  rfl
theorem v_eq {neg : Bool} {va vb : Val} {y : D} (h1 : dOf va st = some x) (h2 : dOf vb st = some y) (o1 : okD x = true) (o2 : okD y = true) : eqV neg va vb st = .ok (.d (.bl (if neg then !eqD x y else eqD x y))) st := by
  unfold eqV
  simp only [h1, h2, o1, o2, Bool.and_self, if_true]
  rfl
theorem dOf_d : dOf (.d x) st = some x := rfl
theorem dOf_c {n : Nat} {cl : Cell} (h : cs[n]? = some cl) : dOf (.c n) ⟨vs, cs⟩ = some (.lst cl.xs) := by
  unfold dOf
  simp only [h, Option.map_some]
end
end Sh
end
section
set_option Elab.async false
set_option linter.all false
set_option maxRecDepth 100000
set_option maxHeartbeats 4000000
namespace Law
open PySem PySem.Spec PyProof.Rows Sh
open L2 hiding St
def top (i : Nat) : Stmt := PySem.Challenge.pw_anystrength_k02_fractions_by_cross_produ.main.body.getD i (.Pass ⟨0, 0, 0, 0⟩)
def fn_0 : List He.DefD := [⟨("_law_a2_heard", none), "_law_a2_heard", "_law_a2_heard", defArgs (top 37), defBody (top 37), defScope (top 37), [], []⟩,
  ⟨("_law_wb_is_whole", none), "_law_wb_is_whole", "_law_wb_is_whole", defArgs (top 24), defBody (top 24), defScope (top 24), [], []⟩,
  ⟨("_law_wb_same", none), "_law_wb_same", "_law_wb_same", defArgs (top 25), defBody (top 25), defScope (top 25), [], []⟩,
  ⟨("_law_a2_tells", none), "_law_a2_tells", "_law_a2_tells", defArgs (top 38), defBody (top 38), defScope (top 38), [], []⟩,
  ⟨("lowest", none), "lowest", "lowest", defArgs (top 9), defBody (top 9), defScope (top 9), [], []⟩,
  ⟨("a_minus", none), "a_minus", "a_minus", defArgs (top 11), defBody (top 11), defScope (top 11), [], []⟩,
  ⟨("is_int", none), "is_int", "is_int", defArgs (top 7), defBody (top 7), defScope (top 7), [], []⟩,
  ⟨("is_fraction", none), "is_fraction", "is_fraction", defArgs (top 8), defBody (top 8), defScope (top 8), [], []⟩,
  ⟨("made_fraction", none), "made_fraction", "made_fraction", defArgs (top 14), defBody (top 14), defScope (top 14), [], []⟩,
  ⟨("minus", none), "minus", "minus", defArgs (top 16), defBody (top 16), defScope (top 16), [], []⟩,
  ⟨("a_over", none), "a_over", "a_over", defArgs (top 13), defBody (top 13), defScope (top 13), [], []⟩,
  ⟨("over", none), "over", "over", defArgs (top 18), defBody (top 18), defScope (top 18), [], []⟩,
  ⟨("a_plus", none), "a_plus", "a_plus", defArgs (top 10), defBody (top 10), defScope (top 10), [], []⟩,
  ⟨("plus", none), "plus", "plus", defArgs (top 15), defBody (top 15), defScope (top 15), [], []⟩,
  ⟨("a_times", none), "a_times", "a_times", defArgs (top 12), defBody (top 12), defScope (top 12), [], []⟩,
  ⟨("times", none), "times", "times", defArgs (top 17), defBody (top 17), defScope (top 17), [], []⟩,
  ⟨("_law_a2_back_right", none), "_law_a2_back_right", "_law_a2_back_right", defArgs (top 40), defBody (top 40), defScope (top 40), [], []⟩,
  ⟨("_law_wb_gcd", none), "_law_wb_gcd", "_law_wb_gcd", defArgs (top 26), defBody (top 26), defScope (top 26), [], []⟩,
  ⟨("_law_wb_low", none), "_law_wb_low", "_law_wb_low", defArgs (top 27), defBody (top 27), defScope (top 27), [], []⟩,
  ⟨("_law_wb_plus", none), "_law_wb_plus", "_law_wb_plus", defArgs (top 28), defBody (top 28), defScope (top 28), [], []⟩,
  ⟨("_law_wb_minus", none), "_law_wb_minus", "_law_wb_minus", defArgs (top 30), defBody (top 30), defScope (top 30), [], []⟩,
  ⟨("_law_wb_over", none), "_law_wb_over", "_law_wb_over", defArgs (top 31), defBody (top 31), defScope (top 31), [], []⟩,
  ⟨("_law_wb_times", none), "_law_wb_times", "_law_wb_times", defArgs (top 29), defBody (top 29), defScope (top 29), [], []⟩,
  ⟨("below", none), "below", "below", defArgs (top 19), defBody (top 19), defScope (top 19), [], []⟩,
  ⟨("_law_a2_pair_right", none), "_law_a2_pair_right", "_law_a2_pair_right", defArgs (top 39), defBody (top 39), defScope (top 39), [], []⟩,
  ⟨("_law_take", none), "_law_take", "_law_take", defArgs (top 22), defBody (top 22), defScope (top 22), [], []⟩,
  ⟨("_law_one", none), "_law_one", "_law_one", defArgs (top 23), defBody (top 23), defScope (top 23), [], []⟩,
  ⟨("_law_wb_is_fraction", none), "_law_wb_is_fraction", "_law_wb_is_fraction", defArgs (top 32), defBody (top 32), defScope (top 32), [], []⟩,
  ⟨("_law_a2_refused_right", none), "_law_a2_refused_right", "_law_a2_refused_right", defArgs (top 43), defBody (top 43), defScope (top 43), [], []⟩,
  ⟨("_law_a2_thing_right", none), "_law_a2_thing_right", "_law_a2_thing_right", defArgs (top 42), defBody (top 42), defScope (top 42), [], []⟩]
def fn_1 : List He.DefD := [⟨("_law_wb_bent", none), "_law_wb_bent", "_law_wb_bent", defArgs (top 36), defBody (top 36), defScope (top 36), [], []⟩,
  ⟨("_law_a2_things", none), "_law_a2_things", "_law_a2_things", defArgs (top 41), defBody (top 41), defScope (top 41), [], []⟩,
  ⟨("_law_pool", none), "_law_pool", "_law_pool", defArgs (top 21), defBody (top 21), defScope (top 21), [], []⟩,
  ⟨("_law_wb_number", none), "_law_wb_number", "_law_wb_number", defArgs (top 33), defBody (top 33), defScope (top 33), [], []⟩,
  ⟨("_law_wb_fraction", none), "_law_wb_fraction", "_law_wb_fraction", defArgs (top 34), defBody (top 34), defScope (top 34), [], []⟩,
  ⟨("_law_wb_small", none), "_law_wb_small", "_law_wb_small", defArgs (top 35), defBody (top 35), defScope (top 35), [], []⟩,
  ⟨("law", none), "law", "law", defArgs (top 44), defBody (top 44), defScope (top 44), [], []⟩,
  ⟨("Refused", some "__init__"), "__init__", "Refused.__init__", defArgs (inClass (top 2) 0), defBody (inClass (top 2) 0), defScope (inClass (top 2) 0), [], []⟩]
def fn : List He.DefD := fn_0 ++ fn_1
def glos_0 : List Str := ["_law_a2_heard",
  "_law_wb_is_whole",
  "_law_wb_same",
  "_law_a2_tells",
  "lowest",
  "a_minus",
  "is_int",
  "is_fraction",
  "made_fraction",
  "minus",
  "a_over",
  "over",
  "a_plus",
  "plus",
  "a_times",
  "times",
  "_law_a2_back_right",
  "_law_wb_gcd",
  "_law_wb_low",
  "_law_wb_plus",
  "_law_wb_minus",
  "_law_wb_over",
  "_law_wb_times",
  "below",
  "_law_a2_pair_right",
  "_law_take",
  "_law_one",
  "_law_wb_is_fraction",
  "_law_a2_refused_right",
  "_law_a2_thing_right"]
def glos_1 : List Str := ["_law_wb_bent",
  "_law_a2_things",
  "_law_pool",
  "_law_wb_number",
  "_law_wb_fraction",
  "_law_wb_small",
  "law",
  "Refused",
  "BadFraction",
  "Nought"]
def glos : List Str := glos_0 ++ glos_1
def fres_0 : List Str := ["ValueError",
  "abs",
  "bool",
  "int",
  "isinstance",
  "len",
  "list",
  "max",
  "range",
  "str",
  "tuple"]
def fres : List Str := fres_0
def tf_0 : List He.Defn := [("_law_a2_back_right", none),
  ("_law_a2_pair_right", none),
  ("_law_a2_refused_right", none),
  ("_law_a2_thing_right", none),
  ("law", none)]
def tf : List He.Defn := tf_0
def tab_0 : List (Str × List Str) := [("Refused", ["Refused"]),
  ("BadFraction", ["BadFraction", "Refused"]),
  ("Nought", ["Nought", "Refused"])]
def tab : List (Str × List Str) := tab_0
def loose_0 : List Str := ["is_int",
  "is_fraction",
  "lowest",
  "a_plus",
  "a_minus",
  "a_times",
  "a_over",
  "made_fraction",
  "plus",
  "minus",
  "times",
  "over",
  "below",
  "_law_pool",
  "_law_take",
  "_law_one",
  "_law_wb_is_whole",
  "_law_wb_same",
  "_law_wb_gcd",
  "_law_wb_low",
  "_law_wb_plus",
  "_law_wb_times",
  "_law_wb_minus",
  "_law_wb_over",
  "_law_wb_is_fraction",
  "_law_wb_number",
  "_law_wb_fraction",
  "_law_wb_small",
  "_law_wb_bent",
  "_law_a2_heard"]
def loose_1 : List Str := ["_law_a2_tells",
  "_law_a2_pair_right",
  "_law_a2_back_right",
  "_law_a2_things",
  "_law_a2_thing_right",
  "_law_a2_refused_right",
  "Refused",
  "BadFraction",
  "Nought",
  "NOUGHT"]
def loose : List Str := loose_0 ++ loose_1
def fa : List He.Fa := glos.map He.Fa.glo ++ fres.map He.Fa.free
def fI (K : PySem.W.Frag) : Addr := He.ma K (He.ga K "Refused") "__init__"
def exA (K : PySem.W.Frag) : Bool := (clsB K (fI K) tab) && (iniB K (fI K)) && (uniqB K tf) && (He.eqO (PySem.W.nsIn K mainGlobals "gcd") (some (some (.builtin "math.gcd")))) && (He.eqO (PySem.W.nsIn K mainGlobals "NOUGHT") (some (some (.ref (He.ga K "NOUGHT")))) && He.tupB K "NOUGHT" [.int 0, .int 1])
abbrev R : PySem.W.OpenRow := PySem.W.OpenLaw.row PySem.Challenge.rw_anystrength_k02_fractions_by_cross_produ
abbrev hk : PySem.W.Hook := He.hookX 5 fa fn [] tf exA
def ob (s : PySem.W.SharedT) : He.AlX := He.obsX 5 fa fn [] tf exA (HandSHeadRun.getT s)
theorem ob_eq (s : PySem.W.SharedT) : ob s = hk.obs s.abs := He.obsX_eq (HandSHeadRun.getT_eq s)
end Law
end
section
set_option Elab.async false
set_option linter.all false
set_option maxRecDepth 100000
set_option maxHeartbeats 4000000
namespace Law
open PySem PySem.Spec PyProof.Rows Sh
open L2 hiding St
set_option maxHeartbeats 0 in
theorem run (w : World) : HandSHeadRun.RunEqI R (PySem.W.view R.prog [0, 44]) hk ob 4000 loose w := by
  unfold HandSHeadRun.RunEqI
  kernel_rfl
end Law
open PySem PySem.W PySem.Calls PyProof.Rows in
set_option maxHeartbeats 0 in
theorem Law.head (hc : WalkO (view Law.R.prog [0, 44]) Law.loose (XL (view Law.R.prog [0, 44]) []) Law.hk.says Law.R.toRowW (HandSHeadRun.topDef Law.R.prog 44) [] fun f vs => PySem.call f vs) : PySem.Challenge.rw_anystrength_k02_fractions_by_cross_produ.Holds := by
  w_on; o_law
  refine HandSHeadRun.head_imp (r := OpenLaw.row PySem.Challenge.rw_anystrength_k02_fractions_by_cross_produ) (q := view (OpenLaw.row PySem.Challenge.rw_anystrength_k02_fractions_by_cross_produ).prog [0, 44]) (H := Law.hk) (ob := Law.ob) (M := 4000) (loose := Law.loose) (d := HandSHeadRun.topDef (OpenLaw.row PySem.Challenge.rw_anystrength_k02_fractions_by_cross_produ).prog 44) (kwd := []) Law.ob_eq
     Law.run (by kernel_rfl) (by kernel_rfl) (by kernel_rfl) (by rfl) (by first | assumption | decide +kernel) (by decide +kernel) ⟨rfl, rfl, rfl, rfl, rfl, by decide +kernel⟩ ?hw hc
  case hw => w_witness2
end
section
set_option Elab.async false
set_option linter.all false
set_option maxRecDepth 100000
set_option maxHeartbeats 4000000
namespace Law
open PySem PySem.Spec PyProof.Rows Sh
open L2 hiding St
/-! ### what the top has written -/
def k_NOUGHT : S → OE := cE (.tup [(.int 0), (.int 1)])
structure Txt (c : Cn) : Prop where
  d : He.SaysD fa fn c.K
  mgG : ∀ x, (He.Fa.glo x).ok c.K = true → c.mg x = some (.ref (He.ga c.K x))
  mgF : ∀ x, (He.Fa.free x).ok c.K = true → c.mg x = none
  cls : ClsOk c (fI c.K) tab
  ini : IniOk c (fI c.K)
  g_gcd : c.mg "gcd" = some (.builtin "math.gcd")
  k_NOUGHT : c.mg "NOUGHT" = some (.ref (He.ga c.K "NOUGHT")) ∧ RelV (.ref (He.ga c.K "NOUGHT")) (.ref (He.ga c.K "NOUGHT")) ∧ ∀ F H, Rep c F H (.tup [(.int 0), (.int 1)]) (.ref (He.ga c.K "NOUGHT"))
  tb : ∀ x, x ∈ tf → LamX.TabB c.base c.mg (He.cT c.K x).1 (He.cT c.K x).2
  inT : ∀ x, x ∈ tf → ((He.cT c.K x).2, (x.1 ++ ".<locals>.") ++ "<lambda>") ∈ c.T
  uniq : ∀ x, x ∈ tf → ∀ q ∈ c.T, q.1 = (He.cT c.K x).2 → q.2 = (x.1 ++ ".<locals>.") ++ "<lambda>"
section
variable {c : Cn}
theorem g__law_a2_heard (T : Txt c) : c.mg "_law_a2_heard" = some (.ref (He.ga c.K "_law_a2_heard")) := T.mgG _ (T.d.fact 0 rfl)
theorem g__law_wb_is_whole (T : Txt c) : c.mg "_law_wb_is_whole" = some (.ref (He.ga c.K "_law_wb_is_whole")) := T.mgG _ (T.d.fact 1 rfl)
theorem g__law_wb_same (T : Txt c) : c.mg "_law_wb_same" = some (.ref (He.ga c.K "_law_wb_same")) := T.mgG _ (T.d.fact 2 rfl)
theorem g__law_a2_tells (T : Txt c) : c.mg "_law_a2_tells" = some (.ref (He.ga c.K "_law_a2_tells")) := T.mgG _ (T.d.fact 3 rfl)
theorem g_lowest (T : Txt c) : c.mg "lowest" = some (.ref (He.ga c.K "lowest")) := T.mgG _ (T.d.fact 4 rfl)
theorem g_a_minus (T : Txt c) : c.mg "a_minus" = some (.ref (He.ga c.K "a_minus")) := T.mgG _ (T.d.fact 5 rfl)
theorem g_is_int (T : Txt c) : c.mg "is_int" = some (.ref (He.ga c.K "is_int")) := T.mgG _ (T.d.fact 6 rfl)
theorem g_is_fraction (T : Txt c) : c.mg "is_fraction" = some (.ref (He.ga c.K "is_fraction")) := T.mgG _ (T.d.fact 7 rfl)
theorem g_made_fraction (T : Txt c) : c.mg "made_fraction" = some (.ref (He.ga c.K "made_fraction")) := T.mgG _ (T.d.fact 8 rfl)
theorem g_minus (T : Txt c) : c.mg "minus" = some (.ref (He.ga c.K "minus")) := T.mgG _ (T.d.fact 9 rfl)
theorem g_a_over (T : Txt c) : c.mg "a_over" = some (.ref (He.ga c.K "a_over")) := T.mgG _ (T.d.fact 10 rfl)
theorem g_over (T : Txt c) : c.mg "over" = some (.ref (He.ga c.K "over")) := T.mgG _ (T.d.fact 11 rfl)
theorem g_a_plus (T : Txt c) : c.mg "a_plus" = some (.ref (He.ga c.K "a_plus")) := T.mgG _ (T.d.fact 12 rfl)
theorem g_plus (T : Txt c) : c.mg "plus" = some (.ref (He.ga c.K "plus")) := T.mgG _ (T.d.fact 13 rfl)
theorem g_a_times (T : Txt c) : c.mg "a_times" = some (.ref (He.ga c.K "a_times")) := T.mgG _ (T.d.fact 14 rfl)
theorem g_times (T : Txt c) : c.mg "times" = some (.ref (He.ga c.K "times")) := T.mgG _ (T.d.fact 15 rfl)
theorem g__law_a2_back_right (T : Txt c) : c.mg "_law_a2_back_right" = some (.ref (He.ga c.K "_law_a2_back_right")) := T.mgG _ (T.d.fact 16 rfl)
theorem g__law_wb_gcd (T : Txt c) : c.mg "_law_wb_gcd" = some (.ref (He.ga c.K "_law_wb_gcd")) := T.mgG _ (T.d.fact 17 rfl)
theorem g__law_wb_low (T : Txt c) : c.mg "_law_wb_low" = some (.ref (He.ga c.K "_law_wb_low")) := T.mgG _ (T.d.fact 18 rfl)
theorem g__law_wb_plus (T : Txt c) : c.mg "_law_wb_plus" = some (.ref (He.ga c.K "_law_wb_plus")) := T.mgG _ (T.d.fact 19 rfl)
theorem g__law_wb_minus (T : Txt c) : c.mg "_law_wb_minus" = some (.ref (He.ga c.K "_law_wb_minus")) := T.mgG _ (T.d.fact 20 rfl)
theorem g__law_wb_over (T : Txt c) : c.mg "_law_wb_over" = some (.ref (He.ga c.K "_law_wb_over")) := T.mgG _ (T.d.fact 21 rfl)
theorem g__law_wb_times (T : Txt c) : c.mg "_law_wb_times" = some (.ref (He.ga c.K "_law_wb_times")) := T.mgG _ (T.d.fact 22 rfl)
theorem g_below (T : Txt c) : c.mg "below" = some (.ref (He.ga c.K "below")) := T.mgG _ (T.d.fact 23 rfl)
theorem g__law_a2_pair_right (T : Txt c) : c.mg "_law_a2_pair_right" = some (.ref (He.ga c.K "_law_a2_pair_right")) := T.mgG _ (T.d.fact 24 rfl)
theorem g__law_take (T : Txt c) : c.mg "_law_take" = some (.ref (He.ga c.K "_law_take")) := T.mgG _ (T.d.fact 25 rfl)
theorem g__law_one (T : Txt c) : c.mg "_law_one" = some (.ref (He.ga c.K "_law_one")) := T.mgG _ (T.d.fact 26 rfl)
theorem g__law_wb_is_fraction (T : Txt c) : c.mg "_law_wb_is_fraction" = some (.ref (He.ga c.K "_law_wb_is_fraction")) := T.mgG _ (T.d.fact 27 rfl)
theorem g__law_a2_refused_right (T : Txt c) : c.mg "_law_a2_refused_right" = some (.ref (He.ga c.K "_law_a2_refused_right")) := T.mgG _ (T.d.fact 28 rfl)
theorem g__law_a2_thing_right (T : Txt c) : c.mg "_law_a2_thing_right" = some (.ref (He.ga c.K "_law_a2_thing_right")) := T.mgG _ (T.d.fact 29 rfl)
theorem g__law_wb_bent (T : Txt c) : c.mg "_law_wb_bent" = some (.ref (He.ga c.K "_law_wb_bent")) := T.mgG _ (T.d.fact 30 rfl)
theorem g__law_a2_things (T : Txt c) : c.mg "_law_a2_things" = some (.ref (He.ga c.K "_law_a2_things")) := T.mgG _ (T.d.fact 31 rfl)
theorem g__law_pool (T : Txt c) : c.mg "_law_pool" = some (.ref (He.ga c.K "_law_pool")) := T.mgG _ (T.d.fact 32 rfl)
theorem g__law_wb_number (T : Txt c) : c.mg "_law_wb_number" = some (.ref (He.ga c.K "_law_wb_number")) := T.mgG _ (T.d.fact 33 rfl)
theorem g__law_wb_fraction (T : Txt c) : c.mg "_law_wb_fraction" = some (.ref (He.ga c.K "_law_wb_fraction")) := T.mgG _ (T.d.fact 34 rfl)
theorem g__law_wb_small (T : Txt c) : c.mg "_law_wb_small" = some (.ref (He.ga c.K "_law_wb_small")) := T.mgG _ (T.d.fact 35 rfl)
theorem g_law (T : Txt c) : c.mg "law" = some (.ref (He.ga c.K "law")) := T.mgG _ (T.d.fact 36 rfl)
theorem g_Refused (T : Txt c) : c.mg "Refused" = some (.ref (He.ga c.K "Refused")) := T.mgG _ (T.d.fact 37 rfl)
theorem g_BadFraction (T : Txt c) : c.mg "BadFraction" = some (.ref (He.ga c.K "BadFraction")) := T.mgG _ (T.d.fact 38 rfl)
theorem g_Nought (T : Txt c) : c.mg "Nought" = some (.ref (He.ga c.K "Nought")) := T.mgG _ (T.d.fact 39 rfl)
theorem g_ValueError (T : Txt c) : c.mg "ValueError" = none := T.mgF _ (T.d.fact 40 rfl)
theorem g_abs (T : Txt c) : c.mg "abs" = none := T.mgF _ (T.d.fact 41 rfl)
theorem g_bool (T : Txt c) : c.mg "bool" = none := T.mgF _ (T.d.fact 42 rfl)
theorem g_int (T : Txt c) : c.mg "int" = none := T.mgF _ (T.d.fact 43 rfl)
theorem g_isinstance (T : Txt c) : c.mg "isinstance" = none := T.mgF _ (T.d.fact 44 rfl)
theorem g_len (T : Txt c) : c.mg "len" = none := T.mgF _ (T.d.fact 45 rfl)
theorem g_list (T : Txt c) : c.mg "list" = none := T.mgF _ (T.d.fact 46 rfl)
theorem g_max (T : Txt c) : c.mg "max" = none := T.mgF _ (T.d.fact 47 rfl)
theorem g_range (T : Txt c) : c.mg "range" = none := T.mgF _ (T.d.fact 48 rfl)
theorem g_str (T : Txt c) : c.mg "str" = none := T.mgF _ (T.d.fact 49 rfl)
theorem g_tuple (T : Txt c) : c.mg "tuple" = none := T.mgF _ (T.d.fact 50 rfl)
theorem F__law_a2_heard (T : Txt c) : ∃ fd, L2.FunD c.K "_law_a2_heard" "_law_a2_heard" (defArgs (top 37)) (defBody (top 37)) (defScope (top 37)) [] [] (He.ga c.K "_law_a2_heard") fd := T.d.def_ 0 rfl
theorem kp__law_a2_heard (T : Txt c) : PySem.W.keepIn c.K (.ref (He.ga c.K "_law_a2_heard")) = true := (F__law_a2_heard T).choose_spec.kp
theorem F__law_wb_is_whole (T : Txt c) : ∃ fd, L2.FunD c.K "_law_wb_is_whole" "_law_wb_is_whole" (defArgs (top 24)) (defBody (top 24)) (defScope (top 24)) [] [] (He.ga c.K "_law_wb_is_whole") fd := T.d.def_ 1 rfl
theorem kp__law_wb_is_whole (T : Txt c) : PySem.W.keepIn c.K (.ref (He.ga c.K "_law_wb_is_whole")) = true := (F__law_wb_is_whole T).choose_spec.kp
theorem F__law_wb_same (T : Txt c) : ∃ fd, L2.FunD c.K "_law_wb_same" "_law_wb_same" (defArgs (top 25)) (defBody (top 25)) (defScope (top 25)) [] [] (He.ga c.K "_law_wb_same") fd := T.d.def_ 2 rfl
theorem kp__law_wb_same (T : Txt c) : PySem.W.keepIn c.K (.ref (He.ga c.K "_law_wb_same")) = true := (F__law_wb_same T).choose_spec.kp
theorem F__law_a2_tells (T : Txt c) : ∃ fd, L2.FunD c.K "_law_a2_tells" "_law_a2_tells" (defArgs (top 38)) (defBody (top 38)) (defScope (top 38)) [] [] (He.ga c.K "_law_a2_tells") fd := T.d.def_ 3 rfl
theorem kp__law_a2_tells (T : Txt c) : PySem.W.keepIn c.K (.ref (He.ga c.K "_law_a2_tells")) = true := (F__law_a2_tells T).choose_spec.kp
theorem F_lowest (T : Txt c) : ∃ fd, L2.FunD c.K "lowest" "lowest" (defArgs (top 9)) (defBody (top 9)) (defScope (top 9)) [] [] (He.ga c.K "lowest") fd := T.d.def_ 4 rfl
theorem kp_lowest (T : Txt c) : PySem.W.keepIn c.K (.ref (He.ga c.K "lowest")) = true := (F_lowest T).choose_spec.kp
theorem F_a_minus (T : Txt c) : ∃ fd, L2.FunD c.K "a_minus" "a_minus" (defArgs (top 11)) (defBody (top 11)) (defScope (top 11)) [] [] (He.ga c.K "a_minus") fd := T.d.def_ 5 rfl
theorem kp_a_minus (T : Txt c) : PySem.W.keepIn c.K (.ref (He.ga c.K "a_minus")) = true := (F_a_minus T).choose_spec.kp
theorem F_is_int (T : Txt c) : ∃ fd, L2.FunD c.K "is_int" "is_int" (defArgs (top 7)) (defBody (top 7)) (defScope (top 7)) [] [] (He.ga c.K "is_int") fd := T.d.def_ 6 rfl
theorem kp_is_int (T : Txt c) : PySem.W.keepIn c.K (.ref (He.ga c.K "is_int")) = true := (F_is_int T).choose_spec.kp
theorem F_is_fraction (T : Txt c) : ∃ fd, L2.FunD c.K "is_fraction" "is_fraction" (defArgs (top 8)) (defBody (top 8)) (defScope (top 8)) [] [] (He.ga c.K "is_fraction") fd := T.d.def_ 7 rfl
theorem kp_is_fraction (T : Txt c) : PySem.W.keepIn c.K (.ref (He.ga c.K "is_fraction")) = true := (F_is_fraction T).choose_spec.kp
theorem F_made_fraction (T : Txt c) : ∃ fd, L2.FunD c.K "made_fraction" "made_fraction" (defArgs (top 14)) (defBody (top 14)) (defScope (top 14)) [] [] (He.ga c.K "made_fraction") fd := T.d.def_ 8 rfl
theorem kp_made_fraction (T : Txt c) : PySem.W.keepIn c.K (.ref (He.ga c.K "made_fraction")) = true := (F_made_fraction T).choose_spec.kp
theorem F_minus (T : Txt c) : ∃ fd, L2.FunD c.K "minus" "minus" (defArgs (top 16)) (defBody (top 16)) (defScope (top 16)) [] [] (He.ga c.K "minus") fd := T.d.def_ 9 rfl
theorem kp_minus (T : Txt c) : PySem.W.keepIn c.K (.ref (He.ga c.K "minus")) = true := (F_minus T).choose_spec.kp
theorem F_a_over (T : Txt c) : ∃ fd, L2.FunD c.K "a_over" "a_over" (defArgs (top 13)) (defBody (top 13)) (defScope (top 13)) [] [] (He.ga c.K "a_over") fd := T.d.def_ 10 rfl
theorem kp_a_over (T : Txt c) : PySem.W.keepIn c.K (.ref (He.ga c.K "a_over")) = true := (F_a_over T).choose_spec.kp
theorem F_over (T : Txt c) : ∃ fd, L2.FunD c.K "over" "over" (defArgs (top 18)) (defBody (top 18)) (defScope (top 18)) [] [] (He.ga c.K "over") fd := T.d.def_ 11 rfl
theorem kp_over (T : Txt c) : PySem.W.keepIn c.K (.ref (He.ga c.K "over")) = true := (F_over T).choose_spec.kp
theorem F_a_plus (T : Txt c) : ∃ fd, L2.FunD c.K "a_plus" "a_plus" (defArgs (top 10)) (defBody (top 10)) (defScope (top 10)) [] [] (He.ga c.K "a_plus") fd := T.d.def_ 12 rfl
theorem kp_a_plus (T : Txt c) : PySem.W.keepIn c.K (.ref (He.ga c.K "a_plus")) = true := (F_a_plus T).choose_spec.kp
theorem F_plus (T : Txt c) : ∃ fd, L2.FunD c.K "plus" "plus" (defArgs (top 15)) (defBody (top 15)) (defScope (top 15)) [] [] (He.ga c.K "plus") fd := T.d.def_ 13 rfl
theorem kp_plus (T : Txt c) : PySem.W.keepIn c.K (.ref (He.ga c.K "plus")) = true := (F_plus T).choose_spec.kp
theorem F_a_times (T : Txt c) : ∃ fd, L2.FunD c.K "a_times" "a_times" (defArgs (top 12)) (defBody (top 12)) (defScope (top 12)) [] [] (He.ga c.K "a_times") fd := T.d.def_ 14 rfl
theorem kp_a_times (T : Txt c) : PySem.W.keepIn c.K (.ref (He.ga c.K "a_times")) = true := (F_a_times T).choose_spec.kp
theorem F_times (T : Txt c) : ∃ fd, L2.FunD c.K "times" "times" (defArgs (top 17)) (defBody (top 17)) (defScope (top 17)) [] [] (He.ga c.K "times") fd := T.d.def_ 15 rfl
theorem kp_times (T : Txt c) : PySem.W.keepIn c.K (.ref (He.ga c.K "times")) = true := (F_times T).choose_spec.kp
theorem F__law_a2_back_right (T : Txt c) : ∃ fd, L2.FunD c.K "_law_a2_back_right" "_law_a2_back_right" (defArgs (top 40)) (defBody (top 40)) (defScope (top 40)) [] [] (He.ga c.K "_law_a2_back_right") fd := T.d.def_ 16 rfl
theorem kp__law_a2_back_right (T : Txt c) : PySem.W.keepIn c.K (.ref (He.ga c.K "_law_a2_back_right")) = true := (F__law_a2_back_right T).choose_spec.kp
theorem F__law_wb_gcd (T : Txt c) : ∃ fd, L2.FunD c.K "_law_wb_gcd" "_law_wb_gcd" (defArgs (top 26)) (defBody (top 26)) (defScope (top 26)) [] [] (He.ga c.K "_law_wb_gcd") fd := T.d.def_ 17 rfl
theorem kp__law_wb_gcd (T : Txt c) : PySem.W.keepIn c.K (.ref (He.ga c.K "_law_wb_gcd")) = true := (F__law_wb_gcd T).choose_spec.kp
theorem F__law_wb_low (T : Txt c) : ∃ fd, L2.FunD c.K "_law_wb_low" "_law_wb_low" (defArgs (top 27)) (defBody (top 27)) (defScope (top 27)) [] [] (He.ga c.K "_law_wb_low") fd := T.d.def_ 18 rfl
theorem kp__law_wb_low (T : Txt c) : PySem.W.keepIn c.K (.ref (He.ga c.K "_law_wb_low")) = true := (F__law_wb_low T).choose_spec.kp
theorem F__law_wb_plus (T : Txt c) : ∃ fd, L2.FunD c.K "_law_wb_plus" "_law_wb_plus" (defArgs (top 28)) (defBody (top 28)) (defScope (top 28)) [] [] (He.ga c.K "_law_wb_plus") fd := T.d.def_ 19 rfl
theorem kp__law_wb_plus (T : Txt c) : PySem.W.keepIn c.K (.ref (He.ga c.K "_law_wb_plus")) = true := (F__law_wb_plus T).choose_spec.kp
theorem F__law_wb_minus (T : Txt c) : ∃ fd, L2.FunD c.K "_law_wb_minus" "_law_wb_minus" (defArgs (top 30)) (defBody (top 30)) (defScope (top 30)) [] [] (He.ga c.K "_law_wb_minus") fd := T.d.def_ 20 rfl
theorem kp__law_wb_minus (T : Txt c) : PySem.W.keepIn c.K (.ref (He.ga c.K "_law_wb_minus")) = true := (F__law_wb_minus T).choose_spec.kp
theorem F__law_wb_over (T : Txt c) : ∃ fd, L2.FunD c.K "_law_wb_over" "_law_wb_over" (defArgs (top 31)) (defBody (top 31)) (defScope (top 31)) [] [] (He.ga c.K "_law_wb_over") fd := T.d.def_ 21 rfl
theorem kp__law_wb_over (T : Txt c) : PySem.W.keepIn c.K (.ref (He.ga c.K "_law_wb_over")) = true := (F__law_wb_over T).choose_spec.kp
theorem F__law_wb_times (T : Txt c) : ∃ fd, L2.FunD c.K "_law_wb_times" "_law_wb_times" (defArgs (top 29)) (defBody (top 29)) (defScope (top 29)) [] [] (He.ga c.K "_law_wb_times") fd := T.d.def_ 22 rfl
theorem kp__law_wb_times (T : Txt c) : PySem.W.keepIn c.K (.ref (He.ga c.K "_law_wb_times")) = true := (F__law_wb_times T).choose_spec.kp
theorem F_below (T : Txt c) : ∃ fd, L2.FunD c.K "below" "below" (defArgs (top 19)) (defBody (top 19)) (defScope (top 19)) [] [] (He.ga c.K "below") fd := T.d.def_ 23 rfl
theorem kp_below (T : Txt c) : PySem.W.keepIn c.K (.ref (He.ga c.K "below")) = true := (F_below T).choose_spec.kp
theorem F__law_a2_pair_right (T : Txt c) : ∃ fd, L2.FunD c.K "_law_a2_pair_right" "_law_a2_pair_right" (defArgs (top 39)) (defBody (top 39)) (defScope (top 39)) [] [] (He.ga c.K "_law_a2_pair_right") fd := T.d.def_ 24 rfl
theorem kp__law_a2_pair_right (T : Txt c) : PySem.W.keepIn c.K (.ref (He.ga c.K "_law_a2_pair_right")) = true := (F__law_a2_pair_right T).choose_spec.kp
theorem F__law_take (T : Txt c) : ∃ fd, L2.FunD c.K "_law_take" "_law_take" (defArgs (top 22)) (defBody (top 22)) (defScope (top 22)) [] [] (He.ga c.K "_law_take") fd := T.d.def_ 25 rfl
theorem kp__law_take (T : Txt c) : PySem.W.keepIn c.K (.ref (He.ga c.K "_law_take")) = true := (F__law_take T).choose_spec.kp
theorem F__law_one (T : Txt c) : ∃ fd, L2.FunD c.K "_law_one" "_law_one" (defArgs (top 23)) (defBody (top 23)) (defScope (top 23)) [] [] (He.ga c.K "_law_one") fd := T.d.def_ 26 rfl
theorem kp__law_one (T : Txt c) : PySem.W.keepIn c.K (.ref (He.ga c.K "_law_one")) = true := (F__law_one T).choose_spec.kp
theorem F__law_wb_is_fraction (T : Txt c) : ∃ fd, L2.FunD c.K "_law_wb_is_fraction" "_law_wb_is_fraction" (defArgs (top 32)) (defBody (top 32)) (defScope (top 32)) [] [] (He.ga c.K "_law_wb_is_fraction") fd := T.d.def_ 27 rfl
theorem kp__law_wb_is_fraction (T : Txt c) : PySem.W.keepIn c.K (.ref (He.ga c.K "_law_wb_is_fraction")) = true := (F__law_wb_is_fraction T).choose_spec.kp
theorem F__law_a2_refused_right (T : Txt c) : ∃ fd, L2.FunD c.K "_law_a2_refused_right" "_law_a2_refused_right" (defArgs (top 43)) (defBody (top 43)) (defScope (top 43)) [] [] (He.ga c.K "_law_a2_refused_right") fd := T.d.def_ 28 rfl
theorem kp__law_a2_refused_right (T : Txt c) : PySem.W.keepIn c.K (.ref (He.ga c.K "_law_a2_refused_right")) = true := (F__law_a2_refused_right T).choose_spec.kp
theorem F__law_a2_thing_right (T : Txt c) : ∃ fd, L2.FunD c.K "_law_a2_thing_right" "_law_a2_thing_right" (defArgs (top 42)) (defBody (top 42)) (defScope (top 42)) [] [] (He.ga c.K "_law_a2_thing_right") fd := T.d.def_ 29 rfl
theorem kp__law_a2_thing_right (T : Txt c) : PySem.W.keepIn c.K (.ref (He.ga c.K "_law_a2_thing_right")) = true := (F__law_a2_thing_right T).choose_spec.kp
theorem F__law_wb_bent (T : Txt c) : ∃ fd, L2.FunD c.K "_law_wb_bent" "_law_wb_bent" (defArgs (top 36)) (defBody (top 36)) (defScope (top 36)) [] [] (He.ga c.K "_law_wb_bent") fd := T.d.def_ 30 rfl
theorem kp__law_wb_bent (T : Txt c) : PySem.W.keepIn c.K (.ref (He.ga c.K "_law_wb_bent")) = true := (F__law_wb_bent T).choose_spec.kp
theorem F__law_a2_things (T : Txt c) : ∃ fd, L2.FunD c.K "_law_a2_things" "_law_a2_things" (defArgs (top 41)) (defBody (top 41)) (defScope (top 41)) [] [] (He.ga c.K "_law_a2_things") fd := T.d.def_ 31 rfl
theorem kp__law_a2_things (T : Txt c) : PySem.W.keepIn c.K (.ref (He.ga c.K "_law_a2_things")) = true := (F__law_a2_things T).choose_spec.kp
theorem F__law_pool (T : Txt c) : ∃ fd, L2.FunD c.K "_law_pool" "_law_pool" (defArgs (top 21)) (defBody (top 21)) (defScope (top 21)) [] [] (He.ga c.K "_law_pool") fd := T.d.def_ 32 rfl
theorem kp__law_pool (T : Txt c) : PySem.W.keepIn c.K (.ref (He.ga c.K "_law_pool")) = true := (F__law_pool T).choose_spec.kp
theorem F__law_wb_number (T : Txt c) : ∃ fd, L2.FunD c.K "_law_wb_number" "_law_wb_number" (defArgs (top 33)) (defBody (top 33)) (defScope (top 33)) [] [] (He.ga c.K "_law_wb_number") fd := T.d.def_ 33 rfl
theorem kp__law_wb_number (T : Txt c) : PySem.W.keepIn c.K (.ref (He.ga c.K "_law_wb_number")) = true := (F__law_wb_number T).choose_spec.kp
theorem F__law_wb_fraction (T : Txt c) : ∃ fd, L2.FunD c.K "_law_wb_fraction" "_law_wb_fraction" (defArgs (top 34)) (defBody (top 34)) (defScope (top 34)) [] [] (He.ga c.K "_law_wb_fraction") fd := T.d.def_ 34 rfl
theorem kp__law_wb_fraction (T : Txt c) : PySem.W.keepIn c.K (.ref (He.ga c.K "_law_wb_fraction")) = true := (F__law_wb_fraction T).choose_spec.kp
theorem F__law_wb_small (T : Txt c) : ∃ fd, L2.FunD c.K "_law_wb_small" "_law_wb_small" (defArgs (top 35)) (defBody (top 35)) (defScope (top 35)) [] [] (He.ga c.K "_law_wb_small") fd := T.d.def_ 35 rfl
theorem kp__law_wb_small (T : Txt c) : PySem.W.keepIn c.K (.ref (He.ga c.K "_law_wb_small")) = true := (F__law_wb_small T).choose_spec.kp
theorem F_law (T : Txt c) : ∃ fd, L2.FunD c.K "law" "law" (defArgs (top 44)) (defBody (top 44)) (defScope (top 44)) [] [] (He.ga c.K "law") fd := T.d.def_ 36 rfl
theorem kp_law (T : Txt c) : PySem.W.keepIn c.K (.ref (He.ga c.K "law")) = true := (F_law T).choose_spec.kp
/-! ### the mirrors, each with its derivation -/
def m__law_a2_heard : S → OS :=
  (tryS tab "Refused" 1 (retS (tupE [(cE (.str "told")), (actE 0)])) (seqS (setS 2 (lstE [(tupE [(cE (.str "BadFraction")), (isxE tab 1 "BadFraction")]), (tupE [(cE (.str "Nought")), (isxE tab 1 "Nought")])]))
  (retS (tupE [(methE "str" joinV (cE (.str " ")) [(compE (itLE (varE 2)) (tupT 2 (consT (nameT 3) (consT (nameT 4) nilT))) (varE 4) (varE 3) [3, 4])]), (whatE tab 1)]))))
theorem sc__law_a2_heard : FnScope ["call", "refused_one", "some", "name", "is_one"] ["call"] (defScope (top 37)) := ⟨rfl, rfl, rfl, by decide +kernel, rfl, by decide +kernel, by decide +kernel⟩
def d__law_a2_heard (as : List Ar) : RD := runD 1 5 m__law_a2_heard as
set_option maxHeartbeats 0 in
theorem s__law_a2_heard (T : Txt c) : FnS c 61 (He.ga c.K "_law_a2_heard") d__law_a2_heard := by
  obtain ⟨fd, F⟩ := F__law_a2_heard T
  exact fun_sh (N := ["call", "refused_one", "some", "name", "is_one"]) (ps := ["call"]) (k := 60) (G := m__law_a2_heard) F sc__law_a2_heard (F.bindsN fun _ _ _ _ _ _ us hl => match us, hl with | [_], _ => rfl) fun cdv A outer s H Fz io E hcd b hM =>
    (s_one (s_try (i := 1) b.hX rfl rfl rfl b.nd T.cls b.tk (g_Refused T) (fun W pn xe tk _ => have bt := b.tr tk; (s_one (s_ret (i_tup (i_pa_cons i_str (i_pa_cons (c_act bt hM.tr) i_pa_nil)))))) (fun a oe pn hot hE => (s_cons (s_set (i := 2) b.nd (i_lst (i_pa_cons (i_tup (i_pa_cons i_str (i_pa_cons (i_isx b.hX.suite hE T.cls (g_BadFraction T) (g_isinstance T)) i_pa_nil))) (i_pa_cons (i_tup (i_pa_cons i_str (i_pa_cons (i_isx b.hX.suite hE T.cls (g_Nought T) (g_isinstance T)) i_pa_nil))) i_pa_nil))))
    (s_one (s_ret (i_tup (i_pa_cons (c_join b.hX.suite i_str (i_pa_cons (i_lcH (own := [("name", 3), ("is_one", 4)]) b.hX.suite.K hot b.nd (i_var (pv 2)) (blkOk_by (by rfl)) (fun _ _ _ _ _ hI => (g_tupH b.hX.suite.blk.K hI (g_cons (g_name (i := 3) b.nd) (g_cons (g_name (i := 4) b.nd) g_nil)))) (fun _ _ _ _ _ hI => t_one (i_test (i_var (pv 4)))) (fun _ _ _ _ _ hI => (i_var (pv 3))) (by decide)) i_pa_nil)) (i_pa_cons (i_what b.hX.suite hE T.cls) i_pa_nil)))))))))
def m__law_wb_is_whole : S → OS :=
  (retS (andE (callE isiV [(varE 0), (cE (.ty "int"))]) (notE (callE isiV [(varE 0), (cE (.ty "bool"))]))))
theorem sc__law_wb_is_whole : FnScope ["thing"] ["thing"] (defScope (top 24)) := ⟨rfl, rfl, rfl, by decide +kernel, rfl, by decide +kernel, by decide +kernel⟩
def d__law_wb_is_whole (as : List Ar) : RD := runD 1 1 m__law_wb_is_whole as
set_option maxHeartbeats 0 in
theorem s__law_wb_is_whole (T : Txt c) : FnS c 1 (He.ga c.K "_law_wb_is_whole") d__law_wb_is_whole := by
  obtain ⟨fd, F⟩ := F__law_wb_is_whole T
  exact fun_sh (N := ["thing"]) (ps := ["thing"]) (k := 0) (G := m__law_wb_is_whole) F sc__law_wb_is_whole (F.bindsN fun _ _ _ _ _ _ us hl => match us, hl with | [_], _ => rfl) fun cdv A outer s H Fz io E hcd b hM =>
    (s_one (s_ret (i_and (c_isi b.hX (g_isinstance T) (i_pa_cons (i_var (pv 0)) (i_pa_cons (i_kind b.hX (g_int T) (by rfl)) i_pa_nil))) (i_b1 (i_not (c_isi b.hX (g_isinstance T) (i_pa_cons (i_var (pv 0)) (i_pa_cons (i_kind b.hX (g_bool T) (by rfl)) i_pa_nil))))))))
def m__law_wb_same (fu : Nat) : S → OS :=
  (seqS (setS 2 (lstE [(tupE [(varE 0), (varE 1)])]))
  (seqS (whileS (bin2 (eqV true) (varE 2) (lstE [])) (seqS (asgS (tupT 2 (consT (nameT 3) (consT (nameT 4) nilT))) (methE "list" popV (varE 2) []))
  (seqS (ifS (bin2 (isNV false) (varE 4) (cE .non)) (setS 5 (bin2 (isNV false) (varE 3) (cE .non))) (ifS (callE isiV [(varE 4), (cE (.ty "bool"))]) (setS 5 (andE (callE isiV [(varE 3), (cE (.ty "bool"))]) (bin2 (eqV false) (varE 3) (varE 4)))) (ifS (callE isiV [(varE 4), (cE (.ty "int"))]) (setS 5 (andE (callE (callV d__law_wb_is_whole) [(varE 3)]) (bin2 (eqV false) (varE 3) (varE 4)))) (ifS (callE isiV [(varE 4), (cE (.ty "str"))]) (setS 5 (andE (callE isiV [(varE 3), (cE (.ty "str"))]) (bin2 (eqV false) (varE 3) (varE 4)))) (seqS (setS 5 (ifE (callE isiV [(varE 4), (cE (.ty "tuple"))]) (callE isiV [(varE 3), (cE (.ty "tuple"))]) (callE isiV [(varE 3), (cE (.ty "list"))])))
  (seqS (setS 5 (andE (varE 5) (bin2 (eqV false) (callE lenV [(varE 3)]) (callE lenV [(varE 4)]))))
  (dropS (methE "list" extV (varE 2) [(ifE (varE 5) (compE (itA rng1V [(callE lenV [(varE 4)])]) (nameT 6) (cE (.bl true)) (tupE [(bin2 ixV (varE 3) (varE 6)), (bin2 ixV (varE 4) (varE 6))]) [6]) (lstE []))]))))))))
  (ifS (notE (varE 5)) (retS (cE (.bl false))) nextS))) fu)
  (retS (cE (.bl true)))))
theorem sc__law_wb_same : FnScope ["heard", "owed", "todo", "one", "due", "is_so", "at"] ["heard", "owed"] (defScope (top 25)) := ⟨rfl, rfl, rfl, by decide +kernel, rfl, by decide +kernel, by decide +kernel⟩
def d__law_wb_same (as : List Ar) : RD := runD 2 7 (m__law_wb_same (fuelA as)) as
set_option maxHeartbeats 0 in
theorem s1__law_wb_same (T : Txt c) (fu : Nat) : FnS c 2 (He.ga c.K "_law_wb_same") (runD 2 7 (m__law_wb_same fu)) := by
  obtain ⟨fd, F⟩ := F__law_wb_same T
  exact fun_sh (N := ["heard", "owed", "todo", "one", "due", "is_so", "at"]) (ps := ["heard", "owed"]) (k := 1) (G := m__law_wb_same fu) F sc__law_wb_same (F.bindsN fun _ _ _ _ _ _ us hl => match us, hl with | [_, _], _ => rfl) fun cdv A outer s H Fz io E hcd b hM =>
    (s_cons (s_set (i := 2) b.nd (i_lst (i_pa_cons (i_tup (i_pa_cons (i_var (pv 0)) (i_pa_cons (i_var (pv 1)) i_pa_nil))) i_pa_nil)))
    (s_cons (s_while (n := fu) PassesOwn.leaving (q_ne b.room.units b.hX (i_var (pv 2)) (i_lst i_pa_nil)) (s_cons (s_asg (c_pop b.hX (i_var (pv 2))) (g_tup b.hX.K b.calm (g_cons (g_name (i := 3) b.nd) (g_cons (g_name (i := 4) b.nd) g_nil))))
    (s_cons (s_if (q_is (i_var (pv 4)) i_non) (s_one (s_set (i := 5) b.nd (c_is (i_var (pv 3)) i_non))) (s_one (s_if (i_test (c_isi b.hX (g_isinstance T) (i_pa_cons (i_var (pv 4)) (i_pa_cons (i_kind b.hX (g_bool T) (by rfl)) i_pa_nil)))) (s_one (s_set (i := 5) b.nd (i_and (c_isi b.hX (g_isinstance T) (i_pa_cons (i_var (pv 3)) (i_pa_cons (i_kind b.hX (g_bool T) (by rfl)) i_pa_nil))) (i_b1 (c_eq b.room.units b.hX (i_var (pv 3)) (i_var (pv 4))))))) (s_one (s_if (i_test (c_isi b.hX (g_isinstance T) (i_pa_cons (i_var (pv 4)) (i_pa_cons (i_kind b.hX (g_int T) (by rfl)) i_pa_nil)))) (s_one (s_set (i := 5) b.nd (i_and (c_call b (s__law_wb_is_whole T) (g__law_wb_is_whole T) (kp__law_wb_is_whole T) (i_pa_cons (i_var (pv 3)) i_pa_nil)) (i_b1 (c_eq b.room.units b.hX (i_var (pv 3)) (i_var (pv 4))))))) (s_one (s_if (i_test (c_isi b.hX (g_isinstance T) (i_pa_cons (i_var (pv 4)) (i_pa_cons (i_kind b.hX (g_str T) (by rfl)) i_pa_nil)))) (s_one (s_set (i := 5) b.nd (i_and (c_isi b.hX (g_isinstance T) (i_pa_cons (i_var (pv 3)) (i_pa_cons (i_kind b.hX (g_str T) (by rfl)) i_pa_nil))) (i_b1 (c_eq b.room.units b.hX (i_var (pv 3)) (i_var (pv 4))))))) (s_cons (s_set (i := 5) b.nd (i_ifx (i_test (c_isi b.hX (g_isinstance T) (i_pa_cons (i_var (pv 4)) (i_pa_cons (i_kind b.hX (g_tuple T) (by rfl)) i_pa_nil)))) (c_isi b.hX (g_isinstance T) (i_pa_cons (i_var (pv 3)) (i_pa_cons (i_kind b.hX (g_tuple T) (by rfl)) i_pa_nil))) (c_isi b.hX (g_isinstance T) (i_pa_cons (i_var (pv 3)) (i_pa_cons (i_kind b.hX (g_list T) (by rfl)) i_pa_nil)))))
    (s_cons (s_set (i := 5) b.nd (i_and (i_var (pv 5)) (i_b1 (c_eq b.room.units b.hX (c_len b.hX (g_len T) (i_pa_cons (i_var (pv 3)) i_pa_nil)) (c_len b.hX (g_len T) (i_pa_cons (i_var (pv 4)) i_pa_nil))))))
    (s_one (s_expr (c_extend b.hX (i_var (pv 2)) (i_pa_cons (i_ifx (i_test (i_var (pv 5))) (i_lc (own := [("at", 6)]) b.calm b.nd (w_rng1 (hm := (by rw [(b.hX).mg]; exact g_range T)) (ha := (i_pa_cons (c_len b.hX (g_len T) (i_pa_cons (i_var (pv 4)) i_pa_nil)) i_pa_nil))) (blkOk_by (by rfl)) (fun _ _ _ _ _ => (g_name (i := 6) b.blk.nd)) (fun _ _ _ _ _ => t_yes) (fun _ _ _ _ _ => (i_tup (i_pa_cons (c_ix b.blk.hX (i_var (pv 3)) (i_var (pv 6))) (i_pa_cons (c_ix b.blk.hX (i_var (pv 4)) (i_var (pv 6))) i_pa_nil)))) (by decide)) (i_lst i_pa_nil)) i_pa_nil)))))))))))))
    (s_one (s_if (t_not (i_test (i_var (pv 5)))) (s_one (s_ret i_bl)) s_nil)))))
    (s_one (s_ret i_bl))))
theorem s__law_wb_same (T : Txt c) : FnS c 2 (He.ga c.K "_law_wb_same") d__law_wb_same := fun A outer s H F as => s1__law_wb_same T _ A outer s H F as
def m__law_a2_tells : S → OS :=
  (retS (callE (callV d__law_wb_same) [(callE (callVT d__law_a2_heard) [(varE 0)]), (tupE [(cE (.str "told")), (varE 1)])]))
theorem sc__law_a2_tells : FnScope ["call", "owed"] ["call", "owed"] (defScope (top 38)) := ⟨rfl, rfl, rfl, by decide +kernel, rfl, by decide +kernel, by decide +kernel⟩
def d__law_a2_tells (as : List Ar) : RD := runD 2 2 m__law_a2_tells as
set_option maxHeartbeats 0 in
theorem s__law_a2_tells (T : Txt c) : FnS c 62 (He.ga c.K "_law_a2_tells") d__law_a2_tells := by
  obtain ⟨fd, F⟩ := F__law_a2_tells T
  exact fun_sh (N := ["call", "owed"]) (ps := ["call", "owed"]) (k := 61) (G := m__law_a2_tells) F sc__law_a2_tells (F.bindsN fun _ _ _ _ _ _ us hl => match us, hl with | [_, _], _ => rfl) fun cdv A outer s H Fz io E hcd b hM =>
    (s_one (s_ret (c_call b (s__law_wb_same T) (g__law_wb_same T) (kp__law_wb_same T) (i_pa_cons (c_callK b hM (s__law_a2_heard T) (g__law_a2_heard T) (kp__law_a2_heard T) (i_pa_cons (i_var (pv 0)) i_pa_nil)) (i_pa_cons (i_tup (i_pa_cons i_str (i_pa_cons (i_var (pv 1)) i_pa_nil))) i_pa_nil)))))
def m_lowest : S → OS :=
  (seqS (setS 2 (ifE (bin2 gtV (varE 1) (cE (.int 0))) (callE gcdV [(varE 0), (varE 1)]) (un1 negV (callE gcdV [(varE 0), (varE 1)]))))
  (retS (tupE [(bin2 divV (varE 0) (varE 2)), (bin2 divV (varE 1) (varE 2))])))
theorem sc_lowest : FnScope ["top", "bottom", "common"] ["top", "bottom"] (defScope (top 9)) := ⟨rfl, rfl, rfl, by decide +kernel, rfl, by decide +kernel, by decide +kernel⟩
def d_lowest (as : List Ar) : RD := runD 2 3 m_lowest as
set_option maxHeartbeats 0 in
theorem s_lowest (T : Txt c) : FnS c 1 (He.ga c.K "lowest") d_lowest := by
  obtain ⟨fd, F⟩ := F_lowest T
  exact fun_sh (N := ["top", "bottom", "common"]) (ps := ["top", "bottom"]) (k := 0) (G := m_lowest) F sc_lowest (F.bindsN fun _ _ _ _ _ _ us hl => match us, hl with | [_, _], _ => rfl) fun cdv A outer s H Fz io E hcd b hM =>
    (s_cons (s_set (i := 2) b.nd (i_ifx (q_gt (i_var (pv 1)) i_int) (c_gcd b.hX T.g_gcd (i_pa_cons (i_var (pv 0)) (i_pa_cons (i_var (pv 1)) i_pa_nil))) (c_neg (c_gcd b.hX T.g_gcd (i_pa_cons (i_var (pv 0)) (i_pa_cons (i_var (pv 1)) i_pa_nil))))))
    (s_one (s_ret (i_tup (i_pa_cons (c_div b.hX (i_var (pv 0)) (i_var (pv 2))) (i_pa_cons (c_div b.hX (i_var (pv 1)) (i_var (pv 2))) i_pa_nil))))))
def m_a_minus : S → OS :=
  (retS (callE (callV d_lowest) [(bin2 subV (bin2 mulV (bin2 ixV (varE 0) (cE (.int 0))) (bin2 ixV (varE 1) (cE (.int 1)))) (bin2 mulV (bin2 ixV (varE 1) (cE (.int 0))) (bin2 ixV (varE 0) (cE (.int 1))))), (bin2 mulV (bin2 ixV (varE 0) (cE (.int 1))) (bin2 ixV (varE 1) (cE (.int 1))))]))
theorem sc_a_minus : FnScope ["a", "b"] ["a", "b"] (defScope (top 11)) := ⟨rfl, rfl, rfl, by decide +kernel, rfl, by decide +kernel, by decide +kernel⟩
def d_a_minus (as : List Ar) : RD := runD 2 2 m_a_minus as
set_option maxHeartbeats 0 in
theorem s_a_minus (T : Txt c) : FnS c 2 (He.ga c.K "a_minus") d_a_minus := by
  obtain ⟨fd, F⟩ := F_a_minus T
  exact fun_sh (N := ["a", "b"]) (ps := ["a", "b"]) (k := 1) (G := m_a_minus) F sc_a_minus (F.bindsN fun _ _ _ _ _ _ us hl => match us, hl with | [_, _], _ => rfl) fun cdv A outer s H Fz io E hcd b hM =>
    (s_one (s_ret (c_call b (s_lowest T) (g_lowest T) (kp_lowest T) (i_pa_cons (c_sub b.hX (c_mul b.hX (c_ix b.hX (i_var (pv 0)) i_int) (c_ix b.hX (i_var (pv 1)) i_int)) (c_mul b.hX (c_ix b.hX (i_var (pv 1)) i_int) (c_ix b.hX (i_var (pv 0)) i_int))) (i_pa_cons (c_mul b.hX (c_ix b.hX (i_var (pv 0)) i_int) (c_ix b.hX (i_var (pv 1)) i_int)) i_pa_nil)))))
def m_is_int : S → OS :=
  (retS (andE (callE isiV [(varE 0), (cE (.ty "int"))]) (notE (callE isiV [(varE 0), (cE (.ty "bool"))]))))
theorem sc_is_int : FnScope ["thing"] ["thing"] (defScope (top 7)) := ⟨rfl, rfl, rfl, by decide +kernel, rfl, by decide +kernel, by decide +kernel⟩
def d_is_int (as : List Ar) : RD := runD 1 1 m_is_int as
set_option maxHeartbeats 0 in
theorem s_is_int (T : Txt c) : FnS c 1 (He.ga c.K "is_int") d_is_int := by
  obtain ⟨fd, F⟩ := F_is_int T
  exact fun_sh (N := ["thing"]) (ps := ["thing"]) (k := 0) (G := m_is_int) F sc_is_int (F.bindsN fun _ _ _ _ _ _ us hl => match us, hl with | [_], _ => rfl) fun cdv A outer s H Fz io E hcd b hM =>
    (s_one (s_ret (i_and (c_isi b.hX (g_isinstance T) (i_pa_cons (i_var (pv 0)) (i_pa_cons (i_kind b.hX (g_int T) (by rfl)) i_pa_nil))) (i_b1 (i_not (c_isi b.hX (g_isinstance T) (i_pa_cons (i_var (pv 0)) (i_pa_cons (i_kind b.hX (g_bool T) (by rfl)) i_pa_nil))))))))
def m_is_fraction : S → OS :=
  (seqS (ifS (orE (notE (callE isiV [(varE 0), (cE (.ty "tuple"))])) (orE (bin2 (eqV true) (callE lenV [(varE 0)]) (cE (.int 2))) (orE (notE (callE (callV d_is_int) [(bin2 ixV (varE 0) (cE (.int 0)))])) (notE (callE (callV d_is_int) [(bin2 ixV (varE 0) (cE (.int 1)))]))))) (retS (cE (.bl false))) nextS)
  (retS (andE (bin2 geV (bin2 ixV (varE 0) (cE (.int 1))) (cE (.int 1))) (bin2 (eqV false) (callE gcdV [(bin2 ixV (varE 0) (cE (.int 0))), (bin2 ixV (varE 0) (cE (.int 1)))]) (cE (.int 1))))))
theorem sc_is_fraction : FnScope ["thing"] ["thing"] (defScope (top 8)) := ⟨rfl, rfl, rfl, by decide +kernel, rfl, by decide +kernel, by decide +kernel⟩
def d_is_fraction (as : List Ar) : RD := runD 1 1 m_is_fraction as
set_option maxHeartbeats 0 in
theorem s_is_fraction (T : Txt c) : FnS c 2 (He.ga c.K "is_fraction") d_is_fraction := by
  obtain ⟨fd, F⟩ := F_is_fraction T
  exact fun_sh (N := ["thing"]) (ps := ["thing"]) (k := 1) (G := m_is_fraction) F sc_is_fraction (F.bindsN fun _ _ _ _ _ _ us hl => match us, hl with | [_], _ => rfl) fun cdv A outer s H Fz io E hcd b hM =>
    (s_cons (s_if (w_or (t_not (i_test (c_isi b.hX (g_isinstance T) (i_pa_cons (i_var (pv 0)) (i_pa_cons (i_kind b.hX (g_tuple T) (by rfl)) i_pa_nil))))) (w_or (q_ne b.room.units b.hX (c_len b.hX (g_len T) (i_pa_cons (i_var (pv 0)) i_pa_nil)) i_int) (w_or (t_not (i_test (c_call b (s_is_int T) (g_is_int T) (kp_is_int T) (i_pa_cons (c_ix b.hX (i_var (pv 0)) i_int) i_pa_nil)))) (w_or1 (t_not (i_test (c_call b (s_is_int T) (g_is_int T) (kp_is_int T) (i_pa_cons (c_ix b.hX (i_var (pv 0)) i_int) i_pa_nil)))))))).pt (s_one (s_ret i_bl)) s_nil)
    (s_one (s_ret (i_and (c_ge (c_ix b.hX (i_var (pv 0)) i_int) i_int) (i_b1 (c_eq b.room.units b.hX (c_gcd b.hX T.g_gcd (i_pa_cons (c_ix b.hX (i_var (pv 0)) i_int) (i_pa_cons (c_ix b.hX (i_var (pv 0)) i_int) i_pa_nil))) i_int))))))
def m_made_fraction : S → OS :=
  (seqS (ifS (notE (callE (callV d_is_fraction) [(varE 0)])) (raiseS "BadFraction" (cE (.int 0))) nextS)
  (retS (varE 0)))
theorem sc_made_fraction : FnScope ["thing"] ["thing"] (defScope (top 14)) := ⟨rfl, rfl, rfl, by decide +kernel, rfl, by decide +kernel, by decide +kernel⟩
def d_made_fraction (as : List Ar) : RD := runD 1 1 m_made_fraction as
set_option maxHeartbeats 0 in
theorem s_made_fraction (T : Txt c) : FnS c 5 (He.ga c.K "made_fraction") d_made_fraction := by
  obtain ⟨fd, F⟩ := F_made_fraction T
  exact fun_sh (N := ["thing"]) (ps := ["thing"]) (k := 4) (G := m_made_fraction) F sc_made_fraction (F.bindsN fun _ _ _ _ _ _ us hl => match us, hl with | [_], _ => rfl) fun cdv A outer s H Fz io E hcd b hM =>
    (s_cons (s_if (t_not (i_test (c_call b (s_is_fraction T) (g_is_fraction T) (kp_is_fraction T) (i_pa_cons (i_var (pv 0)) i_pa_nil)))) (s_one (s_raise b.hX b.calm (T.cls.one _ _ (by decide) (g_BadFraction T)) T.ini (b.room.mono (by decide)) b.tk (g_BadFraction T) i_int)) s_nil)
    (s_one (s_ret (i_var (pv 0)))))
def m_minus : S → OS :=
  (retS (callE (callV d_a_minus) [(callE (callV d_made_fraction) [(varE 0)]), (callE (callV d_made_fraction) [(varE 1)])]))
theorem sc_minus : FnScope ["a", "b"] ["a", "b"] (defScope (top 16)) := ⟨rfl, rfl, rfl, by decide +kernel, rfl, by decide +kernel, by decide +kernel⟩
def d_minus (as : List Ar) : RD := runD 2 2 m_minus as
set_option maxHeartbeats 0 in
theorem s_minus (T : Txt c) : FnS c 6 (He.ga c.K "minus") d_minus := by
  obtain ⟨fd, F⟩ := F_minus T
  exact fun_sh (N := ["a", "b"]) (ps := ["a", "b"]) (k := 5) (G := m_minus) F sc_minus (F.bindsN fun _ _ _ _ _ _ us hl => match us, hl with | [_, _], _ => rfl) fun cdv A outer s H Fz io E hcd b hM =>
    (s_one (s_ret (c_call b (s_a_minus T) (g_a_minus T) (kp_a_minus T) (i_pa_cons (c_call b (s_made_fraction T) (g_made_fraction T) (kp_made_fraction T) (i_pa_cons (i_var (pv 0)) i_pa_nil)) (i_pa_cons (c_call b (s_made_fraction T) (g_made_fraction T) (kp_made_fraction T) (i_pa_cons (i_var (pv 1)) i_pa_nil)) i_pa_nil)))))
def m_a_over : S → OS :=
  (retS (callE (callV d_lowest) [(bin2 mulV (bin2 ixV (varE 0) (cE (.int 0))) (bin2 ixV (varE 1) (cE (.int 1)))), (bin2 mulV (bin2 ixV (varE 0) (cE (.int 1))) (bin2 ixV (varE 1) (cE (.int 0))))]))
theorem sc_a_over : FnScope ["a", "b"] ["a", "b"] (defScope (top 13)) := ⟨rfl, rfl, rfl, by decide +kernel, rfl, by decide +kernel, by decide +kernel⟩
def d_a_over (as : List Ar) : RD := runD 2 2 m_a_over as
set_option maxHeartbeats 0 in
theorem s_a_over (T : Txt c) : FnS c 2 (He.ga c.K "a_over") d_a_over := by
  obtain ⟨fd, F⟩ := F_a_over T
  exact fun_sh (N := ["a", "b"]) (ps := ["a", "b"]) (k := 1) (G := m_a_over) F sc_a_over (F.bindsN fun _ _ _ _ _ _ us hl => match us, hl with | [_, _], _ => rfl) fun cdv A outer s H Fz io E hcd b hM =>
    (s_one (s_ret (c_call b (s_lowest T) (g_lowest T) (kp_lowest T) (i_pa_cons (c_mul b.hX (c_ix b.hX (i_var (pv 0)) i_int) (c_ix b.hX (i_var (pv 1)) i_int)) (i_pa_cons (c_mul b.hX (c_ix b.hX (i_var (pv 0)) i_int) (c_ix b.hX (i_var (pv 1)) i_int)) i_pa_nil)))))
def m_over : S → OS :=
  (seqS (dropS (callE (callV d_made_fraction) [(varE 0)]))
  (seqS (ifS (bin2 (eqV false) (callE (callV d_made_fraction) [(varE 1)]) k_NOUGHT) (raiseS "Nought" (cE (.int 0))) nextS)
  (retS (callE (callV d_a_over) [(varE 0), (varE 1)]))))
theorem sc_over : FnScope ["a", "b"] ["a", "b"] (defScope (top 18)) := ⟨rfl, rfl, rfl, by decide +kernel, rfl, by decide +kernel, by decide +kernel⟩
def d_over (as : List Ar) : RD := runD 2 2 m_over as
set_option maxHeartbeats 0 in
theorem s_over (T : Txt c) : FnS c 6 (He.ga c.K "over") d_over := by
  obtain ⟨fd, F⟩ := F_over T
  exact fun_sh (N := ["a", "b"]) (ps := ["a", "b"]) (k := 5) (G := m_over) F sc_over (F.bindsN fun _ _ _ _ _ _ us hl => match us, hl with | [_, _], _ => rfl) fun cdv A outer s H Fz io E hcd b hM =>
    (s_cons (s_expr (c_call b (s_made_fraction T) (g_made_fraction T) (kp_made_fraction T) (i_pa_cons (i_var (pv 0)) i_pa_nil)))
    (s_cons (s_if (q_eq b.room.units b.hX (c_call b (s_made_fraction T) (g_made_fraction T) (kp_made_fraction T) (i_pa_cons (i_var (pv 1)) i_pa_nil)) (i_glob b.hX (T.k_NOUGHT).1 (T.k_NOUGHT).2.1 (T.k_NOUGHT).2.2)) (s_one (s_raise b.hX b.calm (T.cls.one _ _ (by decide) (g_Nought T)) T.ini (b.room.mono (by decide)) b.tk (g_Nought T) i_int)) s_nil)
    (s_one (s_ret (c_call b (s_a_over T) (g_a_over T) (kp_a_over T) (i_pa_cons (i_var (pv 0)) (i_pa_cons (i_var (pv 1)) i_pa_nil)))))))
def m_a_plus : S → OS :=
  (retS (callE (callV d_lowest) [(bin2 addV (bin2 mulV (bin2 ixV (varE 0) (cE (.int 0))) (bin2 ixV (varE 1) (cE (.int 1)))) (bin2 mulV (bin2 ixV (varE 1) (cE (.int 0))) (bin2 ixV (varE 0) (cE (.int 1))))), (bin2 mulV (bin2 ixV (varE 0) (cE (.int 1))) (bin2 ixV (varE 1) (cE (.int 1))))]))
theorem sc_a_plus : FnScope ["a", "b"] ["a", "b"] (defScope (top 10)) := ⟨rfl, rfl, rfl, by decide +kernel, rfl, by decide +kernel, by decide +kernel⟩
def d_a_plus (as : List Ar) : RD := runD 2 2 m_a_plus as
set_option maxHeartbeats 0 in
theorem s_a_plus (T : Txt c) : FnS c 2 (He.ga c.K "a_plus") d_a_plus := by
  obtain ⟨fd, F⟩ := F_a_plus T
  exact fun_sh (N := ["a", "b"]) (ps := ["a", "b"]) (k := 1) (G := m_a_plus) F sc_a_plus (F.bindsN fun _ _ _ _ _ _ us hl => match us, hl with | [_, _], _ => rfl) fun cdv A outer s H Fz io E hcd b hM =>
    (s_one (s_ret (c_call b (s_lowest T) (g_lowest T) (kp_lowest T) (i_pa_cons (c_add b.hX (c_mul b.hX (c_ix b.hX (i_var (pv 0)) i_int) (c_ix b.hX (i_var (pv 1)) i_int)) (c_mul b.hX (c_ix b.hX (i_var (pv 1)) i_int) (c_ix b.hX (i_var (pv 0)) i_int))) (i_pa_cons (c_mul b.hX (c_ix b.hX (i_var (pv 0)) i_int) (c_ix b.hX (i_var (pv 1)) i_int)) i_pa_nil)))))
def m_plus : S → OS :=
  (retS (callE (callV d_a_plus) [(callE (callV d_made_fraction) [(varE 0)]), (callE (callV d_made_fraction) [(varE 1)])]))
theorem sc_plus : FnScope ["a", "b"] ["a", "b"] (defScope (top 15)) := ⟨rfl, rfl, rfl, by decide +kernel, rfl, by decide +kernel, by decide +kernel⟩
def d_plus (as : List Ar) : RD := runD 2 2 m_plus as
set_option maxHeartbeats 0 in
theorem s_plus (T : Txt c) : FnS c 6 (He.ga c.K "plus") d_plus := by
  obtain ⟨fd, F⟩ := F_plus T
  exact fun_sh (N := ["a", "b"]) (ps := ["a", "b"]) (k := 5) (G := m_plus) F sc_plus (F.bindsN fun _ _ _ _ _ _ us hl => match us, hl with | [_, _], _ => rfl) fun cdv A outer s H Fz io E hcd b hM =>
    (s_one (s_ret (c_call b (s_a_plus T) (g_a_plus T) (kp_a_plus T) (i_pa_cons (c_call b (s_made_fraction T) (g_made_fraction T) (kp_made_fraction T) (i_pa_cons (i_var (pv 0)) i_pa_nil)) (i_pa_cons (c_call b (s_made_fraction T) (g_made_fraction T) (kp_made_fraction T) (i_pa_cons (i_var (pv 1)) i_pa_nil)) i_pa_nil)))))
def m_a_times : S → OS :=
  (retS (callE (callV d_lowest) [(bin2 mulV (bin2 ixV (varE 0) (cE (.int 0))) (bin2 ixV (varE 1) (cE (.int 0)))), (bin2 mulV (bin2 ixV (varE 0) (cE (.int 1))) (bin2 ixV (varE 1) (cE (.int 1))))]))
theorem sc_a_times : FnScope ["a", "b"] ["a", "b"] (defScope (top 12)) := ⟨rfl, rfl, rfl, by decide +kernel, rfl, by decide +kernel, by decide +kernel⟩
def d_a_times (as : List Ar) : RD := runD 2 2 m_a_times as
set_option maxHeartbeats 0 in
theorem s_a_times (T : Txt c) : FnS c 2 (He.ga c.K "a_times") d_a_times := by
  obtain ⟨fd, F⟩ := F_a_times T
  exact fun_sh (N := ["a", "b"]) (ps := ["a", "b"]) (k := 1) (G := m_a_times) F sc_a_times (F.bindsN fun _ _ _ _ _ _ us hl => match us, hl with | [_, _], _ => rfl) fun cdv A outer s H Fz io E hcd b hM =>
    (s_one (s_ret (c_call b (s_lowest T) (g_lowest T) (kp_lowest T) (i_pa_cons (c_mul b.hX (c_ix b.hX (i_var (pv 0)) i_int) (c_ix b.hX (i_var (pv 1)) i_int)) (i_pa_cons (c_mul b.hX (c_ix b.hX (i_var (pv 0)) i_int) (c_ix b.hX (i_var (pv 1)) i_int)) i_pa_nil)))))
def m_times : S → OS :=
  (retS (callE (callV d_a_times) [(callE (callV d_made_fraction) [(varE 0)]), (callE (callV d_made_fraction) [(varE 1)])]))
theorem sc_times : FnScope ["a", "b"] ["a", "b"] (defScope (top 17)) := ⟨rfl, rfl, rfl, by decide +kernel, rfl, by decide +kernel, by decide +kernel⟩
def d_times (as : List Ar) : RD := runD 2 2 m_times as
set_option maxHeartbeats 0 in
theorem s_times (T : Txt c) : FnS c 6 (He.ga c.K "times") d_times := by
  obtain ⟨fd, F⟩ := F_times T
  exact fun_sh (N := ["a", "b"]) (ps := ["a", "b"]) (k := 5) (G := m_times) F sc_times (F.bindsN fun _ _ _ _ _ _ us hl => match us, hl with | [_, _], _ => rfl) fun cdv A outer s H Fz io E hcd b hM =>
    (s_one (s_ret (c_call b (s_a_times T) (g_a_times T) (kp_a_times T) (i_pa_cons (c_call b (s_made_fraction T) (g_made_fraction T) (kp_made_fraction T) (i_pa_cons (i_var (pv 0)) i_pa_nil)) (i_pa_cons (c_call b (s_made_fraction T) (g_made_fraction T) (kp_made_fraction T) (i_pa_cons (i_var (pv 1)) i_pa_nil)) i_pa_nil)))))
def m__law_a2_back_right : S → OS :=
  (seqS (asgS (tupT 2 (consT (nameT 2) (consT (nameT 3) nilT))) (lamE d__law_a2_heard [0, 1] (callE (callV d_plus) [(varE 0), (varE 1)]) []))
  (seqS (ifS (orE (bin2 (eqV true) (varE 2) (cE (.str "told"))) (notE (lamE d__law_a2_tells [1, 3] (callE (callV d_minus) [(varE 3), (varE 1)]) [(varE 0)]))) (retS (cE (.bl false))) nextS)
  (seqS (asgS (tupT 2 (consT (nameT 2) (consT (nameT 4) nilT))) (lamE d__law_a2_heard [0, 1] (callE (callV d_times) [(varE 0), (varE 1)]) []))
  (seqS (ifS (bin2 (eqV true) (varE 2) (cE (.str "told"))) (retS (cE (.bl false))) nextS)
  (retS (orE (bin2 (eqV false) (varE 1) (tupE [(cE (.int 0)), (cE (.int 1))])) (lamE d__law_a2_tells [1, 4] (callE (callV d_over) [(varE 4), (varE 1)]) [(varE 0)])))))))
theorem sc__law_a2_back_right : FnScope ["a", "b", "word", "total", "much"] ["a", "b"] (defScope (top 40)) := ⟨rfl, rfl, rfl, by decide +kernel, rfl, by decide +kernel, by decide +kernel⟩
def d__law_a2_back_right (as : List Ar) : RD := runD 2 5 m__law_a2_back_right as
set_option maxHeartbeats 0 in
theorem s__law_a2_back_right (T : Txt c) : FnS c 63 (He.ga c.K "_law_a2_back_right") d__law_a2_back_right := by
  obtain ⟨fd, F⟩ := F__law_a2_back_right T
  exact fun_sh (N := ["a", "b", "word", "total", "much"]) (ps := ["a", "b"]) (k := 62) (G := m__law_a2_back_right) F sc__law_a2_back_right (F.bindsN fun _ _ _ _ _ _ us hl => match us, hl with | [_, _], _ => rfl) fun cdv A outer s H Fz io E hcd b hM =>
    (s_cons (s_asg (i_lam (caps := [0, 1]) b.hX (fun _ => rfl) (s__law_a2_heard T) (g__law_a2_heard T) (b.room.mono (by decide)) b.tk (T.tb ("_law_a2_back_right", none) (by decide +kernel)) (hcd rfl) (T.inT ("_law_a2_back_right", none) (by decide +kernel)) (T.uniq ("_law_a2_back_right", none) (by decide +kernel)) (LamX.lamS_by (by rfl)) (fun A outer s H F E f c' hr tk => have bl : Bd c ⟨s, H, outer, F, [], none⟩ (WD E) _ 59 := b.lam hr tk; (c_call bl (s_plus T) (g_plus T) (kp_plus T) (i_pa_cons (i_var (pv 0)) (i_pa_cons (i_var (pv 1)) i_pa_nil)))) i_pa_nil (hk := kp__law_a2_heard T)) (g_tup b.hX.K b.calm (g_cons (g_name (i := 2) b.nd) (g_cons (g_name (i := 3) b.nd) g_nil))))
    (s_cons (s_if (w_or (q_ne b.room.units b.hX (i_var (pv 2)) i_str) (w_or1 (t_not (i_test (i_lam (caps := [1, 3]) b.hX (fun _ => rfl) (s__law_a2_tells T) (g__law_a2_tells T) (b.room.mono (by decide)) b.tk (T.tb ("_law_a2_back_right", none) (by decide +kernel)) (hcd rfl) (T.inT ("_law_a2_back_right", none) (by decide +kernel)) (T.uniq ("_law_a2_back_right", none) (by decide +kernel)) (LamX.lamS_by (by rfl)) (fun A outer s H F E f c' hr tk => have bl : Bd c ⟨s, H, outer, F, [], none⟩ (WD E) _ 59 := b.lam hr tk; (c_call bl (s_minus T) (g_minus T) (kp_minus T) (i_pa_cons (i_var (pv 3)) (i_pa_cons (i_var (pv 1)) i_pa_nil)))) (i_pa_cons (i_var (pv 0)) i_pa_nil) (hk := kp__law_a2_tells T)))))).pt (s_one (s_ret i_bl)) s_nil)
    (s_cons (s_asg (i_lam (caps := [0, 1]) b.hX (fun _ => rfl) (s__law_a2_heard T) (g__law_a2_heard T) (b.room.mono (by decide)) b.tk (T.tb ("_law_a2_back_right", none) (by decide +kernel)) (hcd rfl) (T.inT ("_law_a2_back_right", none) (by decide +kernel)) (T.uniq ("_law_a2_back_right", none) (by decide +kernel)) (LamX.lamS_by (by rfl)) (fun A outer s H F E f c' hr tk => have bl : Bd c ⟨s, H, outer, F, [], none⟩ (WD E) _ 59 := b.lam hr tk; (c_call bl (s_times T) (g_times T) (kp_times T) (i_pa_cons (i_var (pv 0)) (i_pa_cons (i_var (pv 1)) i_pa_nil)))) i_pa_nil (hk := kp__law_a2_heard T)) (g_tup b.hX.K b.calm (g_cons (g_name (i := 2) b.nd) (g_cons (g_name (i := 4) b.nd) g_nil))))
    (s_cons (s_if (q_ne b.room.units b.hX (i_var (pv 2)) i_str) (s_one (s_ret i_bl)) s_nil)
    (s_one (s_ret (i_or (c_eq b.room.units b.hX (i_var (pv 1)) (i_tup (i_pa_cons i_int (i_pa_cons i_int i_pa_nil)))) (i_b1 (i_lam (caps := [1, 4]) b.hX (fun _ => rfl) (s__law_a2_tells T) (g__law_a2_tells T) (b.room.mono (by decide)) b.tk (T.tb ("_law_a2_back_right", none) (by decide +kernel)) (hcd rfl) (T.inT ("_law_a2_back_right", none) (by decide +kernel)) (T.uniq ("_law_a2_back_right", none) (by decide +kernel)) (LamX.lamS_by (by rfl)) (fun A outer s H F E f c' hr tk => have bl : Bd c ⟨s, H, outer, F, [], none⟩ (WD E) _ 59 := b.lam hr tk; (c_call bl (s_over T) (g_over T) (kp_over T) (i_pa_cons (i_var (pv 4)) (i_pa_cons (i_var (pv 1)) i_pa_nil)))) (i_pa_cons (i_var (pv 0)) i_pa_nil) (hk := kp__law_a2_tells T))))))))))
def m__law_wb_gcd : S → OS :=
  (seqS (parS 2 3 (callE absV [(varE 0)]) (callE absV [(varE 1)]))
  (seqS (forS (itA rng1V [(cE (.int 100000))]) (nameT 4) (seqS (ifS (bin2 (eqV false) (varE 3) (cE (.int 0))) (retS (varE 2)) nextS)
  (parS 2 3 (varE 3) (bin2 modV (callE toIntV [(varE 2)]) (callE toIntV [(varE 3)])))))
  (retS (cE (.int 1)))))
theorem sc__law_wb_gcd : FnScope ["one", "other", "a", "b", "go"] ["one", "other"] (defScope (top 26)) := ⟨rfl, rfl, rfl, by decide +kernel, rfl, by decide +kernel, by decide +kernel⟩
def d__law_wb_gcd (as : List Ar) : RD := runD 2 5 m__law_wb_gcd as
set_option maxHeartbeats 0 in
theorem s__law_wb_gcd (T : Txt c) : FnS c 1 (He.ga c.K "_law_wb_gcd") d__law_wb_gcd := by
  obtain ⟨fd, F⟩ := F__law_wb_gcd T
  exact fun_sh (N := ["one", "other", "a", "b", "go"]) (ps := ["one", "other"]) (k := 0) (G := m__law_wb_gcd) F sc__law_wb_gcd (F.bindsN fun _ _ _ _ _ _ us hl => match us, hl with | [_, _], _ => rfl) fun cdv A outer s H Fz io E hcd b hM =>
    (s_cons (s_par (i := 2) (j := 3) b.calm b.nd (i_pa_cons (c_abs b.hX (g_abs T) (i_pa_cons (i_var (pv 0)) i_pa_nil)) (i_pa_cons (c_abs b.hX (g_abs T) (i_pa_cons (i_var (pv 1)) i_pa_nil)) i_pa_nil)))
    (s_cons (s_for PassesOwn.leaving b.calm (w_rng1 (hm := (by rw [(b.hX).mg]; exact g_range T)) (ha := (i_pa_cons i_int i_pa_nil))) (g_name (i := 4) b.nd) (s_cons (s_if (q_eq b.room.units b.hX (i_var (pv 3)) i_int) (s_one (s_ret (i_var (pv 2)))) s_nil)
    (s_one (s_par (i := 2) (j := 3) b.calm b.nd (i_pa_cons (i_var (pv 3)) (i_pa_cons (c_mod b.hX (c_int b.hX (g_int T) (i_pa_cons (i_var (pv 2)) i_pa_nil)) (c_int b.hX (g_int T) (i_pa_cons (i_var (pv 3)) i_pa_nil))) i_pa_nil))))))
    (s_one (s_ret i_int))))
def m__law_wb_low : S → OS :=
  (seqS (setS 2 (callE (callV d__law_wb_gcd) [(varE 0), (varE 1)]))
  (seqS (setS 3 (ifE (bin2 gtV (varE 1) (cE (.int 0))) (cE (.int 1)) (un1 negV (cE (.int 1)))))
  (retS (tupE [(bin2 divV (bin2 mulV (varE 3) (varE 0)) (varE 2)), (bin2 divV (bin2 mulV (varE 3) (varE 1)) (varE 2))]))))
theorem sc__law_wb_low : FnScope ["top", "bottom", "much", "sign"] ["top", "bottom"] (defScope (top 27)) := ⟨rfl, rfl, rfl, by decide +kernel, rfl, by decide +kernel, by decide +kernel⟩
def d__law_wb_low (as : List Ar) : RD := runD 2 4 m__law_wb_low as
set_option maxHeartbeats 0 in
theorem s__law_wb_low (T : Txt c) : FnS c 2 (He.ga c.K "_law_wb_low") d__law_wb_low := by
  obtain ⟨fd, F⟩ := F__law_wb_low T
  exact fun_sh (N := ["top", "bottom", "much", "sign"]) (ps := ["top", "bottom"]) (k := 1) (G := m__law_wb_low) F sc__law_wb_low (F.bindsN fun _ _ _ _ _ _ us hl => match us, hl with | [_, _], _ => rfl) fun cdv A outer s H Fz io E hcd b hM =>
    (s_cons (s_set (i := 2) b.nd (c_call b (s__law_wb_gcd T) (g__law_wb_gcd T) (kp__law_wb_gcd T) (i_pa_cons (i_var (pv 0)) (i_pa_cons (i_var (pv 1)) i_pa_nil))))
    (s_cons (s_set (i := 3) b.nd (i_ifx (q_gt (i_var (pv 1)) i_int) i_int (c_neg i_int)))
    (s_one (s_ret (i_tup (i_pa_cons (c_div b.hX (c_mul b.hX (i_var (pv 3)) (i_var (pv 0))) (i_var (pv 2))) (i_pa_cons (c_div b.hX (c_mul b.hX (i_var (pv 3)) (i_var (pv 1))) (i_var (pv 2))) i_pa_nil)))))))
def m__law_wb_plus : S → OS :=
  (retS (callE (callV d__law_wb_low) [(bin2 addV (bin2 mulV (bin2 ixV (varE 0) (cE (.int 0))) (bin2 ixV (varE 1) (cE (.int 1)))) (bin2 mulV (bin2 ixV (varE 1) (cE (.int 0))) (bin2 ixV (varE 0) (cE (.int 1))))), (bin2 mulV (bin2 ixV (varE 0) (cE (.int 1))) (bin2 ixV (varE 1) (cE (.int 1))))]))
theorem sc__law_wb_plus : FnScope ["a", "b"] ["a", "b"] (defScope (top 28)) := ⟨rfl, rfl, rfl, by decide +kernel, rfl, by decide +kernel, by decide +kernel⟩
def d__law_wb_plus (as : List Ar) : RD := runD 2 2 m__law_wb_plus as
set_option maxHeartbeats 0 in
theorem s__law_wb_plus (T : Txt c) : FnS c 3 (He.ga c.K "_law_wb_plus") d__law_wb_plus := by
  obtain ⟨fd, F⟩ := F__law_wb_plus T
  exact fun_sh (N := ["a", "b"]) (ps := ["a", "b"]) (k := 2) (G := m__law_wb_plus) F sc__law_wb_plus (F.bindsN fun _ _ _ _ _ _ us hl => match us, hl with | [_, _], _ => rfl) fun cdv A outer s H Fz io E hcd b hM =>
    (s_one (s_ret (c_call b (s__law_wb_low T) (g__law_wb_low T) (kp__law_wb_low T) (i_pa_cons (c_add b.hX (c_mul b.hX (c_ix b.hX (i_var (pv 0)) i_int) (c_ix b.hX (i_var (pv 1)) i_int)) (c_mul b.hX (c_ix b.hX (i_var (pv 1)) i_int) (c_ix b.hX (i_var (pv 0)) i_int))) (i_pa_cons (c_mul b.hX (c_ix b.hX (i_var (pv 0)) i_int) (c_ix b.hX (i_var (pv 1)) i_int)) i_pa_nil)))))
def m__law_wb_minus : S → OS :=
  (retS (callE (callV d__law_wb_plus) [(varE 0), (tupE [(bin2 subV (cE (.int 0)) (bin2 ixV (varE 1) (cE (.int 0)))), (bin2 ixV (varE 1) (cE (.int 1)))])]))
theorem sc__law_wb_minus : FnScope ["a", "b"] ["a", "b"] (defScope (top 30)) := ⟨rfl, rfl, rfl, by decide +kernel, rfl, by decide +kernel, by decide +kernel⟩
def d__law_wb_minus (as : List Ar) : RD := runD 2 2 m__law_wb_minus as
set_option maxHeartbeats 0 in
theorem s__law_wb_minus (T : Txt c) : FnS c 4 (He.ga c.K "_law_wb_minus") d__law_wb_minus := by
  obtain ⟨fd, F⟩ := F__law_wb_minus T
  exact fun_sh (N := ["a", "b"]) (ps := ["a", "b"]) (k := 3) (G := m__law_wb_minus) F sc__law_wb_minus (F.bindsN fun _ _ _ _ _ _ us hl => match us, hl with | [_, _], _ => rfl) fun cdv A outer s H Fz io E hcd b hM =>
    (s_one (s_ret (c_call b (s__law_wb_plus T) (g__law_wb_plus T) (kp__law_wb_plus T) (i_pa_cons (i_var (pv 0)) (i_pa_cons (i_tup (i_pa_cons (c_sub b.hX i_int (c_ix b.hX (i_var (pv 1)) i_int)) (i_pa_cons (c_ix b.hX (i_var (pv 1)) i_int) i_pa_nil))) i_pa_nil)))))
def m__law_wb_over : S → OS :=
  (retS (callE (callV d__law_wb_low) [(bin2 mulV (bin2 ixV (varE 0) (cE (.int 0))) (bin2 ixV (varE 1) (cE (.int 1)))), (bin2 mulV (bin2 ixV (varE 0) (cE (.int 1))) (bin2 ixV (varE 1) (cE (.int 0))))]))
theorem sc__law_wb_over : FnScope ["a", "b"] ["a", "b"] (defScope (top 31)) := ⟨rfl, rfl, rfl, by decide +kernel, rfl, by decide +kernel, by decide +kernel⟩
def d__law_wb_over (as : List Ar) : RD := runD 2 2 m__law_wb_over as
set_option maxHeartbeats 0 in
theorem s__law_wb_over (T : Txt c) : FnS c 3 (He.ga c.K "_law_wb_over") d__law_wb_over := by
  obtain ⟨fd, F⟩ := F__law_wb_over T
  exact fun_sh (N := ["a", "b"]) (ps := ["a", "b"]) (k := 2) (G := m__law_wb_over) F sc__law_wb_over (F.bindsN fun _ _ _ _ _ _ us hl => match us, hl with | [_, _], _ => rfl) fun cdv A outer s H Fz io E hcd b hM =>
    (s_one (s_ret (c_call b (s__law_wb_low T) (g__law_wb_low T) (kp__law_wb_low T) (i_pa_cons (c_mul b.hX (c_ix b.hX (i_var (pv 0)) i_int) (c_ix b.hX (i_var (pv 1)) i_int)) (i_pa_cons (c_mul b.hX (c_ix b.hX (i_var (pv 0)) i_int) (c_ix b.hX (i_var (pv 1)) i_int)) i_pa_nil)))))
def m__law_wb_times : S → OS :=
  (retS (callE (callV d__law_wb_low) [(bin2 mulV (bin2 ixV (varE 0) (cE (.int 0))) (bin2 ixV (varE 1) (cE (.int 0)))), (bin2 mulV (bin2 ixV (varE 0) (cE (.int 1))) (bin2 ixV (varE 1) (cE (.int 1))))]))
theorem sc__law_wb_times : FnScope ["a", "b"] ["a", "b"] (defScope (top 29)) := ⟨rfl, rfl, rfl, by decide +kernel, rfl, by decide +kernel, by decide +kernel⟩
def d__law_wb_times (as : List Ar) : RD := runD 2 2 m__law_wb_times as
set_option maxHeartbeats 0 in
theorem s__law_wb_times (T : Txt c) : FnS c 3 (He.ga c.K "_law_wb_times") d__law_wb_times := by
  obtain ⟨fd, F⟩ := F__law_wb_times T
  exact fun_sh (N := ["a", "b"]) (ps := ["a", "b"]) (k := 2) (G := m__law_wb_times) F sc__law_wb_times (F.bindsN fun _ _ _ _ _ _ us hl => match us, hl with | [_, _], _ => rfl) fun cdv A outer s H Fz io E hcd b hM =>
    (s_one (s_ret (c_call b (s__law_wb_low T) (g__law_wb_low T) (kp__law_wb_low T) (i_pa_cons (c_mul b.hX (c_ix b.hX (i_var (pv 0)) i_int) (c_ix b.hX (i_var (pv 1)) i_int)) (i_pa_cons (c_mul b.hX (c_ix b.hX (i_var (pv 0)) i_int) (c_ix b.hX (i_var (pv 1)) i_int)) i_pa_nil)))))
def m_below : S → OS :=
  (seqS (dropS (callE (callV d_made_fraction) [(varE 0)]))
  (seqS (dropS (callE (callV d_made_fraction) [(varE 1)]))
  (retS (bin2 ltV (bin2 mulV (bin2 ixV (varE 0) (cE (.int 0))) (bin2 ixV (varE 1) (cE (.int 1)))) (bin2 mulV (bin2 ixV (varE 1) (cE (.int 0))) (bin2 ixV (varE 0) (cE (.int 1))))))))
theorem sc_below : FnScope ["a", "b"] ["a", "b"] (defScope (top 19)) := ⟨rfl, rfl, rfl, by decide +kernel, rfl, by decide +kernel, by decide +kernel⟩
def d_below (as : List Ar) : RD := runD 2 2 m_below as
set_option maxHeartbeats 0 in
theorem s_below (T : Txt c) : FnS c 6 (He.ga c.K "below") d_below := by
  obtain ⟨fd, F⟩ := F_below T
  exact fun_sh (N := ["a", "b"]) (ps := ["a", "b"]) (k := 5) (G := m_below) F sc_below (F.bindsN fun _ _ _ _ _ _ us hl => match us, hl with | [_, _], _ => rfl) fun cdv A outer s H Fz io E hcd b hM =>
    (s_cons (s_expr (c_call b (s_made_fraction T) (g_made_fraction T) (kp_made_fraction T) (i_pa_cons (i_var (pv 0)) i_pa_nil)))
    (s_cons (s_expr (c_call b (s_made_fraction T) (g_made_fraction T) (kp_made_fraction T) (i_pa_cons (i_var (pv 1)) i_pa_nil)))
    (s_one (s_ret (c_lt (c_mul b.hX (c_ix b.hX (i_var (pv 0)) i_int) (c_ix b.hX (i_var (pv 1)) i_int)) (c_mul b.hX (c_ix b.hX (i_var (pv 1)) i_int) (c_ix b.hX (i_var (pv 0)) i_int)))))))
def m__law_a2_pair_right : S → OS :=
  (seqS (setS 2 (lstE [(lamE d__law_a2_heard [0, 1] (callE (callV d_plus) [(varE 0), (varE 1)]) [])]))
  (seqS (dropS (methE "list" appV (varE 2) [(lamE d__law_a2_heard [0, 1] (callE (callV d_minus) [(varE 0), (varE 1)]) [])]))
  (seqS (dropS (methE "list" appV (varE 2) [(lamE d__law_a2_heard [0, 1] (callE (callV d_times) [(varE 0), (varE 1)]) [])]))
  (seqS (dropS (methE "list" appV (varE 2) [(lamE d__law_a2_heard [0, 1] (callE (callV d_below) [(varE 0), (varE 1)]) [])]))
  (seqS (dropS (methE "list" appV (varE 2) [(lamE d__law_a2_heard [0, 1] (callE (callV d_over) [(varE 0), (varE 1)]) [])]))
  (seqS (setS 3 (lstE [(tupE [(cE (.str "told")), (callE (callV d__law_wb_plus) [(varE 0), (varE 1)])]), (tupE [(cE (.str "told")), (callE (callV d__law_wb_minus) [(varE 0), (varE 1)])]), (tupE [(cE (.str "told")), (callE (callV d__law_wb_times) [(varE 0), (varE 1)])])]))
  (seqS (dropS (methE "list" appV (varE 3) [(tupE [(cE (.str "told")), (bin2 ltV (bin2 mulV (bin2 ixV (varE 0) (cE (.int 0))) (bin2 ixV (varE 1) (cE (.int 1)))) (bin2 mulV (bin2 ixV (varE 1) (cE (.int 0))) (bin2 ixV (varE 0) (cE (.int 1)))))])]))
  (seqS (dropS (methE "list" appV (varE 3) [(ifE (bin2 (eqV true) (varE 1) (tupE [(cE (.int 0)), (cE (.int 1))])) (tupE [(cE (.str "told")), (callE (callV d__law_wb_over) [(varE 0), (varE 1)])]) (tupE [(cE (.str "Nought")), (cE (.int 0))]))]))
  (retS (callE (callV d__law_wb_same) [(varE 2), (varE 3)]))))))))))
theorem sc__law_a2_pair_right : FnScope ["a", "b", "heard", "owed"] ["a", "b"] (defScope (top 39)) := ⟨rfl, rfl, rfl, by decide +kernel, rfl, by decide +kernel, by decide +kernel⟩
def d__law_a2_pair_right (as : List Ar) : RD := runD 2 4 m__law_a2_pair_right as
set_option maxHeartbeats 0 in
theorem s__law_a2_pair_right (T : Txt c) : FnS c 62 (He.ga c.K "_law_a2_pair_right") d__law_a2_pair_right := by
  obtain ⟨fd, F⟩ := F__law_a2_pair_right T
  exact fun_sh (N := ["a", "b", "heard", "owed"]) (ps := ["a", "b"]) (k := 61) (G := m__law_a2_pair_right) F sc__law_a2_pair_right (F.bindsN fun _ _ _ _ _ _ us hl => match us, hl with | [_, _], _ => rfl) fun cdv A outer s H Fz io E hcd b hM =>
    (s_cons (s_set (i := 2) b.nd (i_lst (i_pa_cons (i_lam (caps := [0, 1]) b.hX (fun _ => rfl) (s__law_a2_heard T) (g__law_a2_heard T) (b.room.mono (by decide)) b.tk (T.tb ("_law_a2_pair_right", none) (by decide +kernel)) (hcd rfl) (T.inT ("_law_a2_pair_right", none) (by decide +kernel)) (T.uniq ("_law_a2_pair_right", none) (by decide +kernel)) (LamX.lamS_by (by rfl)) (fun A outer s H F E f c' hr tk => have bl : Bd c ⟨s, H, outer, F, [], none⟩ (WD E) _ 59 := b.lam hr tk; (c_call bl (s_plus T) (g_plus T) (kp_plus T) (i_pa_cons (i_var (pv 0)) (i_pa_cons (i_var (pv 1)) i_pa_nil)))) i_pa_nil (hk := kp__law_a2_heard T)) i_pa_nil)))
    (s_cons (s_expr (c_append b.hX (i_var (pv 2)) (i_pa_cons (i_lam (caps := [0, 1]) b.hX (fun _ => rfl) (s__law_a2_heard T) (g__law_a2_heard T) (b.room.mono (by decide)) b.tk (T.tb ("_law_a2_pair_right", none) (by decide +kernel)) (hcd rfl) (T.inT ("_law_a2_pair_right", none) (by decide +kernel)) (T.uniq ("_law_a2_pair_right", none) (by decide +kernel)) (LamX.lamS_by (by rfl)) (fun A outer s H F E f c' hr tk => have bl : Bd c ⟨s, H, outer, F, [], none⟩ (WD E) _ 59 := b.lam hr tk; (c_call bl (s_minus T) (g_minus T) (kp_minus T) (i_pa_cons (i_var (pv 0)) (i_pa_cons (i_var (pv 1)) i_pa_nil)))) i_pa_nil (hk := kp__law_a2_heard T)) i_pa_nil)))
    (s_cons (s_expr (c_append b.hX (i_var (pv 2)) (i_pa_cons (i_lam (caps := [0, 1]) b.hX (fun _ => rfl) (s__law_a2_heard T) (g__law_a2_heard T) (b.room.mono (by decide)) b.tk (T.tb ("_law_a2_pair_right", none) (by decide +kernel)) (hcd rfl) (T.inT ("_law_a2_pair_right", none) (by decide +kernel)) (T.uniq ("_law_a2_pair_right", none) (by decide +kernel)) (LamX.lamS_by (by rfl)) (fun A outer s H F E f c' hr tk => have bl : Bd c ⟨s, H, outer, F, [], none⟩ (WD E) _ 59 := b.lam hr tk; (c_call bl (s_times T) (g_times T) (kp_times T) (i_pa_cons (i_var (pv 0)) (i_pa_cons (i_var (pv 1)) i_pa_nil)))) i_pa_nil (hk := kp__law_a2_heard T)) i_pa_nil)))
    (s_cons (s_expr (c_append b.hX (i_var (pv 2)) (i_pa_cons (i_lam (caps := [0, 1]) b.hX (fun _ => rfl) (s__law_a2_heard T) (g__law_a2_heard T) (b.room.mono (by decide)) b.tk (T.tb ("_law_a2_pair_right", none) (by decide +kernel)) (hcd rfl) (T.inT ("_law_a2_pair_right", none) (by decide +kernel)) (T.uniq ("_law_a2_pair_right", none) (by decide +kernel)) (LamX.lamS_by (by rfl)) (fun A outer s H F E f c' hr tk => have bl : Bd c ⟨s, H, outer, F, [], none⟩ (WD E) _ 59 := b.lam hr tk; (c_call bl (s_below T) (g_below T) (kp_below T) (i_pa_cons (i_var (pv 0)) (i_pa_cons (i_var (pv 1)) i_pa_nil)))) i_pa_nil (hk := kp__law_a2_heard T)) i_pa_nil)))
    (s_cons (s_expr (c_append b.hX (i_var (pv 2)) (i_pa_cons (i_lam (caps := [0, 1]) b.hX (fun _ => rfl) (s__law_a2_heard T) (g__law_a2_heard T) (b.room.mono (by decide)) b.tk (T.tb ("_law_a2_pair_right", none) (by decide +kernel)) (hcd rfl) (T.inT ("_law_a2_pair_right", none) (by decide +kernel)) (T.uniq ("_law_a2_pair_right", none) (by decide +kernel)) (LamX.lamS_by (by rfl)) (fun A outer s H F E f c' hr tk => have bl : Bd c ⟨s, H, outer, F, [], none⟩ (WD E) _ 59 := b.lam hr tk; (c_call bl (s_over T) (g_over T) (kp_over T) (i_pa_cons (i_var (pv 0)) (i_pa_cons (i_var (pv 1)) i_pa_nil)))) i_pa_nil (hk := kp__law_a2_heard T)) i_pa_nil)))
    (s_cons (s_set (i := 3) b.nd (i_lst (i_pa_cons (i_tup (i_pa_cons i_str (i_pa_cons (c_call b (s__law_wb_plus T) (g__law_wb_plus T) (kp__law_wb_plus T) (i_pa_cons (i_var (pv 0)) (i_pa_cons (i_var (pv 1)) i_pa_nil))) i_pa_nil))) (i_pa_cons (i_tup (i_pa_cons i_str (i_pa_cons (c_call b (s__law_wb_minus T) (g__law_wb_minus T) (kp__law_wb_minus T) (i_pa_cons (i_var (pv 0)) (i_pa_cons (i_var (pv 1)) i_pa_nil))) i_pa_nil))) (i_pa_cons (i_tup (i_pa_cons i_str (i_pa_cons (c_call b (s__law_wb_times T) (g__law_wb_times T) (kp__law_wb_times T) (i_pa_cons (i_var (pv 0)) (i_pa_cons (i_var (pv 1)) i_pa_nil))) i_pa_nil))) i_pa_nil)))))
    (s_cons (s_expr (c_append b.hX (i_var (pv 3)) (i_pa_cons (i_tup (i_pa_cons i_str (i_pa_cons (c_lt (c_mul b.hX (c_ix b.hX (i_var (pv 0)) i_int) (c_ix b.hX (i_var (pv 1)) i_int)) (c_mul b.hX (c_ix b.hX (i_var (pv 1)) i_int) (c_ix b.hX (i_var (pv 0)) i_int))) i_pa_nil))) i_pa_nil)))
    (s_cons (s_expr (c_append b.hX (i_var (pv 3)) (i_pa_cons (i_ifx (q_ne b.room.units b.hX (i_var (pv 1)) (i_tup (i_pa_cons i_int (i_pa_cons i_int i_pa_nil)))) (i_tup (i_pa_cons i_str (i_pa_cons (c_call b (s__law_wb_over T) (g__law_wb_over T) (kp__law_wb_over T) (i_pa_cons (i_var (pv 0)) (i_pa_cons (i_var (pv 1)) i_pa_nil))) i_pa_nil))) (i_tup (i_pa_cons i_str (i_pa_cons i_int i_pa_nil)))) i_pa_nil)))
    (s_one (s_ret (c_call b (s__law_wb_same T) (g__law_wb_same T) (kp__law_wb_same T) (i_pa_cons (i_var (pv 2)) (i_pa_cons (i_var (pv 3)) i_pa_nil)))))))))))))
def m__law_take : S → OS :=
  (seqS (ifS (bin2 gtV (bin2 ixV (varE 0) (cE (.int 0))) (cE (.int 0))) (seqS (setS 2 (bin2 modV (callE toIntV [(bin2 ixV (varE 0) (cE (.int 0)))]) (varE 1)))
  (seqS (setIxS (varE 0) (cE (.int 0)) (bin2 divV (bin2 ixV (varE 0) (cE (.int 0))) (varE 1)))
  (retS (varE 2)))) nextS)
  (seqS (setIxS (varE 0) (cE (.int 2)) (bin2 addV (bin2 ixV (varE 0) (cE (.int 2))) (cE (.int 1))))
  (seqS (setIxS (varE 0) (cE (.int 1)) (bin2 modV (callE toIntV [(bin2 addV (bin2 addV (bin2 mulV (bin2 ixV (varE 0) (cE (.int 1))) (cE (.int 39373))) (bin2 mulV (cE (.int 7919)) (bin2 ixV (varE 0) (cE (.int 2))))) (cE (.int 7)))]) (cE (.int 2147483647))))
  (retS (bin2 modV (callE toIntV [(bin2 divV (bin2 modV (callE toIntV [(bin2 mulV (bin2 ixV (varE 0) (cE (.int 1))) (bin2 ixV (varE 0) (cE (.int 1))))]) (cE (.int 2147483629))) (cE (.int 32)))]) (varE 1))))))
theorem sc__law_take : FnScope ["jar", "many", "made_now"] ["jar", "many"] (defScope (top 22)) := ⟨rfl, rfl, rfl, by decide +kernel, rfl, by decide +kernel, by decide +kernel⟩
def d__law_take (as : List Ar) : RD := runD 2 3 m__law_take as
set_option maxHeartbeats 0 in
theorem s__law_take (T : Txt c) : FnS c 1 (He.ga c.K "_law_take") d__law_take := by
  obtain ⟨fd, F⟩ := F__law_take T
  exact fun_sh (N := ["jar", "many", "made_now"]) (ps := ["jar", "many"]) (k := 0) (G := m__law_take) F sc__law_take (F.bindsN fun _ _ _ _ _ _ us hl => match us, hl with | [_, _], _ => rfl) fun cdv A outer s H Fz io E hcd b hM =>
    (s_cons (s_if (q_gt (c_ix b.hX (i_var (pv 0)) i_int) i_int) (s_cons (s_set (i := 2) b.nd (c_mod b.hX (c_int b.hX (g_int T) (i_pa_cons (c_ix b.hX (i_var (pv 0)) i_int) i_pa_nil)) (i_var (pv 1))))
    (s_cons (s_sub (i_var (pv 0)) i_int (c_div b.hX (c_ix b.hX (i_var (pv 0)) i_int) (i_var (pv 1))))
    (s_one (s_ret (i_var (pv 2)))))) s_nil)
    (s_cons (s_sub (i_var (pv 0)) i_int (c_add b.hX (c_ix b.hX (i_var (pv 0)) i_int) i_int))
    (s_cons (s_sub (i_var (pv 0)) i_int (c_mod b.hX (c_int b.hX (g_int T) (i_pa_cons (c_add b.hX (c_add b.hX (c_mul b.hX (c_ix b.hX (i_var (pv 0)) i_int) i_int) (c_mul b.hX i_int (c_ix b.hX (i_var (pv 0)) i_int))) i_int) i_pa_nil)) i_int))
    (s_one (s_ret (c_mod b.hX (c_int b.hX (g_int T) (i_pa_cons (c_div b.hX (c_mod b.hX (c_int b.hX (g_int T) (i_pa_cons (c_mul b.hX (c_ix b.hX (i_var (pv 0)) i_int) (c_ix b.hX (i_var (pv 0)) i_int)) i_pa_nil)) i_int) i_int) i_pa_nil)) (i_var (pv 1))))))))
def m__law_one : S → OS :=
  (retS (bin2 ixV (varE 1) (callE (callV d__law_take) [(varE 0), (callE lenV [(varE 1)])])))
theorem sc__law_one : FnScope ["jar", "things"] ["jar", "things"] (defScope (top 23)) := ⟨rfl, rfl, rfl, by decide +kernel, rfl, by decide +kernel, by decide +kernel⟩
def d__law_one (as : List Ar) : RD := runD 2 2 m__law_one as
set_option maxHeartbeats 0 in
theorem s__law_one (T : Txt c) : FnS c 2 (He.ga c.K "_law_one") d__law_one := by
  obtain ⟨fd, F⟩ := F__law_one T
  exact fun_sh (N := ["jar", "things"]) (ps := ["jar", "things"]) (k := 1) (G := m__law_one) F sc__law_one (F.bindsN fun _ _ _ _ _ _ us hl => match us, hl with | [_, _], _ => rfl) fun cdv A outer s H Fz io E hcd b hM =>
    (s_one (s_ret (c_ix b.hX (i_var (pv 1)) (c_call b (s__law_take T) (g__law_take T) (kp__law_take T) (i_pa_cons (i_var (pv 0)) (i_pa_cons (c_len b.hX (g_len T) (i_pa_cons (i_var (pv 1)) i_pa_nil)) i_pa_nil))))))
def m__law_wb_is_fraction : S → OS :=
  (seqS (ifS (orE (notE (callE isiV [(varE 0), (cE (.ty "tuple"))])) (orE (bin2 (eqV true) (callE lenV [(varE 0)]) (cE (.int 2))) (bin2 (eqV true) (compE (itE (varE 0)) (nameT 1) (notE (callE (callV d__law_wb_is_whole) [(varE 1)])) (varE 1) [1]) (lstE [])))) (retS (cE (.bl false))) nextS)
  (retS (andE (bin2 gtV (bin2 ixV (varE 0) (cE (.int 1))) (cE (.int 0))) (bin2 (eqV false) (callE (callV d__law_wb_gcd) [(bin2 ixV (varE 0) (cE (.int 0))), (bin2 ixV (varE 0) (cE (.int 1)))]) (cE (.int 1))))))
theorem sc__law_wb_is_fraction : FnScope ["thing", "x"] ["thing"] (defScope (top 32)) := ⟨rfl, rfl, rfl, by decide +kernel, rfl, by decide +kernel, by decide +kernel⟩
def d__law_wb_is_fraction (as : List Ar) : RD := runD 1 2 m__law_wb_is_fraction as
set_option maxHeartbeats 0 in
theorem s__law_wb_is_fraction (T : Txt c) : FnS c 2 (He.ga c.K "_law_wb_is_fraction") d__law_wb_is_fraction := by
  obtain ⟨fd, F⟩ := F__law_wb_is_fraction T
  exact fun_sh (N := ["thing", "x"]) (ps := ["thing"]) (k := 1) (G := m__law_wb_is_fraction) F sc__law_wb_is_fraction (F.bindsN fun _ _ _ _ _ _ us hl => match us, hl with | [_], _ => rfl) fun cdv A outer s H Fz io E hcd b hM =>
    (s_cons (s_if (w_or (t_not (i_test (c_isi b.hX (g_isinstance T) (i_pa_cons (i_var (pv 0)) (i_pa_cons (i_kind b.hX (g_tuple T) (by rfl)) i_pa_nil))))) (w_or (q_ne b.room.units b.hX (c_len b.hX (g_len T) (i_pa_cons (i_var (pv 0)) i_pa_nil)) i_int) (w_or1 (q_ne b.room.units b.hX (i_lc (own := [("x", 1)]) b.calm b.nd (w_seq b.hX.K (i_var (pv 0))) (blkOk_by (by rfl)) (fun _ _ _ _ _ => (g_name (i := 1) b.blk.nd)) (fun _ _ _ _ _ => t_one (t_not (i_test (c_call b.blk (s__law_wb_is_whole T) (g__law_wb_is_whole T) (kp__law_wb_is_whole T) (i_pa_cons (i_var (pv 1)) i_pa_nil))))) (fun _ _ _ _ _ => (i_var (pv 1))) (by decide)) (i_lst i_pa_nil))))).pt (s_one (s_ret i_bl)) s_nil)
    (s_one (s_ret (i_and (c_gt (c_ix b.hX (i_var (pv 0)) i_int) i_int) (i_b1 (c_eq b.room.units b.hX (c_call b (s__law_wb_gcd T) (g__law_wb_gcd T) (kp__law_wb_gcd T) (i_pa_cons (c_ix b.hX (i_var (pv 0)) i_int) (i_pa_cons (c_ix b.hX (i_var (pv 0)) i_int) i_pa_nil))) i_int))))))
def m__law_a2_refused_right : S → OS :=
  (seqS (setS 3 (callE (callV d__law_one) [(varE 0), (lstE [(cE .non), (tupE [(cE (.int 2)), (cE (.int 4))]), (tupE [(cE (.int 1)), (cE (.int 0))]), (lstE [(cE (.int 1)), (cE (.int 2))]), (tupE [(cE (.bl true)), (cE (.int 1))])])]))
  (seqS (parS 4 5 (lstE []) (lstE []))
  (seqS (forS (itE (lstE [(tupE [(varE 2), (varE 1)]), (tupE [(varE 1), (varE 2)]), (tupE [(varE 2), (varE 3)]), (tupE [(varE 2), (tupE [(cE (.int 0)), (cE (.int 1))])])])) (tupT 2 (consT (nameT 6) (consT (nameT 7) nilT))) (seqS (setS 8 (andE (callE (callV d__law_wb_is_fraction) [(varE 6)]) (callE (callV d__law_wb_is_fraction) [(varE 7)])))
  (ifS (notE (varE 8)) (seqS (dropS (methE "list" appV (varE 4) [(lamE d__law_a2_heard [6, 7] (callE (callV d_plus) [(varE 6), (varE 7)]) [])]))
  (seqS (dropS (methE "list" appV (varE 4) [(lamE d__law_a2_heard [6, 7] (callE (callV d_minus) [(varE 6), (varE 7)]) [])]))
  (seqS (dropS (methE "list" appV (varE 4) [(lamE d__law_a2_heard [6, 7] (callE (callV d_times) [(varE 6), (varE 7)]) [])]))
  (seqS (dropS (methE "list" appV (varE 4) [(lamE d__law_a2_heard [6, 7] (callE (callV d_over) [(varE 6), (varE 7)]) [])]))
  (seqS (dropS (methE "list" appV (varE 4) [(lamE d__law_a2_heard [6, 7] (callE (callV d_below) [(varE 6), (varE 7)]) [])]))
  (dropS (methE "list" extV (varE 5) [(bin2 mulV (lstE [(tupE [(cE (.str "BadFraction")), (cE (.int 0))])]) (cE (.int 5)))]))))))) nextS)))
  (retS (callE (callV d__law_wb_same) [(varE 4), (varE 5)])))))
theorem sc__law_a2_refused_right : FnScope ["jar", "a", "thing", "none", "heard", "owed", "one", "other", "is_so"] ["jar", "a", "thing"] (defScope (top 43)) := ⟨rfl, rfl, rfl, by decide +kernel, rfl, by decide +kernel, by decide +kernel⟩
def d__law_a2_refused_right (as : List Ar) : RD := runD 3 9 m__law_a2_refused_right as
set_option maxHeartbeats 0 in
theorem s__law_a2_refused_right (T : Txt c) : FnS c 62 (He.ga c.K "_law_a2_refused_right") d__law_a2_refused_right := by
  obtain ⟨fd, F⟩ := F__law_a2_refused_right T
  exact fun_sh (N := ["jar", "a", "thing", "none", "heard", "owed", "one", "other", "is_so"]) (ps := ["jar", "a", "thing"]) (k := 61) (G := m__law_a2_refused_right) F sc__law_a2_refused_right (F.bindsN fun _ _ _ _ _ _ us hl => match us, hl with | [_, _, _], _ => rfl) fun cdv A outer s H Fz io E hcd b hM =>
    (s_cons (s_set (i := 3) b.nd (c_call b (s__law_one T) (g__law_one T) (kp__law_one T) (i_pa_cons (i_var (pv 0)) (i_pa_cons (i_lst (i_pa_cons i_non (i_pa_cons (i_tup (i_pa_cons i_int (i_pa_cons i_int i_pa_nil))) (i_pa_cons (i_tup (i_pa_cons i_int (i_pa_cons i_int i_pa_nil))) (i_pa_cons (i_lst (i_pa_cons i_int (i_pa_cons i_int i_pa_nil))) (i_pa_cons (i_tup (i_pa_cons i_bl (i_pa_cons i_int i_pa_nil))) i_pa_nil)))))) i_pa_nil))))
    (s_cons (s_par (i := 4) (j := 5) b.calm b.nd (i_pa_cons (i_lst i_pa_nil) (i_pa_cons (i_lst i_pa_nil) i_pa_nil)))
    (s_cons (s_for PassesOwn.leaving b.calm (w_seq b.hX.K (i_lst (i_pa_cons (i_tup (i_pa_cons (i_var (pv 2)) (i_pa_cons (i_var (pv 1)) i_pa_nil))) (i_pa_cons (i_tup (i_pa_cons (i_var (pv 1)) (i_pa_cons (i_var (pv 2)) i_pa_nil))) (i_pa_cons (i_tup (i_pa_cons (i_var (pv 2)) (i_pa_cons (i_var (pv 3)) i_pa_nil))) (i_pa_cons (i_tup (i_pa_cons (i_var (pv 2)) (i_pa_cons (i_tup (i_pa_cons i_int (i_pa_cons i_int i_pa_nil))) i_pa_nil))) i_pa_nil)))))) (g_tup b.hX.K b.calm (g_cons (g_name (i := 6) b.nd) (g_cons (g_name (i := 7) b.nd) g_nil))) (s_cons (s_set (i := 8) b.nd (i_and (c_call b (s__law_wb_is_fraction T) (g__law_wb_is_fraction T) (kp__law_wb_is_fraction T) (i_pa_cons (i_var (pv 6)) i_pa_nil)) (i_b1 (c_call b (s__law_wb_is_fraction T) (g__law_wb_is_fraction T) (kp__law_wb_is_fraction T) (i_pa_cons (i_var (pv 7)) i_pa_nil)))))
    (s_one (s_if (t_not (i_test (i_var (pv 8)))) (s_cons (s_expr (c_append b.hX (i_var (pv 4)) (i_pa_cons (i_lam (caps := [6, 7]) b.hX (fun _ => rfl) (s__law_a2_heard T) (g__law_a2_heard T) (b.room.mono (by decide)) b.tk (T.tb ("_law_a2_refused_right", none) (by decide +kernel)) (hcd rfl) (T.inT ("_law_a2_refused_right", none) (by decide +kernel)) (T.uniq ("_law_a2_refused_right", none) (by decide +kernel)) (LamX.lamS_by (by rfl)) (fun A outer s H F E f c' hr tk => have bl : Bd c ⟨s, H, outer, F, [], none⟩ (WD E) _ 59 := b.lam hr tk; (c_call bl (s_plus T) (g_plus T) (kp_plus T) (i_pa_cons (i_var (pv 6)) (i_pa_cons (i_var (pv 7)) i_pa_nil)))) i_pa_nil (hk := kp__law_a2_heard T)) i_pa_nil)))
    (s_cons (s_expr (c_append b.hX (i_var (pv 4)) (i_pa_cons (i_lam (caps := [6, 7]) b.hX (fun _ => rfl) (s__law_a2_heard T) (g__law_a2_heard T) (b.room.mono (by decide)) b.tk (T.tb ("_law_a2_refused_right", none) (by decide +kernel)) (hcd rfl) (T.inT ("_law_a2_refused_right", none) (by decide +kernel)) (T.uniq ("_law_a2_refused_right", none) (by decide +kernel)) (LamX.lamS_by (by rfl)) (fun A outer s H F E f c' hr tk => have bl : Bd c ⟨s, H, outer, F, [], none⟩ (WD E) _ 59 := b.lam hr tk; (c_call bl (s_minus T) (g_minus T) (kp_minus T) (i_pa_cons (i_var (pv 6)) (i_pa_cons (i_var (pv 7)) i_pa_nil)))) i_pa_nil (hk := kp__law_a2_heard T)) i_pa_nil)))
    (s_cons (s_expr (c_append b.hX (i_var (pv 4)) (i_pa_cons (i_lam (caps := [6, 7]) b.hX (fun _ => rfl) (s__law_a2_heard T) (g__law_a2_heard T) (b.room.mono (by decide)) b.tk (T.tb ("_law_a2_refused_right", none) (by decide +kernel)) (hcd rfl) (T.inT ("_law_a2_refused_right", none) (by decide +kernel)) (T.uniq ("_law_a2_refused_right", none) (by decide +kernel)) (LamX.lamS_by (by rfl)) (fun A outer s H F E f c' hr tk => have bl : Bd c ⟨s, H, outer, F, [], none⟩ (WD E) _ 59 := b.lam hr tk; (c_call bl (s_times T) (g_times T) (kp_times T) (i_pa_cons (i_var (pv 6)) (i_pa_cons (i_var (pv 7)) i_pa_nil)))) i_pa_nil (hk := kp__law_a2_heard T)) i_pa_nil)))
    (s_cons (s_expr (c_append b.hX (i_var (pv 4)) (i_pa_cons (i_lam (caps := [6, 7]) b.hX (fun _ => rfl) (s__law_a2_heard T) (g__law_a2_heard T) (b.room.mono (by decide)) b.tk (T.tb ("_law_a2_refused_right", none) (by decide +kernel)) (hcd rfl) (T.inT ("_law_a2_refused_right", none) (by decide +kernel)) (T.uniq ("_law_a2_refused_right", none) (by decide +kernel)) (LamX.lamS_by (by rfl)) (fun A outer s H F E f c' hr tk => have bl : Bd c ⟨s, H, outer, F, [], none⟩ (WD E) _ 59 := b.lam hr tk; (c_call bl (s_over T) (g_over T) (kp_over T) (i_pa_cons (i_var (pv 6)) (i_pa_cons (i_var (pv 7)) i_pa_nil)))) i_pa_nil (hk := kp__law_a2_heard T)) i_pa_nil)))
    (s_cons (s_expr (c_append b.hX (i_var (pv 4)) (i_pa_cons (i_lam (caps := [6, 7]) b.hX (fun _ => rfl) (s__law_a2_heard T) (g__law_a2_heard T) (b.room.mono (by decide)) b.tk (T.tb ("_law_a2_refused_right", none) (by decide +kernel)) (hcd rfl) (T.inT ("_law_a2_refused_right", none) (by decide +kernel)) (T.uniq ("_law_a2_refused_right", none) (by decide +kernel)) (LamX.lamS_by (by rfl)) (fun A outer s H F E f c' hr tk => have bl : Bd c ⟨s, H, outer, F, [], none⟩ (WD E) _ 59 := b.lam hr tk; (c_call bl (s_below T) (g_below T) (kp_below T) (i_pa_cons (i_var (pv 6)) (i_pa_cons (i_var (pv 7)) i_pa_nil)))) i_pa_nil (hk := kp__law_a2_heard T)) i_pa_nil)))
    (s_one (s_expr (c_extend b.hX (i_var (pv 5)) (i_pa_cons (c_mul b.hX (i_lst (i_pa_cons (i_tup (i_pa_cons i_str (i_pa_cons i_int i_pa_nil))) i_pa_nil)) i_int) i_pa_nil))))))))) s_nil))))
    (s_one (s_ret (c_call b (s__law_wb_same T) (g__law_wb_same T) (kp__law_wb_same T) (i_pa_cons (i_var (pv 4)) (i_pa_cons (i_var (pv 5)) i_pa_nil))))))))
def m__law_a2_thing_right : S → OS :=
  (seqS (setS 1 (callE (callV d__law_wb_is_fraction) [(varE 0)]))
  (seqS (setS 2 (lstE [(lamE d__law_a2_heard [0] (callE (callV d_made_fraction) [(varE 0)]) [])]))
  (seqS (dropS (methE "list" appV (varE 2) [(lamE d__law_a2_heard [0] (callE (callV d_is_fraction) [(varE 0)]) [])]))
  (retS (callE (callV d__law_wb_same) [(varE 2), (lstE [(ifE (varE 1) (tupE [(cE (.str "told")), (varE 0)]) (tupE [(cE (.str "BadFraction")), (cE (.int 0))])), (tupE [(cE (.str "told")), (varE 1)])])])))))
theorem sc__law_a2_thing_right : FnScope ["thing", "is_one", "heard"] ["thing"] (defScope (top 42)) := ⟨rfl, rfl, rfl, by decide +kernel, rfl, by decide +kernel, by decide +kernel⟩
def d__law_a2_thing_right (as : List Ar) : RD := runD 1 3 m__law_a2_thing_right as
set_option maxHeartbeats 0 in
theorem s__law_a2_thing_right (T : Txt c) : FnS c 62 (He.ga c.K "_law_a2_thing_right") d__law_a2_thing_right := by
  obtain ⟨fd, F⟩ := F__law_a2_thing_right T
  exact fun_sh (N := ["thing", "is_one", "heard"]) (ps := ["thing"]) (k := 61) (G := m__law_a2_thing_right) F sc__law_a2_thing_right (F.bindsN fun _ _ _ _ _ _ us hl => match us, hl with | [_], _ => rfl) fun cdv A outer s H Fz io E hcd b hM =>
    (s_cons (s_set (i := 1) b.nd (c_call b (s__law_wb_is_fraction T) (g__law_wb_is_fraction T) (kp__law_wb_is_fraction T) (i_pa_cons (i_var (pv 0)) i_pa_nil)))
    (s_cons (s_set (i := 2) b.nd (i_lst (i_pa_cons (i_lam (caps := [0]) b.hX (fun _ => rfl) (s__law_a2_heard T) (g__law_a2_heard T) (b.room.mono (by decide)) b.tk (T.tb ("_law_a2_thing_right", none) (by decide +kernel)) (hcd rfl) (T.inT ("_law_a2_thing_right", none) (by decide +kernel)) (T.uniq ("_law_a2_thing_right", none) (by decide +kernel)) (LamX.lamS_by (by rfl)) (fun A outer s H F E f c' hr tk => have bl : Bd c ⟨s, H, outer, F, [], none⟩ (WD E) _ 59 := b.lam hr tk; (c_call bl (s_made_fraction T) (g_made_fraction T) (kp_made_fraction T) (i_pa_cons (i_var (pv 0)) i_pa_nil))) i_pa_nil (hk := kp__law_a2_heard T)) i_pa_nil)))
    (s_cons (s_expr (c_append b.hX (i_var (pv 2)) (i_pa_cons (i_lam (caps := [0]) b.hX (fun _ => rfl) (s__law_a2_heard T) (g__law_a2_heard T) (b.room.mono (by decide)) b.tk (T.tb ("_law_a2_thing_right", none) (by decide +kernel)) (hcd rfl) (T.inT ("_law_a2_thing_right", none) (by decide +kernel)) (T.uniq ("_law_a2_thing_right", none) (by decide +kernel)) (LamX.lamS_by (by rfl)) (fun A outer s H F E f c' hr tk => have bl : Bd c ⟨s, H, outer, F, [], none⟩ (WD E) _ 59 := b.lam hr tk; (c_call bl (s_is_fraction T) (g_is_fraction T) (kp_is_fraction T) (i_pa_cons (i_var (pv 0)) i_pa_nil))) i_pa_nil (hk := kp__law_a2_heard T)) i_pa_nil)))
    (s_one (s_ret (c_call b (s__law_wb_same T) (g__law_wb_same T) (kp__law_wb_same T) (i_pa_cons (i_var (pv 2)) (i_pa_cons (i_lst (i_pa_cons (i_ifx (i_test (i_var (pv 1))) (i_tup (i_pa_cons i_str (i_pa_cons (i_var (pv 0)) i_pa_nil))) (i_tup (i_pa_cons i_str (i_pa_cons i_int i_pa_nil)))) (i_pa_cons (i_tup (i_pa_cons i_str (i_pa_cons (i_var (pv 1)) i_pa_nil))) i_pa_nil))) i_pa_nil))))))))
def m__law_wb_bent (rec : List Ar → RD) : S → OS :=
  (seqS (setS 2 (callE (callV d__law_one) [(varE 0), (lstE [(cE .non), (cE (.str "0")), (cE (.bl true)), (cE (.bl false)), (un1 negV (cE (.int 1))), (cE (.int 0)), (bin2 powV (cE (.int 10)) (cE (.int 25))), (tupE []), (tupE [(cE (.int 0))]), (lstE [(cE (.int 0))]), (cE (.str "firm"))])]))
  (seqS (ifS (orE (notE (callE isiV [(varE 1), (cE (.ty "tuple"))])) (bin2 (eqV false) (varE 1) (tupE []))) (retS (varE 2)) nextS)
  (seqS (parS 3 4 (callE (callV d__law_take) [(varE 0), (callE lenV [(varE 1)])]) (callE (callV d__law_take) [(varE 0), (cE (.int 9))]))
  (seqS (ifS (bin2 ltV (varE 4) (cE (.int 3))) (retS (bin2 addV (bin2 addV (sliceE (varE 1) noP (atP (varE 3))) (tupE [(callE (callV rec) [(varE 0), (bin2 ixV (varE 1) (varE 3))])])) (sliceE (varE 1) (atP (bin2 addV (varE 3) (cE (.int 1)))) noP))) nextS)
  (seqS (setS 5 (lstE [(bin2 addV (bin2 addV (sliceE (varE 1) noP (atP (varE 3))) (tupE [(varE 2)])) (sliceE (varE 1) (atP (bin2 addV (varE 3) (cE (.int 1)))) noP)), (bin2 addV (sliceE (varE 1) noP (atP (varE 3))) (sliceE (varE 1) (atP (bin2 addV (varE 3) (cE (.int 1)))) noP)), (bin2 addV (sliceE (varE 1) noP (atP (bin2 addV (varE 3) (cE (.int 1))))) (sliceE (varE 1) (atP (varE 3)) noP))]))
  (seqS (dropS (methE "list" extV (varE 5) [(lstE [(bin2 addV (sliceE (varE 1) noP (atP (varE 3))) (revAE (sliceE (varE 1) (atP (varE 3)) noP))), (callE listV [(varE 1)]), (bin2 addV (varE 1) (tupE [(varE 2)]))])]))
  (retS (bin2 ixV (varE 5) (bin2 subV (varE 4) (cE (.int 3)))))))))))
theorem sc__law_wb_bent : FnScope ["jar", "thing", "odd", "at", "form", "some"] ["jar", "thing"] (defScope (top 36)) := ⟨rfl, rfl, rfl, by decide +kernel, rfl, by decide +kernel, by decide +kernel⟩
def d__law_wb_bent : Nat → List Ar → RD
  | 0, _ => .bad
  | n + 1, as => runD 2 6 (m__law_wb_bent (d__law_wb_bent n)) as
set_option maxHeartbeats 0 in
theorem s__law_wb_bent (T : Txt c) : ∀ n, FnS c (2 + n) (He.ga c.K "_law_wb_bent") (d__law_wb_bent n)
  | 0 => fun A outer s H F as vs us io Q E hr e0 hd ht ha nd hv h => h.elim
  | n + 1 => by
    obtain ⟨fd, F⟩ := F__law_wb_bent T
    have ih := s__law_wb_bent T n
    exact fun_sh (N := ["jar", "thing", "odd", "at", "form", "some"]) (ps := ["jar", "thing"]) (k := 2 + n) (G := m__law_wb_bent (d__law_wb_bent n)) F sc__law_wb_bent (F.bindsN fun _ _ _ _ _ _ us hl => match us, hl with | [_, _], _ => rfl) fun cdv A outer s H Fz io E hcd b hM =>
    (s_cons (s_set (i := 2) b.nd (c_call b (s__law_one T) (g__law_one T) (kp__law_one T) (i_pa_cons (i_var (pv 0)) (i_pa_cons (i_lst (i_pa_cons i_non (i_pa_cons i_str (i_pa_cons i_bl (i_pa_cons i_bl (i_pa_cons (c_neg i_int) (i_pa_cons i_int (i_pa_cons (c_pow b.hX i_int i_int) (i_pa_cons (i_tup i_pa_nil) (i_pa_cons (i_tup (i_pa_cons i_int i_pa_nil)) (i_pa_cons (i_lst (i_pa_cons i_int i_pa_nil)) (i_pa_cons i_str i_pa_nil)))))))))))) i_pa_nil)) (by omega)))
    (s_cons (s_if (w_or (t_not (i_test (c_isi b.hX (g_isinstance T) (i_pa_cons (i_var (pv 1)) (i_pa_cons (i_kind b.hX (g_tuple T) (by rfl)) i_pa_nil))))) (w_or1 (q_eq b.room.units b.hX (i_var (pv 1)) (i_tup i_pa_nil)))).pt (s_one (s_ret (i_var (pv 2)))) s_nil)
    (s_cons (s_par (i := 3) (j := 4) b.calm b.nd (i_pa_cons (c_call b (s__law_take T) (g__law_take T) (kp__law_take T) (i_pa_cons (i_var (pv 0)) (i_pa_cons (c_len b.hX (g_len T) (i_pa_cons (i_var (pv 1)) i_pa_nil)) i_pa_nil)) (by omega)) (i_pa_cons (c_call b (s__law_take T) (g__law_take T) (kp__law_take T) (i_pa_cons (i_var (pv 0)) (i_pa_cons i_int i_pa_nil)) (by omega)) i_pa_nil)))
    (s_cons (s_if (q_lt (i_var (pv 4)) i_int) (s_one (s_ret (c_add b.hX (c_add b.hX (i_slice b.hX.K (i_var (pv 1)) o_none (o_some (i_var (pv 3)))) (i_tup (i_pa_cons (c_call b ih (g__law_wb_bent T) (kp__law_wb_bent T) (i_pa_cons (i_var (pv 0)) (i_pa_cons (c_ix b.hX (i_var (pv 1)) (i_var (pv 3))) i_pa_nil)) (by omega)) i_pa_nil))) (i_slice b.hX.K (i_var (pv 1)) (o_some (c_add b.hX (i_var (pv 3)) i_int)) o_none)))) s_nil)
    (s_cons (s_set (i := 5) b.nd (i_lst (i_pa_cons (c_add b.hX (c_add b.hX (i_slice b.hX.K (i_var (pv 1)) o_none (o_some (i_var (pv 3)))) (i_tup (i_pa_cons (i_var (pv 2)) i_pa_nil))) (i_slice b.hX.K (i_var (pv 1)) (o_some (c_add b.hX (i_var (pv 3)) i_int)) o_none)) (i_pa_cons (c_add b.hX (i_slice b.hX.K (i_var (pv 1)) o_none (o_some (i_var (pv 3)))) (i_slice b.hX.K (i_var (pv 1)) (o_some (c_add b.hX (i_var (pv 3)) i_int)) o_none)) (i_pa_cons (c_add b.hX (i_slice b.hX.K (i_var (pv 1)) o_none (o_some (c_add b.hX (i_var (pv 3)) i_int))) (i_slice b.hX.K (i_var (pv 1)) (o_some (i_var (pv 3))) o_none)) i_pa_nil)))))
    (s_cons (s_expr (c_extend b.hX (i_var (pv 5)) (i_pa_cons (i_lst (i_pa_cons (c_add b.hX (i_slice b.hX.K (i_var (pv 1)) o_none (o_some (i_var (pv 3)))) (i_revA b.hX.K (i_slice b.hX.K (i_var (pv 1)) (o_some (i_var (pv 3))) o_none))) (i_pa_cons (c_list b.hX (g_list T) (i_pa_cons (i_var (pv 1)) i_pa_nil)) (i_pa_cons (c_add b.hX (i_var (pv 1)) (i_tup (i_pa_cons (i_var (pv 2)) i_pa_nil))) i_pa_nil)))) i_pa_nil)))
    (s_one (s_ret (c_ix b.hX (i_var (pv 5)) (c_sub b.hX (i_var (pv 4)) i_int))))))))))
def m__law_a2_things : S → OS :=
  (seqS (asgS (tupT 2 (consT (nameT 2) (consT (nameT 3) nilT))) (varE 1))
  (seqS (setS 4 (callE (callV d__law_one) [(varE 0), (lstE [(cE (.int 2)), (cE (.int 3)), (cE (.int 7))])]))
  (seqS (setS 5 (lstE [(varE 1), (callE listV [(varE 1)]), (tupE [(varE 2)]), (bin2 addV (varE 1) (tupE [(cE (.int 1))])), (tupE []), (cE .non), (cE (.int 0)), (varE 2), (cE (.str "1")), (tupE [(bin2 mulV (varE 2) (varE 4)), (bin2 mulV (varE 3) (varE 4))]), (tupE [(varE 2), (cE (.int 0))])]))
  (seqS (dropS (methE "list" appV (varE 5) [(tupE [(varE 2), (bin2 subV (cE (.int 0)) (varE 3))])]))
  (seqS (dropS (methE "list" extV (varE 5) [(lstE [(tupE [(bin2 subV (cE (.int 0)) (varE 2)), (bin2 subV (cE (.int 0)) (varE 3))]), (tupE [(cE (.bl true)), (varE 3)]), (tupE [(varE 2), (cE (.bl true))]), (tupE [(cE .non), (varE 3)]), (tupE [(varE 2), (cE .non)]), (tupE [(varE 2), (cE (.str "1"))]), (tupE [(varE 1), (varE 1)])])]))
  (seqS (dropS (methE "list" extV (varE 5) [(lstE [(tupE [(cE (.int 0)), (varE 3)]), (tupE [(cE (.int 0)), (cE (.int 2))]), (tupE [(cE (.int 0)), (cE (.int 1))]), (tupE [(cE (.int 1)), (cE (.int 1))]), (tupE [(bin2 mulV (cE (.int 2)) (varE 2)), (bin2 mulV (cE (.int 2)) (varE 3))]), (tupE [(bin2 addV (varE 2) (varE 3)), (varE 3)]), (tupE [(varE 3), (varE 2)])])]))
  (retS (bin2 addV (varE 5) (lstE [(callE (callV (d__law_wb_bent 12)) [(varE 0), (varE 1)]), (tupE [(tupE [(varE 2), (varE 3)])]), (tupE [(un1 negV (cE (.int 1))), (un1 negV (cE (.int 1)))]), (tupE [(cE (.bl false)), (cE (.int 1))])])))))))))
theorem sc__law_a2_things : FnScope ["jar", "a", "top", "bottom", "much", "some"] ["jar", "a"] (defScope (top 41)) := ⟨rfl, rfl, rfl, by decide +kernel, rfl, by decide +kernel, by decide +kernel⟩
def d__law_a2_things (as : List Ar) : RD := runD 2 6 m__law_a2_things as
set_option maxHeartbeats 0 in
theorem s__law_a2_things (T : Txt c) : FnS c 15 (He.ga c.K "_law_a2_things") d__law_a2_things := by
  obtain ⟨fd, F⟩ := F__law_a2_things T
  exact fun_sh (N := ["jar", "a", "top", "bottom", "much", "some"]) (ps := ["jar", "a"]) (k := 14) (G := m__law_a2_things) F sc__law_a2_things (F.bindsN fun _ _ _ _ _ _ us hl => match us, hl with | [_, _], _ => rfl) fun cdv A outer s H Fz io E hcd b hM =>
    (s_cons (s_asg (i_var (pv 1)) (g_tup b.hX.K b.calm (g_cons (g_name (i := 2) b.nd) (g_cons (g_name (i := 3) b.nd) g_nil))))
    (s_cons (s_set (i := 4) b.nd (c_call b (s__law_one T) (g__law_one T) (kp__law_one T) (i_pa_cons (i_var (pv 0)) (i_pa_cons (i_lst (i_pa_cons i_int (i_pa_cons i_int (i_pa_cons i_int i_pa_nil)))) i_pa_nil))))
    (s_cons (s_set (i := 5) b.nd (i_lst (i_pa_cons (i_var (pv 1)) (i_pa_cons (c_list b.hX (g_list T) (i_pa_cons (i_var (pv 1)) i_pa_nil)) (i_pa_cons (i_tup (i_pa_cons (i_var (pv 2)) i_pa_nil)) (i_pa_cons (c_add b.hX (i_var (pv 1)) (i_tup (i_pa_cons i_int i_pa_nil))) (i_pa_cons (i_tup i_pa_nil) (i_pa_cons i_non (i_pa_cons i_int (i_pa_cons (i_var (pv 2)) (i_pa_cons i_str (i_pa_cons (i_tup (i_pa_cons (c_mul b.hX (i_var (pv 2)) (i_var (pv 4))) (i_pa_cons (c_mul b.hX (i_var (pv 3)) (i_var (pv 4))) i_pa_nil))) (i_pa_cons (i_tup (i_pa_cons (i_var (pv 2)) (i_pa_cons i_int i_pa_nil))) i_pa_nil)))))))))))))
    (s_cons (s_expr (c_append b.hX (i_var (pv 5)) (i_pa_cons (i_tup (i_pa_cons (i_var (pv 2)) (i_pa_cons (c_sub b.hX i_int (i_var (pv 3))) i_pa_nil))) i_pa_nil)))
    (s_cons (s_expr (c_extend b.hX (i_var (pv 5)) (i_pa_cons (i_lst (i_pa_cons (i_tup (i_pa_cons (c_sub b.hX i_int (i_var (pv 2))) (i_pa_cons (c_sub b.hX i_int (i_var (pv 3))) i_pa_nil))) (i_pa_cons (i_tup (i_pa_cons i_bl (i_pa_cons (i_var (pv 3)) i_pa_nil))) (i_pa_cons (i_tup (i_pa_cons (i_var (pv 2)) (i_pa_cons i_bl i_pa_nil))) (i_pa_cons (i_tup (i_pa_cons i_non (i_pa_cons (i_var (pv 3)) i_pa_nil))) (i_pa_cons (i_tup (i_pa_cons (i_var (pv 2)) (i_pa_cons i_non i_pa_nil))) (i_pa_cons (i_tup (i_pa_cons (i_var (pv 2)) (i_pa_cons i_str i_pa_nil))) (i_pa_cons (i_tup (i_pa_cons (i_var (pv 1)) (i_pa_cons (i_var (pv 1)) i_pa_nil))) i_pa_nil)))))))) i_pa_nil)))
    (s_cons (s_expr (c_extend b.hX (i_var (pv 5)) (i_pa_cons (i_lst (i_pa_cons (i_tup (i_pa_cons i_int (i_pa_cons (i_var (pv 3)) i_pa_nil))) (i_pa_cons (i_tup (i_pa_cons i_int (i_pa_cons i_int i_pa_nil))) (i_pa_cons (i_tup (i_pa_cons i_int (i_pa_cons i_int i_pa_nil))) (i_pa_cons (i_tup (i_pa_cons i_int (i_pa_cons i_int i_pa_nil))) (i_pa_cons (i_tup (i_pa_cons (c_mul b.hX i_int (i_var (pv 2))) (i_pa_cons (c_mul b.hX i_int (i_var (pv 3))) i_pa_nil))) (i_pa_cons (i_tup (i_pa_cons (c_add b.hX (i_var (pv 2)) (i_var (pv 3))) (i_pa_cons (i_var (pv 3)) i_pa_nil))) (i_pa_cons (i_tup (i_pa_cons (i_var (pv 3)) (i_pa_cons (i_var (pv 2)) i_pa_nil))) i_pa_nil)))))))) i_pa_nil)))
    (s_one (s_ret (c_add b.hX (i_var (pv 5)) (i_lst (i_pa_cons (c_call b (s__law_wb_bent T 12) (g__law_wb_bent T) (kp__law_wb_bent T) (i_pa_cons (i_var (pv 0)) (i_pa_cons (i_var (pv 1)) i_pa_nil))) (i_pa_cons (i_tup (i_pa_cons (i_tup (i_pa_cons (i_var (pv 2)) (i_pa_cons (i_var (pv 3)) i_pa_nil))) i_pa_nil)) (i_pa_cons (i_tup (i_pa_cons (c_neg i_int) (i_pa_cons (c_neg i_int) i_pa_nil))) (i_pa_cons (i_tup (i_pa_cons i_bl (i_pa_cons i_int i_pa_nil))) i_pa_nil))))))))))))))
def m__law_pool : S → OS :=
  (seqS (asgS (tupT 2 (consT (nameT 1) (consT (nameT 2) nilT))) (tupE [(cE (.int 0)), (cE (.int 7))]))
  (seqS (forS (itA rng1V [(callE lenV [(varE 0)])]) (nameT 3) (seqS (setS 4 (callE toIntV [(callE maxV [(bin2 ixV (varE 0) (varE 3)), (bin2 subV (un1 negV (cE (.int 1))) (bin2 ixV (varE 0) (varE 3)))])]))
  (seqS (setS 2 (bin2 modV (callE toIntV [(bin2 addV (bin2 addV (bin2 mulV (varE 2) (cE (.int 48271))) (bin2 modV (varE 4) (cE (.int 2147483629)))) (cE (.int 11)))]) (cE (.int 2147483647))))
  (setS 1 (ifE (andE (bin2 geV (varE 4) (bin2 powV (cE (.int 10)) (cE (.int 12)))) (bin2 ltV (varE 1) (bin2 powV (cE (.int 10)) (cE (.int 60))))) (callE toIntV [(bin2 addV (bin2 mulV (varE 1) (bin2 powV (cE (.int 10)) (cE (.int 60)))) (bin2 modV (varE 4) (bin2 powV (cE (.int 10)) (cE (.int 60)))))]) (varE 1))))))
  (retS (lstE [(varE 1), (varE 2), (cE (.int 0))]))))
theorem sc__law_pool : FnScope ["script", "digits", "stirred", "at", "cell"] ["script"] (defScope (top 21)) := ⟨rfl, rfl, rfl, by decide +kernel, rfl, by decide +kernel, by decide +kernel⟩
def d__law_pool (as : List Ar) : RD := runD 1 5 m__law_pool as
set_option maxHeartbeats 0 in
theorem s__law_pool (T : Txt c) : FnS c 1 (He.ga c.K "_law_pool") d__law_pool := by
  obtain ⟨fd, F⟩ := F__law_pool T
  exact fun_sh (N := ["script", "digits", "stirred", "at", "cell"]) (ps := ["script"]) (k := 0) (G := m__law_pool) F sc__law_pool (F.bindsN fun _ _ _ _ _ _ us hl => match us, hl with | [_], _ => rfl) fun cdv A outer s H Fz io E hcd b hM =>
    (s_cons (s_asg (i_tup (i_pa_cons i_int (i_pa_cons i_int i_pa_nil))) (g_tup b.hX.K b.calm (g_cons (g_name (i := 1) b.nd) (g_cons (g_name (i := 2) b.nd) g_nil))))
    (s_cons (s_for PassesOwn.leaving b.calm (w_rng1 (hm := (by rw [(b.hX).mg]; exact g_range T)) (ha := (i_pa_cons (c_len b.hX (g_len T) (i_pa_cons (i_var (pv 0)) i_pa_nil)) i_pa_nil))) (g_name (i := 3) b.nd) (s_cons (s_set (i := 4) b.nd (c_int b.hX (g_int T) (i_pa_cons (c_max b.calm b.hX (g_max T) (i_pa_cons (c_ix b.hX (i_var (pv 0)) (i_var (pv 3))) (i_pa_cons (c_sub b.hX (c_neg i_int) (c_ix b.hX (i_var (pv 0)) (i_var (pv 3)))) i_pa_nil))) i_pa_nil)))
    (s_cons (s_set (i := 2) b.nd (c_mod b.hX (c_int b.hX (g_int T) (i_pa_cons (c_add b.hX (c_add b.hX (c_mul b.hX (i_var (pv 2)) i_int) (c_mod b.hX (i_var (pv 4)) i_int)) i_int) i_pa_nil)) i_int))
    (s_one (s_set (i := 1) b.nd (i_ifx (w_and (q_ge (i_var (pv 4)) (c_pow b.hX i_int i_int)) (w_and1 (q_lt (i_var (pv 1)) (c_pow b.hX i_int i_int)))).pt (c_int b.hX (g_int T) (i_pa_cons (c_add b.hX (c_mul b.hX (i_var (pv 1)) (c_pow b.hX i_int i_int)) (c_mod b.hX (i_var (pv 4)) (c_pow b.hX i_int i_int))) i_pa_nil)) (i_var (pv 1))))))))
    (s_one (s_ret (i_lst (i_pa_cons (i_var (pv 1)) (i_pa_cons (i_var (pv 2)) (i_pa_cons i_int i_pa_nil))))))))
def m__law_wb_number : S → OS :=
  (seqS (setS 1 (bin2 addV (bin2 powV (cE (.int 10)) (cE (.int 8))) (callE (callV d__law_take) [(varE 0), (bin2 powV (cE (.int 10)) (cE (.int 8)))])))
  (retS (callE (callV d__law_one) [(varE 0), (lstE [(cE (.int 0)), (cE (.int 0)), (cE (.int 1)), (cE (.int 1)), (un1 negV (cE (.int 1))), (cE (.int 2)), (un1 negV (cE (.int 3))), (cE (.int 5)), (bin2 subV (callE (callV d__law_take) [(varE 0), (cE (.int 2001))]) (cE (.int 1000))), (varE 1), (bin2 subV (cE (.int 0)) (varE 1))])])))
theorem sc__law_wb_number : FnScope ["jar", "great"] ["jar"] (defScope (top 33)) := ⟨rfl, rfl, rfl, by decide +kernel, rfl, by decide +kernel, by decide +kernel⟩
def d__law_wb_number (as : List Ar) : RD := runD 1 2 m__law_wb_number as
set_option maxHeartbeats 0 in
theorem s__law_wb_number (T : Txt c) : FnS c 3 (He.ga c.K "_law_wb_number") d__law_wb_number := by
  obtain ⟨fd, F⟩ := F__law_wb_number T
  exact fun_sh (N := ["jar", "great"]) (ps := ["jar"]) (k := 2) (G := m__law_wb_number) F sc__law_wb_number (F.bindsN fun _ _ _ _ _ _ us hl => match us, hl with | [_], _ => rfl) fun cdv A outer s H Fz io E hcd b hM =>
    (s_cons (s_set (i := 1) b.nd (c_add b.hX (c_pow b.hX i_int i_int) (c_call b (s__law_take T) (g__law_take T) (kp__law_take T) (i_pa_cons (i_var (pv 0)) (i_pa_cons (c_pow b.hX i_int i_int) i_pa_nil)))))
    (s_one (s_ret (c_call b (s__law_one T) (g__law_one T) (kp__law_one T) (i_pa_cons (i_var (pv 0)) (i_pa_cons (i_lst (i_pa_cons i_int (i_pa_cons i_int (i_pa_cons i_int (i_pa_cons i_int (i_pa_cons (c_neg i_int) (i_pa_cons i_int (i_pa_cons (c_neg i_int) (i_pa_cons i_int (i_pa_cons (c_sub b.hX (c_call b (s__law_take T) (g__law_take T) (kp__law_take T) (i_pa_cons (i_var (pv 0)) (i_pa_cons i_int i_pa_nil))) i_int) (i_pa_cons (i_var (pv 1)) (i_pa_cons (c_sub b.hX i_int (i_var (pv 1))) i_pa_nil)))))))))))) i_pa_nil))))))
def m__law_wb_fraction : S → OS :=
  (seqS (setS 1 (callE (callV d__law_one) [(varE 0), (lstE [(cE (.int 1)), (cE (.int 1)), (cE (.int 1)), (cE (.int 2)), (cE (.int 3)), (cE (.int 4)), (cE (.int 7)), (bin2 addV (cE (.int 1)) (callE (callV d__law_take) [(varE 0), (cE (.int 1000))])), (bin2 addV (bin2 powV (cE (.int 10)) (cE (.int 8))) (cE (.int 7)))])]))
  (retS (callE (callV d__law_wb_low) [(callE (callV d__law_wb_number) [(varE 0)]), (varE 1)])))
theorem sc__law_wb_fraction : FnScope ["jar", "bottom"] ["jar"] (defScope (top 34)) := ⟨rfl, rfl, rfl, by decide +kernel, rfl, by decide +kernel, by decide +kernel⟩
def d__law_wb_fraction (as : List Ar) : RD := runD 1 2 m__law_wb_fraction as
set_option maxHeartbeats 0 in
theorem s__law_wb_fraction (T : Txt c) : FnS c 4 (He.ga c.K "_law_wb_fraction") d__law_wb_fraction := by
  obtain ⟨fd, F⟩ := F__law_wb_fraction T
  exact fun_sh (N := ["jar", "bottom"]) (ps := ["jar"]) (k := 3) (G := m__law_wb_fraction) F sc__law_wb_fraction (F.bindsN fun _ _ _ _ _ _ us hl => match us, hl with | [_], _ => rfl) fun cdv A outer s H Fz io E hcd b hM =>
    (s_cons (s_set (i := 1) b.nd (c_call b (s__law_one T) (g__law_one T) (kp__law_one T) (i_pa_cons (i_var (pv 0)) (i_pa_cons (i_lst (i_pa_cons i_int (i_pa_cons i_int (i_pa_cons i_int (i_pa_cons i_int (i_pa_cons i_int (i_pa_cons i_int (i_pa_cons i_int (i_pa_cons (c_add b.hX i_int (c_call b (s__law_take T) (g__law_take T) (kp__law_take T) (i_pa_cons (i_var (pv 0)) (i_pa_cons i_int i_pa_nil)))) (i_pa_cons (c_add b.hX (c_pow b.hX i_int i_int) i_int) i_pa_nil)))))))))) i_pa_nil))))
    (s_one (s_ret (c_call b (s__law_wb_low T) (g__law_wb_low T) (kp__law_wb_low T) (i_pa_cons (c_call b (s__law_wb_number T) (g__law_wb_number T) (kp__law_wb_number T) (i_pa_cons (i_var (pv 0)) i_pa_nil)) (i_pa_cons (i_var (pv 1)) i_pa_nil))))))
def m__law_wb_small : S → OS :=
  (retS (callE (callV d__law_wb_low) [(callE (callV d__law_one) [(varE 0), (lstE [(cE (.int 0)), (cE (.int 0)), (cE (.int 0)), (cE (.int 1)), (cE (.int 1)), (un1 negV (cE (.int 1))), (cE (.int 2)), (un1 negV (cE (.int 2))), (cE (.int 3)), (un1 negV (cE (.int 5)))])]), (callE (callV d__law_one) [(varE 0), (lstE [(cE (.int 1)), (cE (.int 1)), (cE (.int 1)), (cE (.int 2)), (cE (.int 3))])])]))
theorem sc__law_wb_small : FnScope ["jar"] ["jar"] (defScope (top 35)) := ⟨rfl, rfl, rfl, by decide +kernel, rfl, by decide +kernel, by decide +kernel⟩
def d__law_wb_small (as : List Ar) : RD := runD 1 1 m__law_wb_small as
set_option maxHeartbeats 0 in
theorem s__law_wb_small (T : Txt c) : FnS c 3 (He.ga c.K "_law_wb_small") d__law_wb_small := by
  obtain ⟨fd, F⟩ := F__law_wb_small T
  exact fun_sh (N := ["jar"]) (ps := ["jar"]) (k := 2) (G := m__law_wb_small) F sc__law_wb_small (F.bindsN fun _ _ _ _ _ _ us hl => match us, hl with | [_], _ => rfl) fun cdv A outer s H Fz io E hcd b hM =>
    (s_one (s_ret (c_call b (s__law_wb_low T) (g__law_wb_low T) (kp__law_wb_low T) (i_pa_cons (c_call b (s__law_one T) (g__law_one T) (kp__law_one T) (i_pa_cons (i_var (pv 0)) (i_pa_cons (i_lst (i_pa_cons i_int (i_pa_cons i_int (i_pa_cons i_int (i_pa_cons i_int (i_pa_cons i_int (i_pa_cons (c_neg i_int) (i_pa_cons i_int (i_pa_cons (c_neg i_int) (i_pa_cons i_int (i_pa_cons (c_neg i_int) i_pa_nil))))))))))) i_pa_nil))) (i_pa_cons (c_call b (s__law_one T) (g__law_one T) (kp__law_one T) (i_pa_cons (i_var (pv 0)) (i_pa_cons (i_lst (i_pa_cons i_int (i_pa_cons i_int (i_pa_cons i_int (i_pa_cons i_int (i_pa_cons i_int i_pa_nil)))))) i_pa_nil))) i_pa_nil)))))
def m_law : S → OS :=
  (seqS (setS 1 (callE (callV d__law_pool) [(varE 0)]))
  (seqS (forS (itA rng1V [(cE (.int 8))]) (nameT 2) (seqS (parS 3 4 (callE (callV d__law_wb_fraction) [(varE 1)]) (callE (callV d__law_wb_fraction) [(varE 1)]))
  (seqS (setS 5 (callE (callV d__law_wb_low) [(bin2 addV (bin2 ixV (varE 3) (cE (.int 0))) (callE (callV d__law_one) [(varE 1), (lstE [(cE (.int 1)), (un1 negV (cE (.int 1))), (cE (.int 0))])])), (bin2 ixV (varE 3) (cE (.int 1)))]))
  (seqS (setS 6 (lstE [(tupE [(varE 3), (varE 4)]), (tupE [(varE 4), (varE 3)]), (tupE [(varE 3), (varE 3)]), (tupE [(varE 3), (varE 5)]), (tupE [(varE 5), (varE 3)]), (tupE [(varE 3), (tupE [(cE (.int 0)), (cE (.int 1))])]), (tupE [(tupE [(cE (.int 0)), (cE (.int 1))]), (varE 4)]), (tupE [(varE 3), (tupE [(bin2 subV (cE (.int 0)) (bin2 ixV (varE 3) (cE (.int 0)))), (bin2 ixV (varE 3) (cE (.int 1)))])])]))
  (seqS (forS (itE (varE 6)) (tupT 2 (consT (nameT 7) (consT (nameT 8) nilT))) (ifS (notE (callE (callV d__law_a2_pair_right) [(varE 7), (varE 8)])) (retS (cE (.bl false))) nextS))
  (seqS (parS 7 8 (callE (callV d__law_wb_small) [(varE 1)]) (callE (callV d__law_wb_low) [(bin2 subV (callE (callV d__law_take) [(varE 1), (cE (.int 2001))]) (cE (.int 1000))), (bin2 addV (cE (.int 1)) (callE (callV d__law_take) [(varE 1), (cE (.int 1000))]))]))
  (seqS (ifS (orE (notE (callE (callV d__law_a2_back_right) [(varE 7), (varE 8)])) (notE (callE (callV d__law_a2_back_right) [(varE 8), (varE 7)]))) (retS (cE (.bl false))) nextS)
  (forS (itE (callE (callV d__law_a2_things) [(varE 1), (varE 3)])) (nameT 9) (ifS (orE (notE (callE (callV d__law_a2_thing_right) [(varE 9)])) (notE (callE (callV d__law_a2_refused_right) [(varE 1), (varE 4), (varE 9)]))) (retS (cE (.bl false))) nextS)))))))))
  (seqS (setS 10 (lstE [(lamE d__law_a2_heard [] (callE (callV d_over) [(tupE [(cE (.int 1)), (cE (.int 2))]), (tupE [(un1 negV (cE (.int 3))), (cE (.int 1))])]) [])]))
  (seqS (dropS (methE "list" appV (varE 10) [(lamE d__law_a2_heard [] (callE (callV d_times) [(tupE [(un1 negV (cE (.int 2))), (cE (.int 3))]), (tupE [(cE (.int 3)), (cE (.int 4))])]) [])]))
  (seqS (dropS (methE "list" appV (varE 10) [(lamE d__law_a2_heard [] (callE (callV d_plus) [(callE (callV d_plus) [(tupE [(cE (.int 1)), (cE (.int 3))]), (tupE [(cE (.int 1)), (cE (.int 3))])]), (tupE [(cE (.int 1)), (cE (.int 3))])]) [])]))
  (seqS (dropS (methE "list" appV (varE 10) [(lamE d__law_a2_heard [] (callE (callV d_minus) [(tupE [(cE (.int 1)), (cE (.int 6))]), (tupE [(cE (.int 2)), (cE (.int 3))])]) [])]))
  (seqS (dropS (methE "list" appV (varE 10) [(lamE d__law_a2_heard [] (lstE [(callE (callV d_below) [(tupE [(un1 negV (cE (.int 1))), (cE (.int 2))]), (tupE [(un1 negV (cE (.int 1))), (cE (.int 3))])]), (callE (callV d_below) [(tupE [(un1 negV (cE (.int 1))), (cE (.int 3))]), (tupE [(un1 negV (cE (.int 1))), (cE (.int 2))])]), (callE (callV d_below) [(tupE [(cE (.int 2)), (cE (.int 3))]), (tupE [(cE (.int 3)), (cE (.int 4))])])]) [])]))
  (seqS (dropS (methE "list" appV (varE 10) [(lamE d__law_a2_heard [] (callE (callV d_over) [(tupE [(cE (.int 2)), (cE (.int 4))]), (tupE [(cE (.int 0)), (cE (.int 1))])]) [])]))
  (seqS (dropS (methE "list" appV (varE 10) [(lamE d__law_a2_heard [] (callE (callV d_over) [(tupE [(cE (.int 0)), (cE (.int 1))]), (tupE [(cE (.int 0)), (cE (.int 1))])]) [])]))
  (seqS (setS 11 (bin2 powV (cE (.int 10)) (cE (.int 30))))
  (seqS (dropS (methE "list" appV (varE 10) [(lamE d__law_a2_heard [11] (callE (callV d_plus) [(tupE [(bin2 addV (varE 11) (cE (.int 1))), (varE 11)]), (tupE [(un1 negV (cE (.int 1))), (varE 11)])]) [])]))
  (seqS (dropS (methE "list" appV (varE 10) [(lamE d__law_a2_heard [11] (callE (callV d_below) [(tupE [(varE 11), (bin2 addV (varE 11) (cE (.int 1)))]), (tupE [(bin2 addV (varE 11) (cE (.int 1))), (bin2 addV (varE 11) (cE (.int 2)))])]) [])]))
  (seqS (dropS (methE "list" appV (varE 10) [(lamE d__law_a2_heard [11] (callE (callV d_is_fraction) [(tupE [(bin2 mulV (cE (.int 3)) (varE 11)), (bin2 mulV (cE (.int 7)) (varE 11))])]) [])]))
  (seqS (setS 12 (lstE [(tupE [(cE (.str "told")), (tupE [(un1 negV (cE (.int 1))), (cE (.int 6))])]), (tupE [(cE (.str "told")), (tupE [(un1 negV (cE (.int 1))), (cE (.int 2))])]), (tupE [(cE (.str "told")), (tupE [(cE (.int 1)), (cE (.int 1))])]), (tupE [(cE (.str "told")), (tupE [(un1 negV (cE (.int 1))), (cE (.int 2))])]), (tupE [(cE (.str "told")), (lstE [(cE (.bl true)), (cE (.bl false)), (cE (.bl true))])])]))
  (seqS (dropS (methE "list" extV (varE 12) [(lstE [(tupE [(cE (.str "BadFraction")), (cE (.int 0))]), (tupE [(cE (.str "Nought")), (cE (.int 0))]), (tupE [(cE (.str "told")), (tupE [(cE (.int 1)), (cE (.int 1))])]), (tupE [(cE (.str "told")), (cE (.bl true))]), (tupE [(cE (.str "told")), (cE (.bl false))])])]))
  (retS (callE (callV d__law_wb_same) [(varE 10), (varE 12)])))))))))))))))))
theorem sc_law : FnScope ["script", "jar", "go", "a", "b", "near", "pairs_now", "one", "other", "thing", "heard", "great", "owed"] ["script"] (defScope (top 44)) := ⟨rfl, rfl, rfl, by decide +kernel, rfl, by decide +kernel, by decide +kernel⟩
def d_law (as : List Ar) : RD := runD 1 13 m_law as
set_option maxHeartbeats 0 in
theorem s_law (T : Txt c) {fd : FuncData} (F : L2.FunD c.K "law" "law" (defArgs (top 44)) (defBody (top 44)) (defScope (top 44)) [] [] (He.ga c.K "law") fd) : FnOk c.P c.w c.K c.mg c.base (L2N.CX c.P c.w) 64 (He.ga c.K "law") fd ["script"] (spL c.T c.K 13 m_law) :=
  fnOk_law (N := ["script", "jar", "go", "a", "b", "near", "pairs_now", "one", "other", "thing", "heard", "great", "owed"]) (k := 63) (G := m_law) F sc_law fun cdv A outer s H Fz io E hcd b hM =>
    (s_cons (s_set (i := 1) b.nd (c_call b (s__law_pool T) (g__law_pool T) (kp__law_pool T) (i_pa_cons (i_var (pv 0)) i_pa_nil)))
    (s_cons (s_for PassesOwn.leaving b.calm (w_rng1 (hm := (by rw [(b.hX).mg]; exact g_range T)) (ha := (i_pa_cons i_int i_pa_nil))) (g_name (i := 2) b.nd) (s_cons (s_par (i := 3) (j := 4) b.calm b.nd (i_pa_cons (c_call b (s__law_wb_fraction T) (g__law_wb_fraction T) (kp__law_wb_fraction T) (i_pa_cons (i_var (pv 1)) i_pa_nil)) (i_pa_cons (c_call b (s__law_wb_fraction T) (g__law_wb_fraction T) (kp__law_wb_fraction T) (i_pa_cons (i_var (pv 1)) i_pa_nil)) i_pa_nil)))
    (s_cons (s_set (i := 5) b.nd (c_call b (s__law_wb_low T) (g__law_wb_low T) (kp__law_wb_low T) (i_pa_cons (c_add b.hX (c_ix b.hX (i_var (pv 3)) i_int) (c_call b (s__law_one T) (g__law_one T) (kp__law_one T) (i_pa_cons (i_var (pv 1)) (i_pa_cons (i_lst (i_pa_cons i_int (i_pa_cons (c_neg i_int) (i_pa_cons i_int i_pa_nil)))) i_pa_nil)))) (i_pa_cons (c_ix b.hX (i_var (pv 3)) i_int) i_pa_nil))))
    (s_cons (s_set (i := 6) b.nd (i_lst (i_pa_cons (i_tup (i_pa_cons (i_var (pv 3)) (i_pa_cons (i_var (pv 4)) i_pa_nil))) (i_pa_cons (i_tup (i_pa_cons (i_var (pv 4)) (i_pa_cons (i_var (pv 3)) i_pa_nil))) (i_pa_cons (i_tup (i_pa_cons (i_var (pv 3)) (i_pa_cons (i_var (pv 3)) i_pa_nil))) (i_pa_cons (i_tup (i_pa_cons (i_var (pv 3)) (i_pa_cons (i_var (pv 5)) i_pa_nil))) (i_pa_cons (i_tup (i_pa_cons (i_var (pv 5)) (i_pa_cons (i_var (pv 3)) i_pa_nil))) (i_pa_cons (i_tup (i_pa_cons (i_var (pv 3)) (i_pa_cons (i_tup (i_pa_cons i_int (i_pa_cons i_int i_pa_nil))) i_pa_nil))) (i_pa_cons (i_tup (i_pa_cons (i_tup (i_pa_cons i_int (i_pa_cons i_int i_pa_nil))) (i_pa_cons (i_var (pv 4)) i_pa_nil))) (i_pa_cons (i_tup (i_pa_cons (i_var (pv 3)) (i_pa_cons (i_tup (i_pa_cons (c_sub b.hX i_int (c_ix b.hX (i_var (pv 3)) i_int)) (i_pa_cons (c_ix b.hX (i_var (pv 3)) i_int) i_pa_nil))) i_pa_nil))) i_pa_nil))))))))))
    (s_cons (s_for PassesOwn.leaving b.calm (w_seq b.hX.K (i_var (pv 6))) (g_tup b.hX.K b.calm (g_cons (g_name (i := 7) b.nd) (g_cons (g_name (i := 8) b.nd) g_nil))) (s_one (s_if (t_not (i_test (c_call b (s__law_a2_pair_right T) (g__law_a2_pair_right T) (kp__law_a2_pair_right T) (i_pa_cons (i_var (pv 7)) (i_pa_cons (i_var (pv 8)) i_pa_nil))))) (s_one (s_ret i_bl)) s_nil)))
    (s_cons (s_par (i := 7) (j := 8) b.calm b.nd (i_pa_cons (c_call b (s__law_wb_small T) (g__law_wb_small T) (kp__law_wb_small T) (i_pa_cons (i_var (pv 1)) i_pa_nil)) (i_pa_cons (c_call b (s__law_wb_low T) (g__law_wb_low T) (kp__law_wb_low T) (i_pa_cons (c_sub b.hX (c_call b (s__law_take T) (g__law_take T) (kp__law_take T) (i_pa_cons (i_var (pv 1)) (i_pa_cons i_int i_pa_nil))) i_int) (i_pa_cons (c_add b.hX i_int (c_call b (s__law_take T) (g__law_take T) (kp__law_take T) (i_pa_cons (i_var (pv 1)) (i_pa_cons i_int i_pa_nil)))) i_pa_nil))) i_pa_nil)))
    (s_cons (s_if (w_or (t_not (i_test (c_call b (s__law_a2_back_right T) (g__law_a2_back_right T) (kp__law_a2_back_right T) (i_pa_cons (i_var (pv 7)) (i_pa_cons (i_var (pv 8)) i_pa_nil))))) (w_or1 (t_not (i_test (c_call b (s__law_a2_back_right T) (g__law_a2_back_right T) (kp__law_a2_back_right T) (i_pa_cons (i_var (pv 8)) (i_pa_cons (i_var (pv 7)) i_pa_nil))))))).pt (s_one (s_ret i_bl)) s_nil)
    (s_one (s_for PassesOwn.leaving b.calm (w_seq b.hX.K (c_call b (s__law_a2_things T) (g__law_a2_things T) (kp__law_a2_things T) (i_pa_cons (i_var (pv 1)) (i_pa_cons (i_var (pv 3)) i_pa_nil)))) (g_name (i := 9) b.nd) (s_one (s_if (w_or (t_not (i_test (c_call b (s__law_a2_thing_right T) (g__law_a2_thing_right T) (kp__law_a2_thing_right T) (i_pa_cons (i_var (pv 9)) i_pa_nil)))) (w_or1 (t_not (i_test (c_call b (s__law_a2_refused_right T) (g__law_a2_refused_right T) (kp__law_a2_refused_right T) (i_pa_cons (i_var (pv 1)) (i_pa_cons (i_var (pv 4)) (i_pa_cons (i_var (pv 9)) i_pa_nil)))))))).pt (s_one (s_ret i_bl)) s_nil)))))))))))
    (s_cons (s_set (i := 10) b.nd (i_lst (i_pa_cons (i_lam (caps := []) b.hX (fun _ => rfl) (s__law_a2_heard T) (g__law_a2_heard T) (b.room.mono (by decide)) b.tk (T.tb ("law", none) (by decide +kernel)) (hcd rfl) (T.inT ("law", none) (by decide +kernel)) (T.uniq ("law", none) (by decide +kernel)) (LamX.lamS_by (by rfl)) (fun A outer s H F E f c' hr tk => have bl : Bd c ⟨s, H, outer, F, [], none⟩ (WD E) _ 59 := b.lam hr tk; (c_call bl (s_over T) (g_over T) (kp_over T) (i_pa_cons (i_tup (i_pa_cons i_int (i_pa_cons i_int i_pa_nil))) (i_pa_cons (i_tup (i_pa_cons (c_neg i_int) (i_pa_cons i_int i_pa_nil))) i_pa_nil)))) i_pa_nil (hk := kp__law_a2_heard T)) i_pa_nil)))
    (s_cons (s_expr (c_append b.hX (i_var (pv 10)) (i_pa_cons (i_lam (caps := []) b.hX (fun _ => rfl) (s__law_a2_heard T) (g__law_a2_heard T) (b.room.mono (by decide)) b.tk (T.tb ("law", none) (by decide +kernel)) (hcd rfl) (T.inT ("law", none) (by decide +kernel)) (T.uniq ("law", none) (by decide +kernel)) (LamX.lamS_by (by rfl)) (fun A outer s H F E f c' hr tk => have bl : Bd c ⟨s, H, outer, F, [], none⟩ (WD E) _ 59 := b.lam hr tk; (c_call bl (s_times T) (g_times T) (kp_times T) (i_pa_cons (i_tup (i_pa_cons (c_neg i_int) (i_pa_cons i_int i_pa_nil))) (i_pa_cons (i_tup (i_pa_cons i_int (i_pa_cons i_int i_pa_nil))) i_pa_nil)))) i_pa_nil (hk := kp__law_a2_heard T)) i_pa_nil)))
    (s_cons (s_expr (c_append b.hX (i_var (pv 10)) (i_pa_cons (i_lam (caps := []) b.hX (fun _ => rfl) (s__law_a2_heard T) (g__law_a2_heard T) (b.room.mono (by decide)) b.tk (T.tb ("law", none) (by decide +kernel)) (hcd rfl) (T.inT ("law", none) (by decide +kernel)) (T.uniq ("law", none) (by decide +kernel)) (LamX.lamS_by (by rfl)) (fun A outer s H F E f c' hr tk => have bl : Bd c ⟨s, H, outer, F, [], none⟩ (WD E) _ 59 := b.lam hr tk; (c_call bl (s_plus T) (g_plus T) (kp_plus T) (i_pa_cons (c_call bl (s_plus T) (g_plus T) (kp_plus T) (i_pa_cons (i_tup (i_pa_cons i_int (i_pa_cons i_int i_pa_nil))) (i_pa_cons (i_tup (i_pa_cons i_int (i_pa_cons i_int i_pa_nil))) i_pa_nil))) (i_pa_cons (i_tup (i_pa_cons i_int (i_pa_cons i_int i_pa_nil))) i_pa_nil)))) i_pa_nil (hk := kp__law_a2_heard T)) i_pa_nil)))
    (s_cons (s_expr (c_append b.hX (i_var (pv 10)) (i_pa_cons (i_lam (caps := []) b.hX (fun _ => rfl) (s__law_a2_heard T) (g__law_a2_heard T) (b.room.mono (by decide)) b.tk (T.tb ("law", none) (by decide +kernel)) (hcd rfl) (T.inT ("law", none) (by decide +kernel)) (T.uniq ("law", none) (by decide +kernel)) (LamX.lamS_by (by rfl)) (fun A outer s H F E f c' hr tk => have bl : Bd c ⟨s, H, outer, F, [], none⟩ (WD E) _ 59 := b.lam hr tk; (c_call bl (s_minus T) (g_minus T) (kp_minus T) (i_pa_cons (i_tup (i_pa_cons i_int (i_pa_cons i_int i_pa_nil))) (i_pa_cons (i_tup (i_pa_cons i_int (i_pa_cons i_int i_pa_nil))) i_pa_nil)))) i_pa_nil (hk := kp__law_a2_heard T)) i_pa_nil)))
    (s_cons (s_expr (c_append b.hX (i_var (pv 10)) (i_pa_cons (i_lam (caps := []) b.hX (fun _ => rfl) (s__law_a2_heard T) (g__law_a2_heard T) (b.room.mono (by decide)) b.tk (T.tb ("law", none) (by decide +kernel)) (hcd rfl) (T.inT ("law", none) (by decide +kernel)) (T.uniq ("law", none) (by decide +kernel)) (LamX.lamS_by (by rfl)) (fun A outer s H F E f c' hr tk => have bl : Bd c ⟨s, H, outer, F, [], none⟩ (WD E) _ 59 := b.lam hr tk; (i_lst (i_pa_cons (c_call bl (s_below T) (g_below T) (kp_below T) (i_pa_cons (i_tup (i_pa_cons (c_neg i_int) (i_pa_cons i_int i_pa_nil))) (i_pa_cons (i_tup (i_pa_cons (c_neg i_int) (i_pa_cons i_int i_pa_nil))) i_pa_nil))) (i_pa_cons (c_call bl (s_below T) (g_below T) (kp_below T) (i_pa_cons (i_tup (i_pa_cons (c_neg i_int) (i_pa_cons i_int i_pa_nil))) (i_pa_cons (i_tup (i_pa_cons (c_neg i_int) (i_pa_cons i_int i_pa_nil))) i_pa_nil))) (i_pa_cons (c_call bl (s_below T) (g_below T) (kp_below T) (i_pa_cons (i_tup (i_pa_cons i_int (i_pa_cons i_int i_pa_nil))) (i_pa_cons (i_tup (i_pa_cons i_int (i_pa_cons i_int i_pa_nil))) i_pa_nil))) i_pa_nil))))) i_pa_nil (hk := kp__law_a2_heard T)) i_pa_nil)))
    (s_cons (s_expr (c_append b.hX (i_var (pv 10)) (i_pa_cons (i_lam (caps := []) b.hX (fun _ => rfl) (s__law_a2_heard T) (g__law_a2_heard T) (b.room.mono (by decide)) b.tk (T.tb ("law", none) (by decide +kernel)) (hcd rfl) (T.inT ("law", none) (by decide +kernel)) (T.uniq ("law", none) (by decide +kernel)) (LamX.lamS_by (by rfl)) (fun A outer s H F E f c' hr tk => have bl : Bd c ⟨s, H, outer, F, [], none⟩ (WD E) _ 59 := b.lam hr tk; (c_call bl (s_over T) (g_over T) (kp_over T) (i_pa_cons (i_tup (i_pa_cons i_int (i_pa_cons i_int i_pa_nil))) (i_pa_cons (i_tup (i_pa_cons i_int (i_pa_cons i_int i_pa_nil))) i_pa_nil)))) i_pa_nil (hk := kp__law_a2_heard T)) i_pa_nil)))
    (s_cons (s_expr (c_append b.hX (i_var (pv 10)) (i_pa_cons (i_lam (caps := []) b.hX (fun _ => rfl) (s__law_a2_heard T) (g__law_a2_heard T) (b.room.mono (by decide)) b.tk (T.tb ("law", none) (by decide +kernel)) (hcd rfl) (T.inT ("law", none) (by decide +kernel)) (T.uniq ("law", none) (by decide +kernel)) (LamX.lamS_by (by rfl)) (fun A outer s H F E f c' hr tk => have bl : Bd c ⟨s, H, outer, F, [], none⟩ (WD E) _ 59 := b.lam hr tk; (c_call bl (s_over T) (g_over T) (kp_over T) (i_pa_cons (i_tup (i_pa_cons i_int (i_pa_cons i_int i_pa_nil))) (i_pa_cons (i_tup (i_pa_cons i_int (i_pa_cons i_int i_pa_nil))) i_pa_nil)))) i_pa_nil (hk := kp__law_a2_heard T)) i_pa_nil)))
    (s_cons (s_set (i := 11) b.nd (c_pow b.hX i_int i_int))
    (s_cons (s_expr (c_append b.hX (i_var (pv 10)) (i_pa_cons (i_lam (caps := [11]) b.hX (fun _ => rfl) (s__law_a2_heard T) (g__law_a2_heard T) (b.room.mono (by decide)) b.tk (T.tb ("law", none) (by decide +kernel)) (hcd rfl) (T.inT ("law", none) (by decide +kernel)) (T.uniq ("law", none) (by decide +kernel)) (LamX.lamS_by (by rfl)) (fun A outer s H F E f c' hr tk => have bl : Bd c ⟨s, H, outer, F, [], none⟩ (WD E) _ 59 := b.lam hr tk; (c_call bl (s_plus T) (g_plus T) (kp_plus T) (i_pa_cons (i_tup (i_pa_cons (c_add bl.hX (i_var (pv 11)) i_int) (i_pa_cons (i_var (pv 11)) i_pa_nil))) (i_pa_cons (i_tup (i_pa_cons (c_neg i_int) (i_pa_cons (i_var (pv 11)) i_pa_nil))) i_pa_nil)))) i_pa_nil (hk := kp__law_a2_heard T)) i_pa_nil)))
    (s_cons (s_expr (c_append b.hX (i_var (pv 10)) (i_pa_cons (i_lam (caps := [11]) b.hX (fun _ => rfl) (s__law_a2_heard T) (g__law_a2_heard T) (b.room.mono (by decide)) b.tk (T.tb ("law", none) (by decide +kernel)) (hcd rfl) (T.inT ("law", none) (by decide +kernel)) (T.uniq ("law", none) (by decide +kernel)) (LamX.lamS_by (by rfl)) (fun A outer s H F E f c' hr tk => have bl : Bd c ⟨s, H, outer, F, [], none⟩ (WD E) _ 59 := b.lam hr tk; (c_call bl (s_below T) (g_below T) (kp_below T) (i_pa_cons (i_tup (i_pa_cons (i_var (pv 11)) (i_pa_cons (c_add bl.hX (i_var (pv 11)) i_int) i_pa_nil))) (i_pa_cons (i_tup (i_pa_cons (c_add bl.hX (i_var (pv 11)) i_int) (i_pa_cons (c_add bl.hX (i_var (pv 11)) i_int) i_pa_nil))) i_pa_nil)))) i_pa_nil (hk := kp__law_a2_heard T)) i_pa_nil)))
    (s_cons (s_expr (c_append b.hX (i_var (pv 10)) (i_pa_cons (i_lam (caps := [11]) b.hX (fun _ => rfl) (s__law_a2_heard T) (g__law_a2_heard T) (b.room.mono (by decide)) b.tk (T.tb ("law", none) (by decide +kernel)) (hcd rfl) (T.inT ("law", none) (by decide +kernel)) (T.uniq ("law", none) (by decide +kernel)) (LamX.lamS_by (by rfl)) (fun A outer s H F E f c' hr tk => have bl : Bd c ⟨s, H, outer, F, [], none⟩ (WD E) _ 59 := b.lam hr tk; (c_call bl (s_is_fraction T) (g_is_fraction T) (kp_is_fraction T) (i_pa_cons (i_tup (i_pa_cons (c_mul bl.hX i_int (i_var (pv 11))) (i_pa_cons (c_mul bl.hX i_int (i_var (pv 11))) i_pa_nil))) i_pa_nil))) i_pa_nil (hk := kp__law_a2_heard T)) i_pa_nil)))
    (s_cons (s_set (i := 12) b.nd (i_lst (i_pa_cons (i_tup (i_pa_cons i_str (i_pa_cons (i_tup (i_pa_cons (c_neg i_int) (i_pa_cons i_int i_pa_nil))) i_pa_nil))) (i_pa_cons (i_tup (i_pa_cons i_str (i_pa_cons (i_tup (i_pa_cons (c_neg i_int) (i_pa_cons i_int i_pa_nil))) i_pa_nil))) (i_pa_cons (i_tup (i_pa_cons i_str (i_pa_cons (i_tup (i_pa_cons i_int (i_pa_cons i_int i_pa_nil))) i_pa_nil))) (i_pa_cons (i_tup (i_pa_cons i_str (i_pa_cons (i_tup (i_pa_cons (c_neg i_int) (i_pa_cons i_int i_pa_nil))) i_pa_nil))) (i_pa_cons (i_tup (i_pa_cons i_str (i_pa_cons (i_lst (i_pa_cons i_bl (i_pa_cons i_bl (i_pa_cons i_bl i_pa_nil)))) i_pa_nil))) i_pa_nil)))))))
    (s_cons (s_expr (c_extend b.hX (i_var (pv 12)) (i_pa_cons (i_lst (i_pa_cons (i_tup (i_pa_cons i_str (i_pa_cons i_int i_pa_nil))) (i_pa_cons (i_tup (i_pa_cons i_str (i_pa_cons i_int i_pa_nil))) (i_pa_cons (i_tup (i_pa_cons i_str (i_pa_cons (i_tup (i_pa_cons i_int (i_pa_cons i_int i_pa_nil))) i_pa_nil))) (i_pa_cons (i_tup (i_pa_cons i_str (i_pa_cons i_bl i_pa_nil))) (i_pa_cons (i_tup (i_pa_cons i_str (i_pa_cons i_bl i_pa_nil))) i_pa_nil)))))) i_pa_nil)))
    (s_one (s_ret (c_call b (s__law_wb_same T) (g__law_wb_same T) (kp__law_wb_same T) (i_pa_cons (i_var (pv 10)) (i_pa_cons (i_var (pv 12)) i_pa_nil))))))))))))))))))))
theorem tab_glo : ∀ nm ∈ tab.map (·.1), nm ∈ glos := by decide +kernel
end
end Law
end
section
set_option Elab.async false
set_option linter.all false
set_option maxRecDepth 100000
set_option maxHeartbeats 4000000
namespace Law
open PySem PySem.Spec PyProof.Rows Sh
open L2 hiding St
def Plain : Prop := ∀ ns : List Int, ns.length ≤ 63 → (∀ z ∈ ns, Builtin.Int.intBits z ≤ 1048576) → ∀ y, (y = D.lst (ns.map D.int) ∨ y = D.klst (ns.map D.int)) → ∃ cs, runD 1 13 m_law [.d y] = .ok (.d (.bl true)) cs
def TT (K : PySem.W.Frag) : List (Addr × Str) := tf.map fun x => ((He.cT K x).2, (x.1 ++ ".<locals>.") ++ "<lambda>")
theorem sc_ini : FnScope ["self", "what"] ["self", "what"] (defScope (inClass (top 2) 0)) := ⟨rfl, rfl, rfl, by decide +kernel, rfl, by decide +kernel, by decide +kernel⟩
theorem ini_ok {c : Cn} (d : He.SaysD fa fn c.K) (hx : iniB c.K (fI c.K) = true) (hm : c.mg "ValueError" = none) : IniOk c (fI c.K) := by
  obtain ⟨h1, h2⟩ := iniB_ok hx
  have hF : ∃ fd, L2.FunD c.K "__init__" "Refused.__init__" (defArgs (inClass (top 2) 0)) (defBody (inClass (top 2) 0)) (defScope (inClass (top 2) 0)) [] [] (fI c.K) fd := d.def_ 37 rfl
  obtain ⟨fd, F⟩ := hF
  refine ⟨⟨fd, ?_, F.bindsN fun _ _ _ _ _ _ us hl => match us, hl with | [_, _], _ => rfl⟩, h1⟩
  exact F.ok (N := ["self", "what"]) sc_ini spI_len fun cdv A outer s H vs Q E hr h => ⟨_, pss_cons (ps_expr (pe_veinit rfl hm h2 (pa_cons (pv 0) (pa_cons (pv 1) pa_nil)))) (pss_one (ps_ost (pv 0) (pv 1))), ini_pure h⟩
theorem txt_of {P : Program} {w : World} {K : PySem.W.Frag} {mg : Str → Option Value} {base h : Heap} (X : K.In h) (G : h.Ns mainGlobals mg) (d : He.SaysD fa fn K) (ex : exA K = true) (tb : ∀ x, x ∈ tf → LamX.TabB base mg (He.cT K x).1 (He.cT K x).2) : Txt ⟨P, w, K, mg, base, fun _ => none, TT K⟩ := by
  unfold exA at ex
  simp only [Bool.and_eq_true] at ex
  have glo : ∀ x, x ∈ glos → mg x = some (.ref (He.ga K x)) := fun x hx => He.glo_ok X G (d.facts (f := .glo x) (List.mem_append_left _ (List.mem_map.mpr ⟨x, hx, rfl⟩)))
  have fre : ∀ x, x ∈ fres → mg x = none := fun x hx => He.free_ok X G (d.facts (f := .free x) (List.mem_append_right _ (List.mem_map.mpr ⟨x, hx, rfl⟩)))
  have ex_cls := ex.1.1.1.1
  have ex_ini := ex.1.1.1.2
  have ex_uniq := ex.1.1.2
  have ex_gcd := ex.1.2
  have ex_NOUGHT := ex.2
  refine { d := d, mgG := fun x h => He.glo_ok X G h, mgF := fun x h => He.free_ok X G h, cls := cls_of ex_cls (fun nm hn => glo nm (tab_glo nm hn)), ini := ini_ok d ex_ini (fre _ (by decide +kernel)), tb := tb, inT := fun x hx => List.mem_map.mpr ⟨x, hx, rfl⟩, uniq := uniq_ok ex_uniq, g_gcd := PySem.W.mg_of X G (He.eqO_ok ex_gcd), k_NOUGHT := ⟨PySem.W.mg_of X G (He.eqO_ok ex_NOUGHT.1), rfl, fun F H => .tup (He.tupB_ok ex_NOUGHT.2 H) (by exact .cons .int (.cons .int (.nil)))⟩ }
end Law
open PySem PySem.W PySem.Calls PyProof.Rows in
set_option maxHeartbeats 0 in
theorem Law.ends (plain : Law.Plain) : PySem.Challenge.rw_anystrength_k02_fractions_by_cross_produ.Holds := by
  refine Law.head ?_
  refine LamX.walk_ofTsE (l := PySem.Challenge.rw_anystrength_k02_fractions_by_cross_produ) (n := 63) (k := 64) (x := "script") (CX := fun w => L2N.CX (PySem.Challenge.rw_anystrength_k02_fractions_by_cross_produ).prog w) rfl (by decide) (by kernel_rfl) ⟨rfl, by decide, by decide⟩ ?F ?C
  case C =>
    intro w H s e s' z
    obtain ⟨_, _, _, _, _, _, _, _, _, _, _, _, z⟩ := z
    exact z
  case F =>
    intro w mg fa h Y G hmg0
    obtain ⟨K, KX, sx⟩ := Y
    have hmg : mg ("law" : PySem.Str) = some (.ref fa) := by
      have e : (HandSHeadRun.topDef (OpenLaw.row PySem.Challenge.rw_anystrength_k02_fractions_by_cross_produ).prog 44).name = ("law" : PySem.Str) := by kernel_rfl
      rw [← e]
      exact hmg0
    have d := sx.t.d
    have hF : ∃ fd, L2.FunD K "law" "law" (L2.defArgs (Law.top 44)) (L2.defBody (Law.top 44)) (L2.defScope (Law.top 44)) [] [] (He.ga K "law") fd := d.def_ 36 rfl
    obtain ⟨fd, F⟩ := hF
    have efa := hmg.symm.trans (He.glo_ok KX G (d.facts (f := .glo "law") (List.mem_append_left _ (List.mem_map.mpr ⟨_, by decide +kernel, rfl⟩))))
    cases efa
    refine ⟨K, KX, fd, Law.tf.map (He.cT K), Sh.spL (Law.TT K) K 13 Law.m_law, fun p hp => ?_, fun p hp => ?_, fun p hp => ?_, fun s u => L2.FunD.bindsA (ps := ["script"]) F (fun _ _ _ _ _ _ us hl => match us, hl with | [_], _ => rfl) s [u] rfl, fun H a ns hl hb hT hS => ⟨a, ns, rfl, fun p hp => ?_, hS, fun _ => rfl, plain ns hl hb⟩, fun base hK hG hTB => ?_⟩
    · obtain ⟨x, hx, rfl⟩ := List.mem_map.mp hp
      exact sx.empty x hx
    · obtain ⟨x, hx, rfl⟩ := List.mem_map.mp hp
      exact sx.out x hx
    · obtain ⟨x, hx, rfl⟩ := List.mem_map.mp hp
      exact codeHd_of_K KX (sx.hd x hx)
    · obtain ⟨x, hx, rfl⟩ := List.mem_map.mp hp
      exact LamX.TabS.nil (hT _ (List.mem_map.mpr ⟨x, hx, rfl⟩))
    · exact Law.s_law (c := ⟨_, w, K, mg, base, fun _ => none, Law.TT K⟩) (Law.txt_of KX G d sx.more fun x hx => hTB _ (List.mem_map.mpr ⟨x, hx, rfl⟩)) F
end
section
set_option Elab.async false
set_option linter.all false
set_option maxRecDepth 100000
set_option maxHeartbeats 4000000
namespace Law
open PySem Sh
/-- plain data, no names of the program -/
def isP : D → Bool
  | .obj _ => false
  | .ty _ => false
  | _ => true
def isI : D → Bool
  | .int _ => true
  | _ => false
theorem whole_ok {x : D} (h : isP x = true) : d__law_wb_is_whole [.d x] = .ok (.d (.bl (isI x))) [] := by
  cases x <;> first | rfl | cases h
theorem isint_ok {x : D} (h : isP x = true) : d_is_int [.d x] = .ok (.d (.bl (isI x))) [] := by
  cases x <;> first | rfl | cases h
abbrev fr (p q : Int) : D := .tup [.int p, .int q]
/-- lowest terms -/
def lowN (p q : Int) : Int := (if 0 < q then p else -p) / (Nat.gcd p.natAbs q.natAbs : Nat)
def lowD (p q : Int) : Int := (if 0 < q then q else -q) / (Nat.gcd p.natAbs q.natAbs : Nat)
def low (p q : Int) : D := fr (lowN p q) (lowD p q)
/-- small enough -/
def Sm (a : Int) : Prop := a.natAbs < 2 ^ 4000
theorem Sm.log {a : Int} (h : Sm a) : a.natAbs.log2 < 4000 := by
  by_cases z : a.natAbs = 0
  · rw [z]; decide
  · exact (Nat.log2_lt z).mpr h
theorem gcd_pos {p q : Int} (h : q ≠ 0) : 0 < Nat.gcd p.natAbs q.natAbs := Nat.gcd_pos_of_pos_right _ (by omega)
theorem gcd_le {p q : Int} (h : q ≠ 0) : Nat.gcd p.natAbs q.natAbs ≤ q.natAbs := Nat.gcd_le_right _ (by omega)
theorem fdiv_neg_pos {a : Int} {g : Nat} (h : 0 < g) (hd : (g : Int) ∣ a) : a.fdiv (-(g : Int)) = (-a) / g := by
  obtain ⟨k, rfl⟩ := hd
  have hg : (g : Int) ≠ 0 := by omega
  rw [show (g : Int) * k = -(g : Int) * -k by rw [Int.neg_mul_neg], Int.mul_fdiv_cancel_left _ (by omega)]
  rw [show -(-(g : Int) * -k) = (g : Int) * -k by rw [Int.neg_mul]; omega, Int.mul_ediv_cancel_left _ hg]
theorem lowest_ok {p q : Int} (h : q ≠ 0) (hq : Sm q) : d_lowest [.d (.int p), .d (.int q)] = .ok (.d (low p q)) [] := by
  have g0 := gcd_pos (p := p) h
  have gl : (Nat.gcd p.natAbs q.natAbs).log2 < 9000 := by
    have h1 := gcd_le (p := p) h
    have h2 : Nat.gcd p.natAbs q.natAbs < 2 ^ 4000 := Nat.lt_of_le_of_lt h1 hq
    exact Nat.lt_trans ((Nat.log2_lt (by omega)).mpr h2) (by decide)
  have dp : ((Nat.gcd p.natAbs q.natAbs : Nat) : Int) ∣ p := Int.ofNat_dvd_left.mpr (Nat.gcd_dvd_left _ _)
  have dq : ((Nat.gcd p.natAbs q.natAbs : Nat) : Int) ∣ q := Int.ofNat_dvd_left.mpr (Nat.gcd_dvd_right _ _)
  rw [d_lowest]
  unfold m_lowest low lowN lowD
  generalize hg : Nat.gcd p.natAbs q.natAbs = g at *
  by_cases c : 0 < q
  · simp only [e_par, e_parK, e_asg, toD_d, e_nameT, e_consT, e_nilT, Option.bind_some, n_nx, n_ct, n_bk, n_ret, e_for, e_itE, e_itA, e_meth, ty_s, e_run1, e_run2, e_run3, e_run4, s_d1, s_d2, s_od, s_oo, s_o1, s_odd, s_t1, s_td, ic_d, ic_o, ic_t, ic_nil, e_argD, e_argDD, List.replicate, Nat.reduceSub, List.length_cons, List.length_nil, bind_ok, bind_exc, bind_bad, e_seq, th_nx, th_ret, th_exc, th_bk, th_ct, e_set, e_setK, e_ret, e_retK, e_drop, e_dropK, e_retN, e_next, e_brk, e_cnt, e_if, e_ifE, e_and, e_or, e_not, onB_t, onB_f, onB_b, e_var, e_varK, e_c, e_bin, e_un, e_call, e_nil, e_cons, e_tup, e_tupK, e_lst, e_lstK, e_newLst, toDs_nil, toDs_d, Option.map_some, e_callV, e_callVT, ar_nil, ar_cons, ar_d, ar_t, e_argKT, af_d, af_new, af_exc, up_nil, up_cons, end_ret, end_exc, end_nx, out_d, v_add, v_sub, v_neg, v_lt, v_le, v_gt, v_ge, v_eqI, v_neI, v_gcd, v_abs, v_max, v_int, v_lenT, v_lenL, List.getElem?_cons_zero, List.getElem?_cons_succ, List.set_cons_zero, List.set_cons_succ, List.take_zero, List.take_nil, Bool.false_eq_true, if_false, if_true, eq_self, decide_true, decide_false, Bool.not_true, Bool.not_false, Nat.reduceAdd, Nat.reduceLeDiff, Nat.reduceLT, List.nil_append, List.cons_append, c, decide_true, if_true, hg]
    rw [v_div (by omega) (by simpa using gl)]
    simp only [e_par, e_parK, e_asg, toD_d, e_nameT, e_consT, e_nilT, Option.bind_some, n_nx, n_ct, n_bk, n_ret, e_for, e_itE, e_itA, e_meth, ty_s, e_run1, e_run2, e_run3, e_run4, s_d1, s_d2, s_od, s_oo, s_o1, s_odd, s_t1, s_td, ic_d, ic_o, ic_t, ic_nil, e_argD, e_argDD, List.replicate, Nat.reduceSub, List.length_cons, List.length_nil, bind_ok, bind_exc, bind_bad, e_seq, th_nx, th_ret, th_exc, th_bk, th_ct, e_set, e_setK, e_ret, e_retK, e_drop, e_dropK, e_retN, e_next, e_brk, e_cnt, e_if, e_ifE, e_and, e_or, e_not, onB_t, onB_f, onB_b, e_var, e_varK, e_c, e_bin, e_un, e_call, e_nil, e_cons, e_tup, e_tupK, e_lst, e_lstK, e_newLst, toDs_nil, toDs_d, Option.map_some, e_callV, e_callVT, ar_nil, ar_cons, ar_d, ar_t, e_argKT, af_d, af_new, af_exc, up_nil, up_cons, end_ret, end_exc, end_nx, out_d, v_add, v_sub, v_neg, v_lt, v_le, v_gt, v_ge, v_eqI, v_neI, v_gcd, v_abs, v_max, v_int, v_lenT, v_lenL, List.getElem?_cons_zero, List.getElem?_cons_succ, List.set_cons_zero, List.set_cons_succ, List.take_zero, List.take_nil, Bool.false_eq_true, if_false, if_true, eq_self, decide_true, decide_false, Bool.not_true, Bool.not_false, Nat.reduceAdd, Nat.reduceLeDiff, Nat.reduceLT, List.nil_append, List.cons_append]
    rw [v_div (by omega) (by simpa using gl)]
    simp only [e_par, e_parK, e_asg, toD_d, e_nameT, e_consT, e_nilT, Option.bind_some, n_nx, n_ct, n_bk, n_ret, e_for, e_itE, e_itA, e_meth, ty_s, e_run1, e_run2, e_run3, e_run4, s_d1, s_d2, s_od, s_oo, s_o1, s_odd, s_t1, s_td, ic_d, ic_o, ic_t, ic_nil, e_argD, e_argDD, List.replicate, Nat.reduceSub, List.length_cons, List.length_nil, bind_ok, bind_exc, bind_bad, e_seq, th_nx, th_ret, th_exc, th_bk, th_ct, e_set, e_setK, e_ret, e_retK, e_drop, e_dropK, e_retN, e_next, e_brk, e_cnt, e_if, e_ifE, e_and, e_or, e_not, onB_t, onB_f, onB_b, e_var, e_varK, e_c, e_bin, e_un, e_call, e_nil, e_cons, e_tup, e_tupK, e_lst, e_lstK, e_newLst, toDs_nil, toDs_d, Option.map_some, e_callV, e_callVT, ar_nil, ar_cons, ar_d, ar_t, e_argKT, af_d, af_new, af_exc, up_nil, up_cons, end_ret, end_exc, end_nx, out_d, v_add, v_sub, v_neg, v_lt, v_le, v_gt, v_ge, v_eqI, v_neI, v_gcd, v_abs, v_max, v_int, v_lenT, v_lenL, List.getElem?_cons_zero, List.getElem?_cons_succ, List.set_cons_zero, List.set_cons_succ, List.take_zero, List.take_nil, Bool.false_eq_true, if_false, if_true, eq_self, decide_true, decide_false, Bool.not_true, Bool.not_false, Nat.reduceAdd, Nat.reduceLeDiff, Nat.reduceLT, List.nil_append, List.cons_append]
    rw [Int.fdiv_eq_ediv_of_nonneg _ (by omega), Int.fdiv_eq_ediv_of_nonneg _ (by omega)]
  · simp only [e_par, e_parK, e_asg, toD_d, e_nameT, e_consT, e_nilT, Option.bind_some, n_nx, n_ct, n_bk, n_ret, e_for, e_itE, e_itA, e_meth, ty_s, e_run1, e_run2, e_run3, e_run4, s_d1, s_d2, s_od, s_oo, s_o1, s_odd, s_t1, s_td, ic_d, ic_o, ic_t, ic_nil, e_argD, e_argDD, List.replicate, Nat.reduceSub, List.length_cons, List.length_nil, bind_ok, bind_exc, bind_bad, e_seq, th_nx, th_ret, th_exc, th_bk, th_ct, e_set, e_setK, e_ret, e_retK, e_drop, e_dropK, e_retN, e_next, e_brk, e_cnt, e_if, e_ifE, e_and, e_or, e_not, onB_t, onB_f, onB_b, e_var, e_varK, e_c, e_bin, e_un, e_call, e_nil, e_cons, e_tup, e_tupK, e_lst, e_lstK, e_newLst, toDs_nil, toDs_d, Option.map_some, e_callV, e_callVT, ar_nil, ar_cons, ar_d, ar_t, e_argKT, af_d, af_new, af_exc, up_nil, up_cons, end_ret, end_exc, end_nx, out_d, v_add, v_sub, v_neg, v_lt, v_le, v_gt, v_ge, v_eqI, v_neI, v_gcd, v_abs, v_max, v_int, v_lenT, v_lenL, List.getElem?_cons_zero, List.getElem?_cons_succ, List.set_cons_zero, List.set_cons_succ, List.take_zero, List.take_nil, Bool.false_eq_true, if_false, if_true, eq_self, decide_true, decide_false, Bool.not_true, Bool.not_false, Nat.reduceAdd, Nat.reduceLeDiff, Nat.reduceLT, List.nil_append, List.cons_append, c, decide_false, if_false, Bool.false_eq_true, hg]
    rw [v_div (by omega) (by simpa using gl)]
    simp only [e_par, e_parK, e_asg, toD_d, e_nameT, e_consT, e_nilT, Option.bind_some, n_nx, n_ct, n_bk, n_ret, e_for, e_itE, e_itA, e_meth, ty_s, e_run1, e_run2, e_run3, e_run4, s_d1, s_d2, s_od, s_oo, s_o1, s_odd, s_t1, s_td, ic_d, ic_o, ic_t, ic_nil, e_argD, e_argDD, List.replicate, Nat.reduceSub, List.length_cons, List.length_nil, bind_ok, bind_exc, bind_bad, e_seq, th_nx, th_ret, th_exc, th_bk, th_ct, e_set, e_setK, e_ret, e_retK, e_drop, e_dropK, e_retN, e_next, e_brk, e_cnt, e_if, e_ifE, e_and, e_or, e_not, onB_t, onB_f, onB_b, e_var, e_varK, e_c, e_bin, e_un, e_call, e_nil, e_cons, e_tup, e_tupK, e_lst, e_lstK, e_newLst, toDs_nil, toDs_d, Option.map_some, e_callV, e_callVT, ar_nil, ar_cons, ar_d, ar_t, e_argKT, af_d, af_new, af_exc, up_nil, up_cons, end_ret, end_exc, end_nx, out_d, v_add, v_sub, v_neg, v_lt, v_le, v_gt, v_ge, v_eqI, v_neI, v_gcd, v_abs, v_max, v_int, v_lenT, v_lenL, List.getElem?_cons_zero, List.getElem?_cons_succ, List.set_cons_zero, List.set_cons_succ, List.take_zero, List.take_nil, Bool.false_eq_true, if_false, if_true, eq_self, decide_true, decide_false, Bool.not_true, Bool.not_false, Nat.reduceAdd, Nat.reduceLeDiff, Nat.reduceLT, List.nil_append, List.cons_append]
    rw [v_div (by omega) (by simpa using gl)]
    simp only [e_par, e_parK, e_asg, toD_d, e_nameT, e_consT, e_nilT, Option.bind_some, n_nx, n_ct, n_bk, n_ret, e_for, e_itE, e_itA, e_meth, ty_s, e_run1, e_run2, e_run3, e_run4, s_d1, s_d2, s_od, s_oo, s_o1, s_odd, s_t1, s_td, ic_d, ic_o, ic_t, ic_nil, e_argD, e_argDD, List.replicate, Nat.reduceSub, List.length_cons, List.length_nil, bind_ok, bind_exc, bind_bad, e_seq, th_nx, th_ret, th_exc, th_bk, th_ct, e_set, e_setK, e_ret, e_retK, e_drop, e_dropK, e_retN, e_next, e_brk, e_cnt, e_if, e_ifE, e_and, e_or, e_not, onB_t, onB_f, onB_b, e_var, e_varK, e_c, e_bin, e_un, e_call, e_nil, e_cons, e_tup, e_tupK, e_lst, e_lstK, e_newLst, toDs_nil, toDs_d, Option.map_some, e_callV, e_callVT, ar_nil, ar_cons, ar_d, ar_t, e_argKT, af_d, af_new, af_exc, up_nil, up_cons, end_ret, end_exc, end_nx, out_d, v_add, v_sub, v_neg, v_lt, v_le, v_gt, v_ge, v_eqI, v_neI, v_gcd, v_abs, v_max, v_int, v_lenT, v_lenL, List.getElem?_cons_zero, List.getElem?_cons_succ, List.set_cons_zero, List.set_cons_succ, List.take_zero, List.take_nil, Bool.false_eq_true, if_false, if_true, eq_self, decide_true, decide_false, Bool.not_true, Bool.not_false, Nat.reduceAdd, Nat.reduceLeDiff, Nat.reduceLT, List.nil_append, List.cons_append]
    rw [fdiv_neg_pos g0 dp, fdiv_neg_pos g0 dq]
/-! ### Euclid -/
def gBody : S → OS := seqS (ifS (bin2 (eqV false) (varE 3) (cE (.int 0))) (retS (varE 2)) nextS) (parS 2 3 (varE 3) (bin2 modV (callE toIntV [(varE 2)]) (callE toIntV [(varE 3)])))
theorem g_step {a b : Nat} {s0 s1 s4 : Option Val} {x : D} {r all : List D} (h : b ≠ 0) : forL (nameT 4) gBody none all (x :: r) ⟨[s0, s1, some (.d (.int a)), some (.d (.int b)), s4], []⟩ =
    forL (nameT 4) gBody none all r ⟨[s0, s1, some (.d (.int b)), some (.d (.int (a % b : Nat))), some (.d x)], []⟩ := by
  have hb : ((b : Int) == 0) = false := by simpa using h
  have hb2 : (b : Int) ≠ 0 := by omega
  rw [f_cons gd_none e_nameT]
  simp only [gBody, e_par, e_parK, e_asg, toD_d, e_nameT, e_consT, e_nilT, Option.bind_some, n_nx, n_ct, n_bk, n_ret, e_for, e_itE, e_itA, e_meth, ty_s, e_run1, e_run2, e_run3, e_run4, s_d1, s_d2, s_od, s_oo, s_o1, s_odd, s_t1, s_td, ic_d, ic_o, ic_t, ic_nil, e_argD, e_argDD, List.replicate, Nat.reduceSub, List.length_cons, List.length_nil, bind_ok, bind_exc, bind_bad, e_seq, th_nx, th_ret, th_exc, th_bk, th_ct, e_set, e_setK, e_ret, e_retK, e_drop, e_dropK, e_retN, e_next, e_brk, e_cnt, e_if, e_ifE, e_and, e_or, e_not, onB_t, onB_f, onB_b, e_var, e_varK, e_c, e_bin, e_un, e_call, e_nil, e_cons, e_tup, e_tupK, e_lst, e_lstK, e_newLst, toDs_nil, toDs_d, Option.map_some, e_callV, e_callVT, ar_nil, ar_cons, ar_d, ar_t, e_argKT, af_d, af_new, af_exc, up_nil, up_cons, end_ret, end_exc, end_nx, out_d, v_add, v_sub, v_neg, v_lt, v_le, v_gt, v_ge, v_eqI, v_neI, v_gcd, v_abs, v_max, v_int, v_lenT, v_lenL, List.getElem?_cons_zero, List.getElem?_cons_succ, List.set_cons_zero, List.set_cons_succ, List.take_zero, List.take_nil, Bool.false_eq_true, if_false, if_true, eq_self, decide_true, decide_false, Bool.not_true, Bool.not_false, Nat.reduceAdd, Nat.reduceLeDiff, Nat.reduceLT, List.nil_append, List.cons_append, hb, Sh.v_mod hb2]
  rw [Int.fmod_eq_emod_of_nonneg _ (by omega)]
  rfl
theorem g_stop {a : Nat} {s0 s1 s4 : Option Val} {x : D} {r all : List D} : forL (nameT 4) gBody none all (x :: r) ⟨[s0, s1, some (.d (.int a)), some (.d (.int (0 : Nat))), s4], []⟩ =
    .ok (.ret (.d (.int a))) ⟨[s0, s1, some (.d (.int a)), some (.d (.int (0 : Nat))), some (.d x)], []⟩ := by
  rw [f_cons gd_none e_nameT]
  have hb : (((0 : Nat) : Int) == 0) = true := rfl
  simp only [gBody, e_par, e_parK, e_asg, toD_d, e_nameT, e_consT, e_nilT, Option.bind_some, n_nx, n_ct, n_bk, n_ret, e_for, e_itE, e_itA, e_meth, ty_s, e_run1, e_run2, e_run3, e_run4, s_d1, s_d2, s_od, s_oo, s_o1, s_odd, s_t1, s_td, ic_d, ic_o, ic_t, ic_nil, e_argD, e_argDD, List.replicate, Nat.reduceSub, List.length_cons, List.length_nil, bind_ok, bind_exc, bind_bad, e_seq, th_nx, th_ret, th_exc, th_bk, th_ct, e_set, e_setK, e_ret, e_retK, e_drop, e_dropK, e_retN, e_next, e_brk, e_cnt, e_if, e_ifE, e_and, e_or, e_not, onB_t, onB_f, onB_b, e_var, e_varK, e_c, e_bin, e_un, e_call, e_nil, e_cons, e_tup, e_tupK, e_lst, e_lstK, e_newLst, toDs_nil, toDs_d, Option.map_some, e_callV, e_callVT, ar_nil, ar_cons, ar_d, ar_t, e_argKT, af_d, af_new, af_exc, up_nil, up_cons, end_ret, end_exc, end_nx, out_d, v_add, v_sub, v_neg, v_lt, v_le, v_gt, v_ge, v_eqI, v_neI, v_gcd, v_abs, v_max, v_int, v_lenT, v_lenL, List.getElem?_cons_zero, List.getElem?_cons_succ, List.set_cons_zero, List.set_cons_succ, List.take_zero, List.take_nil, Bool.false_eq_true, if_false, if_true, eq_self, decide_true, decide_false, Bool.not_true, Bool.not_false, Nat.reduceAdd, Nat.reduceLeDiff, Nat.reduceLT, List.nil_append, List.cons_append, hb]
theorem g_loop : ∀ (n a b : Nat) (s0 s1 s4 : Option Val) (items all : List D), b < 2 ^ n → 2 * n + 1 ≤ items.length →
    ∃ st, forL (nameT 4) gBody none all items ⟨[s0, s1, some (.d (.int a)), some (.d (.int b)), s4], []⟩ = .ok (.ret (.d (.int (Nat.gcd a b : Nat)))) st ∧ st.c = []
  | 0, a, b, s0, s1, s4, items, all, hb, hl => by
    have e : b = 0 := by simpa using hb
    subst e
    match items, hl with
    | x :: r, _ => exact ⟨_, by rw [g_stop, Nat.gcd_zero_right], rfl⟩
  | n + 1, a, b, s0, s1, s4, items, all, hb, hl => by
    match items, hl with
    | [x], hl => simp at hl
    | [x, y], hl => simp at hl; omega
    | x :: y :: r, hl =>
      simp only [List.length_cons] at hl
      by_cases e : b = 0
      · subst e
        exact ⟨_, by rw [g_stop, Nat.gcd_zero_right], rfl⟩
      · rw [g_step e]
        by_cases e2 : a % b = 0
        · rw [e2]
          refine ⟨_, by rw [g_stop]; congr 5; rw [Nat.gcd_comm, Nat.gcd_rec, e2, Nat.gcd_zero_left], rfl⟩
        · rw [g_step e2]
          have h1 : a % b < b := Nat.mod_lt _ (by omega)
          have h2 : b % (a % b) < a % b := Nat.mod_lt _ (by omega)
          have h3 : b % (a % b) < 2 ^ n := by
            have h4 : b % (a % b) + a % b ≤ b := by
              have := Nat.div_add_mod b (a % b)
              have h5 : 1 ≤ b / (a % b) := Nat.div_pos (by omega) (by omega)
              have h6 : a % b ≤ (a % b) * (b / (a % b)) := Nat.le_mul_of_pos_right _ h5
              omega
            rw [Nat.pow_succ] at hb
            omega
          obtain ⟨st, h5, h6⟩ := g_loop n (a % b) (b % (a % b)) s0 s1 (some (.d y)) r all h3 (by omega)
          refine ⟨st, by rw [h5]; congr 5; rw [Nat.gcd_comm, ← Nat.gcd_rec, ← Nat.gcd_rec, Nat.gcd_comm], h6⟩
theorem gcd_ok {p q : Int} (hq : Sm q) : d__law_wb_gcd [.d (.int p), .d (.int q)] = .ok (.d (.int (Nat.gcd p.natAbs q.natAbs : Nat))) [] := by
  have ep : (if p < 0 then -p else p) = (p.natAbs : Int) := by omega
  have eq : (if q < 0 then -q else q) = (q.natAbs : Int) := by omega
  rw [d__law_wb_gcd]
  unfold m__law_wb_gcd
  simp only [e_par, e_parK, e_asg, toD_d, e_nameT, e_consT, e_nilT, Option.bind_some, n_nx, n_ct, n_bk, n_ret, e_for, e_itE, e_itA, e_meth, ty_s, e_run1, e_run2, e_run3, e_run4, s_d1, s_d2, s_od, s_oo, s_o1, s_odd, s_t1, s_td, ic_d, ic_o, ic_t, ic_nil, e_argD, e_argDD, List.replicate, Nat.reduceSub, List.length_cons, List.length_nil, bind_ok, bind_exc, bind_bad, e_seq, th_nx, th_ret, th_exc, th_bk, th_ct, e_set, e_setK, e_ret, e_retK, e_drop, e_dropK, e_retN, e_next, e_brk, e_cnt, e_if, e_ifE, e_and, e_or, e_not, onB_t, onB_f, onB_b, e_var, e_varK, e_c, e_bin, e_un, e_call, e_nil, e_cons, e_tup, e_tupK, e_lst, e_lstK, e_newLst, toDs_nil, toDs_d, Option.map_some, e_callV, e_callVT, ar_nil, ar_cons, ar_d, ar_t, e_argKT, af_d, af_new, af_exc, up_nil, up_cons, end_ret, end_exc, end_nx, out_d, v_add, v_sub, v_neg, v_lt, v_le, v_gt, v_ge, v_eqI, v_neI, v_gcd, v_abs, v_max, v_int, v_lenT, v_lenL, List.getElem?_cons_zero, List.getElem?_cons_succ, List.set_cons_zero, List.set_cons_succ, List.take_zero, List.take_nil, Bool.false_eq_true, if_false, if_true, eq_self, decide_true, decide_false, Bool.not_true, Bool.not_false, Nat.reduceAdd, Nat.reduceLeDiff, Nat.reduceLT, List.nil_append, List.cons_append, ep, eq]
  rw [e_rngI (by decide)]
  have hl : 2 * 4000 + 1 ≤ (rngL 0 (Int.toNat 100000)).length := by unfold rngL; rw [List.length_map, List.length_range]; decide
  generalize rngL 0 (Int.toNat 100000) = L at hl ⊢
  rw [bind_ok]
  obtain ⟨st, h1, h2⟩ := g_loop 4000 p.natAbs q.natAbs (some (.d (.int p))) (some (.d (.int q))) none L L hq hl
  unfold gBody at h1
  rw [h1, th_ret, end_ret, out_d, h2]
  rfl
theorem low_ok {p q : Int} (h : q ≠ 0) (hp : Sm p) (hq : Sm q) : d__law_wb_low [.d (.int p), .d (.int q)] = .ok (.d (low p q)) [] := by
  have g0 := gcd_pos (p := p) h
  have gl : (Nat.gcd p.natAbs q.natAbs).log2 < 9000 := by
    have h1 := gcd_le (p := p) h
    have h2 : Nat.gcd p.natAbs q.natAbs < 2 ^ 4000 := Nat.lt_of_le_of_lt h1 hq
    exact Nat.lt_trans ((Nat.log2_lt (by omega)).mpr h2) (by decide)
  have lp := hp.log
  have lq := hq.log
  rw [d__law_wb_low]
  unfold m__law_wb_low low lowN lowD
  have m1 : ∀ (s : Int) (x : Int), (s = 1 ∨ s = -1) → x.natAbs.log2 < 4000 → s.natAbs.log2 + x.natAbs.log2 < 1000000 := fun s x hs hx => by
    have : s.natAbs.log2 = 0 := by rcases hs with e | e <;> subst e <;> decide
    omega
  by_cases c : 0 < q
  · simp only [e_par, e_parK, e_asg, toD_d, e_nameT, e_consT, e_nilT, Option.bind_some, n_nx, n_ct, n_bk, n_ret, e_for, e_itE, e_itA, e_meth, ty_s, e_run1, e_run2, e_run3, e_run4, s_d1, s_d2, s_od, s_oo, s_o1, s_odd, s_t1, s_td, ic_d, ic_o, ic_t, ic_nil, e_argD, e_argDD, List.replicate, Nat.reduceSub, List.length_cons, List.length_nil, bind_ok, bind_exc, bind_bad, e_seq, th_nx, th_ret, th_exc, th_bk, th_ct, e_set, e_setK, e_ret, e_retK, e_drop, e_dropK, e_retN, e_next, e_brk, e_cnt, e_if, e_ifE, e_and, e_or, e_not, onB_t, onB_f, onB_b, e_var, e_varK, e_c, e_bin, e_un, e_call, e_nil, e_cons, e_tup, e_tupK, e_lst, e_lstK, e_newLst, toDs_nil, toDs_d, Option.map_some, e_callV, e_callVT, ar_nil, ar_cons, ar_d, ar_t, e_argKT, af_d, af_new, af_exc, up_nil, up_cons, end_ret, end_exc, end_nx, out_d, v_add, v_sub, v_neg, v_lt, v_le, v_gt, v_ge, v_eqI, v_neI, v_gcd, v_abs, v_max, v_int, v_lenT, v_lenL, List.getElem?_cons_zero, List.getElem?_cons_succ, List.set_cons_zero, List.set_cons_succ, List.take_zero, List.take_nil, Bool.false_eq_true, if_false, if_true, eq_self, decide_true, decide_false, Bool.not_true, Bool.not_false, Nat.reduceAdd, Nat.reduceLeDiff, Nat.reduceLT, List.nil_append, List.cons_append, gcd_ok hq, c]
    rw [Sh.v_mul (m1 _ _ (.inl rfl) lp)]
    simp only [e_par, e_parK, e_asg, toD_d, e_nameT, e_consT, e_nilT, Option.bind_some, n_nx, n_ct, n_bk, n_ret, e_for, e_itE, e_itA, e_meth, ty_s, e_run1, e_run2, e_run3, e_run4, s_d1, s_d2, s_od, s_oo, s_o1, s_odd, s_t1, s_td, ic_d, ic_o, ic_t, ic_nil, e_argD, e_argDD, List.replicate, Nat.reduceSub, List.length_cons, List.length_nil, bind_ok, bind_exc, bind_bad, e_seq, th_nx, th_ret, th_exc, th_bk, th_ct, e_set, e_setK, e_ret, e_retK, e_drop, e_dropK, e_retN, e_next, e_brk, e_cnt, e_if, e_ifE, e_and, e_or, e_not, onB_t, onB_f, onB_b, e_var, e_varK, e_c, e_bin, e_un, e_call, e_nil, e_cons, e_tup, e_tupK, e_lst, e_lstK, e_newLst, toDs_nil, toDs_d, Option.map_some, e_callV, e_callVT, ar_nil, ar_cons, ar_d, ar_t, e_argKT, af_d, af_new, af_exc, up_nil, up_cons, end_ret, end_exc, end_nx, out_d, v_add, v_sub, v_neg, v_lt, v_le, v_gt, v_ge, v_eqI, v_neI, v_gcd, v_abs, v_max, v_int, v_lenT, v_lenL, List.getElem?_cons_zero, List.getElem?_cons_succ, List.set_cons_zero, List.set_cons_succ, List.take_zero, List.take_nil, Bool.false_eq_true, if_false, if_true, eq_self, decide_true, decide_false, Bool.not_true, Bool.not_false, Nat.reduceAdd, Nat.reduceLeDiff, Nat.reduceLT, List.nil_append, List.cons_append]
    rw [Sh.v_div (by omega) (by simpa using gl)]
    simp only [e_par, e_parK, e_asg, toD_d, e_nameT, e_consT, e_nilT, Option.bind_some, n_nx, n_ct, n_bk, n_ret, e_for, e_itE, e_itA, e_meth, ty_s, e_run1, e_run2, e_run3, e_run4, s_d1, s_d2, s_od, s_oo, s_o1, s_odd, s_t1, s_td, ic_d, ic_o, ic_t, ic_nil, e_argD, e_argDD, List.replicate, Nat.reduceSub, List.length_cons, List.length_nil, bind_ok, bind_exc, bind_bad, e_seq, th_nx, th_ret, th_exc, th_bk, th_ct, e_set, e_setK, e_ret, e_retK, e_drop, e_dropK, e_retN, e_next, e_brk, e_cnt, e_if, e_ifE, e_and, e_or, e_not, onB_t, onB_f, onB_b, e_var, e_varK, e_c, e_bin, e_un, e_call, e_nil, e_cons, e_tup, e_tupK, e_lst, e_lstK, e_newLst, toDs_nil, toDs_d, Option.map_some, e_callV, e_callVT, ar_nil, ar_cons, ar_d, ar_t, e_argKT, af_d, af_new, af_exc, up_nil, up_cons, end_ret, end_exc, end_nx, out_d, v_add, v_sub, v_neg, v_lt, v_le, v_gt, v_ge, v_eqI, v_neI, v_gcd, v_abs, v_max, v_int, v_lenT, v_lenL, List.getElem?_cons_zero, List.getElem?_cons_succ, List.set_cons_zero, List.set_cons_succ, List.take_zero, List.take_nil, Bool.false_eq_true, if_false, if_true, eq_self, decide_true, decide_false, Bool.not_true, Bool.not_false, Nat.reduceAdd, Nat.reduceLeDiff, Nat.reduceLT, List.nil_append, List.cons_append]
    rw [Sh.v_mul (m1 _ _ (.inl rfl) lq)]
    simp only [e_par, e_parK, e_asg, toD_d, e_nameT, e_consT, e_nilT, Option.bind_some, n_nx, n_ct, n_bk, n_ret, e_for, e_itE, e_itA, e_meth, ty_s, e_run1, e_run2, e_run3, e_run4, s_d1, s_d2, s_od, s_oo, s_o1, s_odd, s_t1, s_td, ic_d, ic_o, ic_t, ic_nil, e_argD, e_argDD, List.replicate, Nat.reduceSub, List.length_cons, List.length_nil, bind_ok, bind_exc, bind_bad, e_seq, th_nx, th_ret, th_exc, th_bk, th_ct, e_set, e_setK, e_ret, e_retK, e_drop, e_dropK, e_retN, e_next, e_brk, e_cnt, e_if, e_ifE, e_and, e_or, e_not, onB_t, onB_f, onB_b, e_var, e_varK, e_c, e_bin, e_un, e_call, e_nil, e_cons, e_tup, e_tupK, e_lst, e_lstK, e_newLst, toDs_nil, toDs_d, Option.map_some, e_callV, e_callVT, ar_nil, ar_cons, ar_d, ar_t, e_argKT, af_d, af_new, af_exc, up_nil, up_cons, end_ret, end_exc, end_nx, out_d, v_add, v_sub, v_neg, v_lt, v_le, v_gt, v_ge, v_eqI, v_neI, v_gcd, v_abs, v_max, v_int, v_lenT, v_lenL, List.getElem?_cons_zero, List.getElem?_cons_succ, List.set_cons_zero, List.set_cons_succ, List.take_zero, List.take_nil, Bool.false_eq_true, if_false, if_true, eq_self, decide_true, decide_false, Bool.not_true, Bool.not_false, Nat.reduceAdd, Nat.reduceLeDiff, Nat.reduceLT, List.nil_append, List.cons_append]
    rw [Sh.v_div (by omega) (by simpa using gl)]
    simp only [e_par, e_parK, e_asg, toD_d, e_nameT, e_consT, e_nilT, Option.bind_some, n_nx, n_ct, n_bk, n_ret, e_for, e_itE, e_itA, e_meth, ty_s, e_run1, e_run2, e_run3, e_run4, s_d1, s_d2, s_od, s_oo, s_o1, s_odd, s_t1, s_td, ic_d, ic_o, ic_t, ic_nil, e_argD, e_argDD, List.replicate, Nat.reduceSub, List.length_cons, List.length_nil, bind_ok, bind_exc, bind_bad, e_seq, th_nx, th_ret, th_exc, th_bk, th_ct, e_set, e_setK, e_ret, e_retK, e_drop, e_dropK, e_retN, e_next, e_brk, e_cnt, e_if, e_ifE, e_and, e_or, e_not, onB_t, onB_f, onB_b, e_var, e_varK, e_c, e_bin, e_un, e_call, e_nil, e_cons, e_tup, e_tupK, e_lst, e_lstK, e_newLst, toDs_nil, toDs_d, Option.map_some, e_callV, e_callVT, ar_nil, ar_cons, ar_d, ar_t, e_argKT, af_d, af_new, af_exc, up_nil, up_cons, end_ret, end_exc, end_nx, out_d, v_add, v_sub, v_neg, v_lt, v_le, v_gt, v_ge, v_eqI, v_neI, v_gcd, v_abs, v_max, v_int, v_lenT, v_lenL, List.getElem?_cons_zero, List.getElem?_cons_succ, List.set_cons_zero, List.set_cons_succ, List.take_zero, List.take_nil, Bool.false_eq_true, if_false, if_true, eq_self, decide_true, decide_false, Bool.not_true, Bool.not_false, Nat.reduceAdd, Nat.reduceLeDiff, Nat.reduceLT, List.nil_append, List.cons_append]
    rw [Int.fdiv_eq_ediv_of_nonneg _ (by omega), Int.fdiv_eq_ediv_of_nonneg _ (by omega), Int.one_mul, Int.one_mul]
  · simp only [e_par, e_parK, e_asg, toD_d, e_nameT, e_consT, e_nilT, Option.bind_some, n_nx, n_ct, n_bk, n_ret, e_for, e_itE, e_itA, e_meth, ty_s, e_run1, e_run2, e_run3, e_run4, s_d1, s_d2, s_od, s_oo, s_o1, s_odd, s_t1, s_td, ic_d, ic_o, ic_t, ic_nil, e_argD, e_argDD, List.replicate, Nat.reduceSub, List.length_cons, List.length_nil, bind_ok, bind_exc, bind_bad, e_seq, th_nx, th_ret, th_exc, th_bk, th_ct, e_set, e_setK, e_ret, e_retK, e_drop, e_dropK, e_retN, e_next, e_brk, e_cnt, e_if, e_ifE, e_and, e_or, e_not, onB_t, onB_f, onB_b, e_var, e_varK, e_c, e_bin, e_un, e_call, e_nil, e_cons, e_tup, e_tupK, e_lst, e_lstK, e_newLst, toDs_nil, toDs_d, Option.map_some, e_callV, e_callVT, ar_nil, ar_cons, ar_d, ar_t, e_argKT, af_d, af_new, af_exc, up_nil, up_cons, end_ret, end_exc, end_nx, out_d, v_add, v_sub, v_neg, v_lt, v_le, v_gt, v_ge, v_eqI, v_neI, v_gcd, v_abs, v_max, v_int, v_lenT, v_lenL, List.getElem?_cons_zero, List.getElem?_cons_succ, List.set_cons_zero, List.set_cons_succ, List.take_zero, List.take_nil, Bool.false_eq_true, if_false, if_true, eq_self, decide_true, decide_false, Bool.not_true, Bool.not_false, Nat.reduceAdd, Nat.reduceLeDiff, Nat.reduceLT, List.nil_append, List.cons_append, gcd_ok hq, c]
    rw [Sh.v_mul (m1 _ _ (.inr rfl) lp)]
    simp only [e_par, e_parK, e_asg, toD_d, e_nameT, e_consT, e_nilT, Option.bind_some, n_nx, n_ct, n_bk, n_ret, e_for, e_itE, e_itA, e_meth, ty_s, e_run1, e_run2, e_run3, e_run4, s_d1, s_d2, s_od, s_oo, s_o1, s_odd, s_t1, s_td, ic_d, ic_o, ic_t, ic_nil, e_argD, e_argDD, List.replicate, Nat.reduceSub, List.length_cons, List.length_nil, bind_ok, bind_exc, bind_bad, e_seq, th_nx, th_ret, th_exc, th_bk, th_ct, e_set, e_setK, e_ret, e_retK, e_drop, e_dropK, e_retN, e_next, e_brk, e_cnt, e_if, e_ifE, e_and, e_or, e_not, onB_t, onB_f, onB_b, e_var, e_varK, e_c, e_bin, e_un, e_call, e_nil, e_cons, e_tup, e_tupK, e_lst, e_lstK, e_newLst, toDs_nil, toDs_d, Option.map_some, e_callV, e_callVT, ar_nil, ar_cons, ar_d, ar_t, e_argKT, af_d, af_new, af_exc, up_nil, up_cons, end_ret, end_exc, end_nx, out_d, v_add, v_sub, v_neg, v_lt, v_le, v_gt, v_ge, v_eqI, v_neI, v_gcd, v_abs, v_max, v_int, v_lenT, v_lenL, List.getElem?_cons_zero, List.getElem?_cons_succ, List.set_cons_zero, List.set_cons_succ, List.take_zero, List.take_nil, Bool.false_eq_true, if_false, if_true, eq_self, decide_true, decide_false, Bool.not_true, Bool.not_false, Nat.reduceAdd, Nat.reduceLeDiff, Nat.reduceLT, List.nil_append, List.cons_append]
    rw [Sh.v_div (by omega) (by simpa using gl)]
    simp only [e_par, e_parK, e_asg, toD_d, e_nameT, e_consT, e_nilT, Option.bind_some, n_nx, n_ct, n_bk, n_ret, e_for, e_itE, e_itA, e_meth, ty_s, e_run1, e_run2, e_run3, e_run4, s_d1, s_d2, s_od, s_oo, s_o1, s_odd, s_t1, s_td, ic_d, ic_o, ic_t, ic_nil, e_argD, e_argDD, List.replicate, Nat.reduceSub, List.length_cons, List.length_nil, bind_ok, bind_exc, bind_bad, e_seq, th_nx, th_ret, th_exc, th_bk, th_ct, e_set, e_setK, e_ret, e_retK, e_drop, e_dropK, e_retN, e_next, e_brk, e_cnt, e_if, e_ifE, e_and, e_or, e_not, onB_t, onB_f, onB_b, e_var, e_varK, e_c, e_bin, e_un, e_call, e_nil, e_cons, e_tup, e_tupK, e_lst, e_lstK, e_newLst, toDs_nil, toDs_d, Option.map_some, e_callV, e_callVT, ar_nil, ar_cons, ar_d, ar_t, e_argKT, af_d, af_new, af_exc, up_nil, up_cons, end_ret, end_exc, end_nx, out_d, v_add, v_sub, v_neg, v_lt, v_le, v_gt, v_ge, v_eqI, v_neI, v_gcd, v_abs, v_max, v_int, v_lenT, v_lenL, List.getElem?_cons_zero, List.getElem?_cons_succ, List.set_cons_zero, List.set_cons_succ, List.take_zero, List.take_nil, Bool.false_eq_true, if_false, if_true, eq_self, decide_true, decide_false, Bool.not_true, Bool.not_false, Nat.reduceAdd, Nat.reduceLeDiff, Nat.reduceLT, List.nil_append, List.cons_append]
    rw [Sh.v_mul (m1 _ _ (.inr rfl) lq)]
    simp only [e_par, e_parK, e_asg, toD_d, e_nameT, e_consT, e_nilT, Option.bind_some, n_nx, n_ct, n_bk, n_ret, e_for, e_itE, e_itA, e_meth, ty_s, e_run1, e_run2, e_run3, e_run4, s_d1, s_d2, s_od, s_oo, s_o1, s_odd, s_t1, s_td, ic_d, ic_o, ic_t, ic_nil, e_argD, e_argDD, List.replicate, Nat.reduceSub, List.length_cons, List.length_nil, bind_ok, bind_exc, bind_bad, e_seq, th_nx, th_ret, th_exc, th_bk, th_ct, e_set, e_setK, e_ret, e_retK, e_drop, e_dropK, e_retN, e_next, e_brk, e_cnt, e_if, e_ifE, e_and, e_or, e_not, onB_t, onB_f, onB_b, e_var, e_varK, e_c, e_bin, e_un, e_call, e_nil, e_cons, e_tup, e_tupK, e_lst, e_lstK, e_newLst, toDs_nil, toDs_d, Option.map_some, e_callV, e_callVT, ar_nil, ar_cons, ar_d, ar_t, e_argKT, af_d, af_new, af_exc, up_nil, up_cons, end_ret, end_exc, end_nx, out_d, v_add, v_sub, v_neg, v_lt, v_le, v_gt, v_ge, v_eqI, v_neI, v_gcd, v_abs, v_max, v_int, v_lenT, v_lenL, List.getElem?_cons_zero, List.getElem?_cons_succ, List.set_cons_zero, List.set_cons_succ, List.take_zero, List.take_nil, Bool.false_eq_true, if_false, if_true, eq_self, decide_true, decide_false, Bool.not_true, Bool.not_false, Nat.reduceAdd, Nat.reduceLeDiff, Nat.reduceLT, List.nil_append, List.cons_append]
    rw [Sh.v_div (by omega) (by simpa using gl)]
    simp only [e_par, e_parK, e_asg, toD_d, e_nameT, e_consT, e_nilT, Option.bind_some, n_nx, n_ct, n_bk, n_ret, e_for, e_itE, e_itA, e_meth, ty_s, e_run1, e_run2, e_run3, e_run4, s_d1, s_d2, s_od, s_oo, s_o1, s_odd, s_t1, s_td, ic_d, ic_o, ic_t, ic_nil, e_argD, e_argDD, List.replicate, Nat.reduceSub, List.length_cons, List.length_nil, bind_ok, bind_exc, bind_bad, e_seq, th_nx, th_ret, th_exc, th_bk, th_ct, e_set, e_setK, e_ret, e_retK, e_drop, e_dropK, e_retN, e_next, e_brk, e_cnt, e_if, e_ifE, e_and, e_or, e_not, onB_t, onB_f, onB_b, e_var, e_varK, e_c, e_bin, e_un, e_call, e_nil, e_cons, e_tup, e_tupK, e_lst, e_lstK, e_newLst, toDs_nil, toDs_d, Option.map_some, e_callV, e_callVT, ar_nil, ar_cons, ar_d, ar_t, e_argKT, af_d, af_new, af_exc, up_nil, up_cons, end_ret, end_exc, end_nx, out_d, v_add, v_sub, v_neg, v_lt, v_le, v_gt, v_ge, v_eqI, v_neI, v_gcd, v_abs, v_max, v_int, v_lenT, v_lenL, List.getElem?_cons_zero, List.getElem?_cons_succ, List.set_cons_zero, List.set_cons_succ, List.take_zero, List.take_nil, Bool.false_eq_true, if_false, if_true, eq_self, decide_true, decide_false, Bool.not_true, Bool.not_false, Nat.reduceAdd, Nat.reduceLeDiff, Nat.reduceLT, List.nil_append, List.cons_append]
    rw [Int.fdiv_eq_ediv_of_nonneg _ (by omega), Int.fdiv_eq_ediv_of_nonneg _ (by omega), Int.neg_one_mul, Int.neg_one_mul]
end Law
end
section
set_option Elab.async false
set_option linter.all false
set_option maxRecDepth 100000
set_option maxHeartbeats 4000000
namespace Law
open PySem Sh
/-- a fraction in lowest terms -/
def isFr : D → Bool
  | .tup [.int p, .int q] => decide (1 ≤ q) && (((Nat.gcd p.natAbs q.natAbs : Nat) : Int) == 1)
  | _ => false
mutual
def Pl : D → Bool
  | .obj _ => false
  | .ty _ => false
  | .klst _ => false
  | .str s => PyData.strOk s
  | .tup xs => Pls xs
  | .lst xs => Pls xs
  | .non => true
  | .bl _ => true
  | .int i => decide (i.natAbs < 2 ^ 4000)
def Pls : List D → Bool
  | [] => true
  | x :: xs => Pl x && Pls xs
end
theorem Pl.P {x : D} (h : Pl x = true) : isP x = true := by
  cases x <;> first | rfl | (simp [Pl] at h)
theorem len2 {xs : List D} (h : xs.length ≠ 2) : (!((xs.length : Int) == 2)) = true := by
  have : ((xs.length : Int) == 2) = false := by
    rw [beq_eq_false_iff_ne]; omega
  rw [this]; rfl
theorem isfr_ok {x : D} (h : Pl x = true) : d_is_fraction [.d x] = .ok (.d (.bl (isFr x))) [] := by
  cases x with
  | tup xs =>
    by_cases hl : xs.length = 2
    · obtain ⟨y, z, rfl⟩ : ∃ y z, xs = [y, z] := by
        match xs, hl with
        | [y, z], _ => exact ⟨y, z, rfl⟩
      have h : Pl y = true ∧ Pl z = true := by simpa [Pl, Pls] using h
      have hy := isint_ok (Pl.P h.1)
      have hz := isint_ok (Pl.P h.2)
      have e0 : L2.atI [y, z] 0 = some y := rfl
      have e1 : L2.atI [y, z] 1 = some z := rfl
      have i1 : isiV [.d (.tup [y, z]), .d (.ty "tuple")] ⟨[some (.d (.tup [y, z]))], []⟩ = .ok (.d (.bl true)) ⟨[some (.d (.tup [y, z]))], []⟩ := rfl
      have n2 : (((2 : Nat) : Int) == 2) = true := rfl
      rw [d_is_fraction]
      unfold m_is_fraction
      simp only [e_par, e_parK, e_asg, toD_d, e_nameT, e_consT, e_nilT, Option.bind_some, n_nx, n_ct, n_bk, n_ret, e_for, e_itE, e_itA, e_meth, ty_s, e_run1, e_run2, e_run3, e_run4, s_d1, s_d2, s_od, s_oo, s_o1, s_odd, s_t1, s_td, ic_d, ic_o, ic_t, ic_nil, e_argD, e_argDD, List.replicate, Nat.reduceSub, List.length_cons, List.length_nil, bind_ok, bind_exc, bind_bad, e_seq, th_nx, th_ret, th_exc, th_bk, th_ct, e_set, e_setK, e_ret, e_retK, e_drop, e_dropK, e_retN, e_next, e_brk, e_cnt, e_if, e_ifE, e_and, e_or, e_not, onB_t, onB_f, onB_b, e_var, e_varK, e_c, e_bin, e_un, e_call, e_nil, e_cons, e_tup, e_tupK, e_lst, e_lstK, e_newLst, toDs_nil, toDs_d, Option.map_some, e_callV, e_callVT, ar_nil, ar_cons, ar_d, ar_t, e_argKT, af_d, af_new, af_exc, up_nil, up_cons, end_ret, end_exc, end_nx, out_d, v_add, v_sub, v_neg, v_lt, v_le, v_gt, v_ge, v_eqI, v_neI, v_gcd, v_abs, v_max, v_int, v_lenT, v_lenL, List.getElem?_cons_zero, List.getElem?_cons_succ, List.set_cons_zero, List.set_cons_succ, List.take_zero, List.take_nil, Bool.false_eq_true, if_false, if_true, eq_self, decide_true, decide_false, Bool.not_true, Bool.not_false, Nat.reduceAdd, Nat.reduceLeDiff, Nat.reduceLT, List.nil_append, List.cons_append, i1, Sh.v_ixT e0, Sh.v_ixT e1, hy, hz, Nat.reduceAdd, n2]
      cases y with
      | int p =>
        cases z with
        | int q =>
          simp only [hz, isI, e_par, e_parK, e_asg, toD_d, e_nameT, e_consT, e_nilT, Option.bind_some, n_nx, n_ct, n_bk, n_ret, e_for, e_itE, e_itA, e_meth, ty_s, e_run1, e_run2, e_run3, e_run4, s_d1, s_d2, s_od, s_oo, s_o1, s_odd, s_t1, s_td, ic_d, ic_o, ic_t, ic_nil, e_argD, e_argDD, List.replicate, Nat.reduceSub, List.length_cons, List.length_nil, bind_ok, bind_exc, bind_bad, e_seq, th_nx, th_ret, th_exc, th_bk, th_ct, e_set, e_setK, e_ret, e_retK, e_drop, e_dropK, e_retN, e_next, e_brk, e_cnt, e_if, e_ifE, e_and, e_or, e_not, onB_t, onB_f, onB_b, e_var, e_varK, e_c, e_bin, e_un, e_call, e_nil, e_cons, e_tup, e_tupK, e_lst, e_lstK, e_newLst, toDs_nil, toDs_d, Option.map_some, e_callV, e_callVT, ar_nil, ar_cons, ar_d, ar_t, e_argKT, af_d, af_new, af_exc, up_nil, up_cons, end_ret, end_exc, end_nx, out_d, v_add, v_sub, v_neg, v_lt, v_le, v_gt, v_ge, v_eqI, v_neI, v_gcd, v_abs, v_max, v_int, v_lenT, v_lenL, List.getElem?_cons_zero, List.getElem?_cons_succ, List.set_cons_zero, List.set_cons_succ, List.take_zero, List.take_nil, Bool.false_eq_true, if_false, if_true, eq_self, decide_true, decide_false, Bool.not_true, Bool.not_false, Nat.reduceAdd, Nat.reduceLeDiff, Nat.reduceLT, List.nil_append, List.cons_append, Sh.v_ixT e0, Sh.v_ixT e1, isFr]
          by_cases c : (1 : Int) ≤ q
          · simp only [c, e_par, e_parK, e_asg, toD_d, e_nameT, e_consT, e_nilT, Option.bind_some, n_nx, n_ct, n_bk, n_ret, e_for, e_itE, e_itA, e_meth, ty_s, e_run1, e_run2, e_run3, e_run4, s_d1, s_d2, s_od, s_oo, s_o1, s_odd, s_t1, s_td, ic_d, ic_o, ic_t, ic_nil, e_argD, e_argDD, List.replicate, Nat.reduceSub, List.length_cons, List.length_nil, bind_ok, bind_exc, bind_bad, e_seq, th_nx, th_ret, th_exc, th_bk, th_ct, e_set, e_setK, e_ret, e_retK, e_drop, e_dropK, e_retN, e_next, e_brk, e_cnt, e_if, e_ifE, e_and, e_or, e_not, onB_t, onB_f, onB_b, e_var, e_varK, e_c, e_bin, e_un, e_call, e_nil, e_cons, e_tup, e_tupK, e_lst, e_lstK, e_newLst, toDs_nil, toDs_d, Option.map_some, e_callV, e_callVT, ar_nil, ar_cons, ar_d, ar_t, e_argKT, af_d, af_new, af_exc, up_nil, up_cons, end_ret, end_exc, end_nx, out_d, v_add, v_sub, v_neg, v_lt, v_le, v_gt, v_ge, v_eqI, v_neI, v_gcd, v_abs, v_max, v_int, v_lenT, v_lenL, List.getElem?_cons_zero, List.getElem?_cons_succ, List.set_cons_zero, List.set_cons_succ, List.take_zero, List.take_nil, Bool.false_eq_true, if_false, if_true, eq_self, decide_true, decide_false, Bool.not_true, Bool.not_false, Nat.reduceAdd, Nat.reduceLeDiff, Nat.reduceLT, List.nil_append, List.cons_append, Sh.v_ixT e0, Sh.v_ixT e1, Bool.true_and]
          · simp only [c, e_par, e_parK, e_asg, toD_d, e_nameT, e_consT, e_nilT, Option.bind_some, n_nx, n_ct, n_bk, n_ret, e_for, e_itE, e_itA, e_meth, ty_s, e_run1, e_run2, e_run3, e_run4, s_d1, s_d2, s_od, s_oo, s_o1, s_odd, s_t1, s_td, ic_d, ic_o, ic_t, ic_nil, e_argD, e_argDD, List.replicate, Nat.reduceSub, List.length_cons, List.length_nil, bind_ok, bind_exc, bind_bad, e_seq, th_nx, th_ret, th_exc, th_bk, th_ct, e_set, e_setK, e_ret, e_retK, e_drop, e_dropK, e_retN, e_next, e_brk, e_cnt, e_if, e_ifE, e_and, e_or, e_not, onB_t, onB_f, onB_b, e_var, e_varK, e_c, e_bin, e_un, e_call, e_nil, e_cons, e_tup, e_tupK, e_lst, e_lstK, e_newLst, toDs_nil, toDs_d, Option.map_some, e_callV, e_callVT, ar_nil, ar_cons, ar_d, ar_t, e_argKT, af_d, af_new, af_exc, up_nil, up_cons, end_ret, end_exc, end_nx, out_d, v_add, v_sub, v_neg, v_lt, v_le, v_gt, v_ge, v_eqI, v_neI, v_gcd, v_abs, v_max, v_int, v_lenT, v_lenL, List.getElem?_cons_zero, List.getElem?_cons_succ, List.set_cons_zero, List.set_cons_succ, List.take_zero, List.take_nil, Bool.false_eq_true, if_false, if_true, eq_self, decide_true, decide_false, Bool.not_true, Bool.not_false, Nat.reduceAdd, Nat.reduceLeDiff, Nat.reduceLT, List.nil_append, List.cons_append, Bool.false_and]
        | _ => simp only [hz, Sh.v_ixT e0, Sh.v_ixT e1, isI, e_par, e_parK, e_asg, toD_d, e_nameT, e_consT, e_nilT, Option.bind_some, n_nx, n_ct, n_bk, n_ret, e_for, e_itE, e_itA, e_meth, ty_s, e_run1, e_run2, e_run3, e_run4, s_d1, s_d2, s_od, s_oo, s_o1, s_odd, s_t1, s_td, ic_d, ic_o, ic_t, ic_nil, e_argD, e_argDD, List.replicate, Nat.reduceSub, List.length_cons, List.length_nil, bind_ok, bind_exc, bind_bad, e_seq, th_nx, th_ret, th_exc, th_bk, th_ct, e_set, e_setK, e_ret, e_retK, e_drop, e_dropK, e_retN, e_next, e_brk, e_cnt, e_if, e_ifE, e_and, e_or, e_not, onB_t, onB_f, onB_b, e_var, e_varK, e_c, e_bin, e_un, e_call, e_nil, e_cons, e_tup, e_tupK, e_lst, e_lstK, e_newLst, toDs_nil, toDs_d, Option.map_some, e_callV, e_callVT, ar_nil, ar_cons, ar_d, ar_t, e_argKT, af_d, af_new, af_exc, up_nil, up_cons, end_ret, end_exc, end_nx, out_d, v_add, v_sub, v_neg, v_lt, v_le, v_gt, v_ge, v_eqI, v_neI, v_gcd, v_abs, v_max, v_int, v_lenT, v_lenL, List.getElem?_cons_zero, List.getElem?_cons_succ, List.set_cons_zero, List.set_cons_succ, List.take_zero, List.take_nil, Bool.false_eq_true, if_false, if_true, eq_self, decide_true, decide_false, Bool.not_true, Bool.not_false, Nat.reduceAdd, Nat.reduceLeDiff, Nat.reduceLT, List.nil_append, List.cons_append, isFr]
      | _ => simp only [hy, hz, Sh.v_ixT e0, Sh.v_ixT e1, isI, e_par, e_parK, e_asg, toD_d, e_nameT, e_consT, e_nilT, Option.bind_some, n_nx, n_ct, n_bk, n_ret, e_for, e_itE, e_itA, e_meth, ty_s, e_run1, e_run2, e_run3, e_run4, s_d1, s_d2, s_od, s_oo, s_o1, s_odd, s_t1, s_td, ic_d, ic_o, ic_t, ic_nil, e_argD, e_argDD, List.replicate, Nat.reduceSub, List.length_cons, List.length_nil, bind_ok, bind_exc, bind_bad, e_seq, th_nx, th_ret, th_exc, th_bk, th_ct, e_set, e_setK, e_ret, e_retK, e_drop, e_dropK, e_retN, e_next, e_brk, e_cnt, e_if, e_ifE, e_and, e_or, e_not, onB_t, onB_f, onB_b, e_var, e_varK, e_c, e_bin, e_un, e_call, e_nil, e_cons, e_tup, e_tupK, e_lst, e_lstK, e_newLst, toDs_nil, toDs_d, Option.map_some, e_callV, e_callVT, ar_nil, ar_cons, ar_d, ar_t, e_argKT, af_d, af_new, af_exc, up_nil, up_cons, end_ret, end_exc, end_nx, out_d, v_add, v_sub, v_neg, v_lt, v_le, v_gt, v_ge, v_eqI, v_neI, v_gcd, v_abs, v_max, v_int, v_lenT, v_lenL, List.getElem?_cons_zero, List.getElem?_cons_succ, List.set_cons_zero, List.set_cons_succ, List.take_zero, List.take_nil, Bool.false_eq_true, if_false, if_true, eq_self, decide_true, decide_false, Bool.not_true, Bool.not_false, Nat.reduceAdd, Nat.reduceLeDiff, Nat.reduceLT, List.nil_append, List.cons_append, isFr]
    · have i1 : isiV [.d (.tup xs), .d (.ty "tuple")] ⟨[some (.d (.tup xs))], []⟩ = .ok (.d (.bl true)) ⟨[some (.d (.tup xs))], []⟩ := rfl
      have e : isFr (.tup xs) = false := by
        match xs, hl with
        | [], _ => rfl
        | [_], _ => simp [isFr]
        | [_, _], hl => simp at hl
        | _ :: _ :: _ :: _, _ => simp [isFr]
      rw [d_is_fraction, e]
      unfold m_is_fraction
      simp only [e_par, e_parK, e_asg, toD_d, e_nameT, e_consT, e_nilT, Option.bind_some, n_nx, n_ct, n_bk, n_ret, e_for, e_itE, e_itA, e_meth, ty_s, e_run1, e_run2, e_run3, e_run4, s_d1, s_d2, s_od, s_oo, s_o1, s_odd, s_t1, s_td, ic_d, ic_o, ic_t, ic_nil, e_argD, e_argDD, List.replicate, Nat.reduceSub, List.length_cons, List.length_nil, bind_ok, bind_exc, bind_bad, e_seq, th_nx, th_ret, th_exc, th_bk, th_ct, e_set, e_setK, e_ret, e_retK, e_drop, e_dropK, e_retN, e_next, e_brk, e_cnt, e_if, e_ifE, e_and, e_or, e_not, onB_t, onB_f, onB_b, e_var, e_varK, e_c, e_bin, e_un, e_call, e_nil, e_cons, e_tup, e_tupK, e_lst, e_lstK, e_newLst, toDs_nil, toDs_d, Option.map_some, e_callV, e_callVT, ar_nil, ar_cons, ar_d, ar_t, e_argKT, af_d, af_new, af_exc, up_nil, up_cons, end_ret, end_exc, end_nx, out_d, v_add, v_sub, v_neg, v_lt, v_le, v_gt, v_ge, v_eqI, v_neI, v_gcd, v_abs, v_max, v_int, v_lenT, v_lenL, List.getElem?_cons_zero, List.getElem?_cons_succ, List.set_cons_zero, List.set_cons_succ, List.take_zero, List.take_nil, Bool.false_eq_true, if_false, if_true, eq_self, decide_true, decide_false, Bool.not_true, Bool.not_false, Nat.reduceAdd, Nat.reduceLeDiff, Nat.reduceLT, List.nil_append, List.cons_append, i1, len2 hl]
  | _ => first | rfl | (simp [Pl] at h)
theorem made_ok {x : D} (h : Pl x = true) : d_made_fraction [.d x] = if isFr x then .ok (.d x) [] else .exc "BadFraction" (.int 0) [] := by
  rw [d_made_fraction]
  unfold m_made_fraction
  simp only [e_par, e_parK, e_asg, toD_d, e_nameT, e_consT, e_nilT, Option.bind_some, n_nx, n_ct, n_bk, n_ret, e_for, e_itE, e_itA, e_meth, ty_s, e_run1, e_run2, e_run3, e_run4, s_d1, s_d2, s_od, s_oo, s_o1, s_odd, s_t1, s_td, ic_d, ic_o, ic_t, ic_nil, e_argD, e_argDD, List.replicate, Nat.reduceSub, List.length_cons, List.length_nil, bind_ok, bind_exc, bind_bad, e_seq, th_nx, th_ret, th_exc, th_bk, th_ct, e_set, e_setK, e_ret, e_retK, e_drop, e_dropK, e_retN, e_next, e_brk, e_cnt, e_if, e_ifE, e_and, e_or, e_not, onB_t, onB_f, onB_b, e_var, e_varK, e_c, e_bin, e_un, e_call, e_nil, e_cons, e_tup, e_tupK, e_lst, e_lstK, e_newLst, toDs_nil, toDs_d, Option.map_some, e_callV, e_callVT, ar_nil, ar_cons, ar_d, ar_t, e_argKT, af_d, af_new, af_exc, up_nil, up_cons, end_ret, end_exc, end_nx, out_d, v_add, v_sub, v_neg, v_lt, v_le, v_gt, v_ge, v_eqI, v_neI, v_gcd, v_abs, v_max, v_int, v_lenT, v_lenL, List.getElem?_cons_zero, List.getElem?_cons_succ, List.set_cons_zero, List.set_cons_succ, List.take_zero, List.take_nil, Bool.false_eq_true, if_false, if_true, eq_self, decide_true, decide_false, Bool.not_true, Bool.not_false, Nat.reduceAdd, Nat.reduceLeDiff, Nat.reduceLT, List.nil_append, List.cons_append, isfr_ok h, Bool.not_eq_true]
  cases hx : isFr x
  · rfl
  · rfl
end Law
end
section
set_option Elab.async false
set_option linter.all false
set_option maxRecDepth 100000
set_option maxHeartbeats 4000000
namespace Law
open PySem Sh
theorem notwhole (s0 s1 : Option Val) (all : List D) : ∀ r : List D, Pls r = true →
    compL (nameT 1) (notE (callE (callV d__law_wb_is_whole) [(varE 1)])) (varE 1) [1] [s0, s1] none all r ⟨[s0, s1], []⟩ = .ok (r.filter fun y => !isI y) ⟨[s0, s1], []⟩
  | [], _ => c_nil gd_none
  | x :: r, h => by
    have h : Pl x = true ∧ Pls r = true := by simpa [Pls] using h
    have hw := whole_ok (Pl.P h.1)
    have ih := notwhole s0 s1 all r h.2
    cases hi : isI x with
    | true =>
      rw [hi] at hw
      rw [c_no gd_none e_nameT (st2 := ⟨[s0, some (.d x)], []⟩) (by simp only [wipeV, e_par, e_parK, e_asg, toD_d, e_nameT, e_consT, e_nilT, Option.bind_some, n_nx, n_ct, n_bk, n_ret, e_for, e_itE, e_itA, e_meth, ty_s, e_run1, e_run2, e_run3, e_run4, s_d1, s_d2, s_od, s_oo, s_o1, s_odd, s_t1, s_td, ic_d, ic_o, ic_t, ic_nil, e_argD, e_argDD, List.replicate, Nat.reduceSub, List.length_cons, List.length_nil, bind_ok, bind_exc, bind_bad, e_seq, th_nx, th_ret, th_exc, th_bk, th_ct, e_set, e_setK, e_ret, e_retK, e_drop, e_dropK, e_retN, e_next, e_brk, e_cnt, e_if, e_ifE, e_and, e_or, e_not, onB_t, onB_f, onB_b, e_var, e_varK, e_c, e_bin, e_un, e_call, e_nil, e_cons, e_tup, e_tupK, e_lst, e_lstK, e_newLst, toDs_nil, toDs_d, Option.map_some, e_callV, e_callVT, ar_nil, ar_cons, ar_d, ar_t, e_argKT, af_d, af_new, af_exc, up_nil, up_cons, end_ret, end_exc, end_nx, out_d, v_add, v_sub, v_neg, v_lt, v_le, v_gt, v_ge, v_eqI, v_neI, v_gcd, v_abs, v_max, v_int, v_lenT, v_lenL, List.getElem?_cons_zero, List.getElem?_cons_succ, List.set_cons_zero, List.set_cons_succ, List.take_zero, List.take_nil, Bool.false_eq_true, if_false, if_true, eq_self, decide_true, decide_false, Bool.not_true, Bool.not_false, Nat.reduceAdd, Nat.reduceLeDiff, Nat.reduceLT, List.nil_append, List.cons_append, hw])]
      rw [ih]
      simp only [List.filter_cons, hi, Bool.not_true, Bool.false_eq_true, if_false]
    | false =>
      rw [hi] at hw
      rw [c_yes (v := .d x) (st3 := ⟨[s0, some (.d x)], []⟩) gd_none e_nameT (st2 := ⟨[s0, some (.d x)], []⟩) (by simp only [wipeV, e_par, e_parK, e_asg, toD_d, e_nameT, e_consT, e_nilT, Option.bind_some, n_nx, n_ct, n_bk, n_ret, e_for, e_itE, e_itA, e_meth, ty_s, e_run1, e_run2, e_run3, e_run4, s_d1, s_d2, s_od, s_oo, s_o1, s_odd, s_t1, s_td, ic_d, ic_o, ic_t, ic_nil, e_argD, e_argDD, List.replicate, Nat.reduceSub, List.length_cons, List.length_nil, bind_ok, bind_exc, bind_bad, e_seq, th_nx, th_ret, th_exc, th_bk, th_ct, e_set, e_setK, e_ret, e_retK, e_drop, e_dropK, e_retN, e_next, e_brk, e_cnt, e_if, e_ifE, e_and, e_or, e_not, onB_t, onB_f, onB_b, e_var, e_varK, e_c, e_bin, e_un, e_call, e_nil, e_cons, e_tup, e_tupK, e_lst, e_lstK, e_newLst, toDs_nil, toDs_d, Option.map_some, e_callV, e_callVT, ar_nil, ar_cons, ar_d, ar_t, e_argKT, af_d, af_new, af_exc, up_nil, up_cons, end_ret, end_exc, end_nx, out_d, v_add, v_sub, v_neg, v_lt, v_le, v_gt, v_ge, v_eqI, v_neI, v_gcd, v_abs, v_max, v_int, v_lenT, v_lenL, List.getElem?_cons_zero, List.getElem?_cons_succ, List.set_cons_zero, List.set_cons_succ, List.take_zero, List.take_nil, Bool.false_eq_true, if_false, if_true, eq_self, decide_true, decide_false, Bool.not_true, Bool.not_false, Nat.reduceAdd, Nat.reduceLeDiff, Nat.reduceLT, List.nil_append, List.cons_append, hw]) (by simp only [e_par, e_parK, e_asg, toD_d, e_nameT, e_consT, e_nilT, Option.bind_some, n_nx, n_ct, n_bk, n_ret, e_for, e_itE, e_itA, e_meth, ty_s, e_run1, e_run2, e_run3, e_run4, s_d1, s_d2, s_od, s_oo, s_o1, s_odd, s_t1, s_td, ic_d, ic_o, ic_t, ic_nil, e_argD, e_argDD, List.replicate, Nat.reduceSub, List.length_cons, List.length_nil, bind_ok, bind_exc, bind_bad, e_seq, th_nx, th_ret, th_exc, th_bk, th_ct, e_set, e_setK, e_ret, e_retK, e_drop, e_dropK, e_retN, e_next, e_brk, e_cnt, e_if, e_ifE, e_and, e_or, e_not, onB_t, onB_f, onB_b, e_var, e_varK, e_c, e_bin, e_un, e_call, e_nil, e_cons, e_tup, e_tupK, e_lst, e_lstK, e_newLst, toDs_nil, toDs_d, Option.map_some, e_callV, e_callVT, ar_nil, ar_cons, ar_d, ar_t, e_argKT, af_d, af_new, af_exc, up_nil, up_cons, end_ret, end_exc, end_nx, out_d, v_add, v_sub, v_neg, v_lt, v_le, v_gt, v_ge, v_eqI, v_neI, v_gcd, v_abs, v_max, v_int, v_lenT, v_lenL, List.getElem?_cons_zero, List.getElem?_cons_succ, List.set_cons_zero, List.set_cons_succ, List.take_zero, List.take_nil, Bool.false_eq_true, if_false, if_true, eq_self, decide_true, decide_false, Bool.not_true, Bool.not_false, Nat.reduceAdd, Nat.reduceLeDiff, Nat.reduceLT, List.nil_append, List.cons_append]) toD_d]
      rw [ih]
      simp only [List.filter_cons, hi, Bool.not_false, if_true, bind_ok]
theorem wfil {p : D → Bool} : ∀ {xs : List D}, wfs xs = true → wfs (xs.filter p) = true
  | [], _ => rfl
  | x :: r, h => by
    have h : wf x = true ∧ wfs r = true := by simpa [wfs] using h
    rw [List.filter_cons]
    split
    · simp [wfs, h.1, wfil h.2]
    · exact wfil h.2
theorem dfil {p : D → Bool} : ∀ {xs : List D}, deps (xs.filter p) ≤ deps xs
  | [] => Nat.le_refl _
  | x :: r => by
    have := dfil (p := p) (xs := r)
    rw [List.filter_cons]
    split
    · simp only [deps]; omega
    · simp only [deps]; omega
mutual
theorem Pl.wf : ∀ {x : D}, Pl x = true → Sh.wf x = true
  | .non, _ => rfl
  | .bl _, _ => rfl
  | .int _, _ => rfl
  | .str s, h => by simpa [Pl, Sh.wf] using h
  | .tup xs, h => by simp only [Sh.wf]; exact Pls.wf (by simpa [Pl] using h)
  | .lst xs, h => by simp only [Sh.wf]; exact Pls.wf (by simpa [Pl] using h)
  | .klst xs, h => by simp [Pl] at h
  | .obj _, h => by simp [Pl] at h
  | .ty _, h => by simp [Pl] at h
theorem Pls.wf : ∀ {xs : List D}, Pls xs = true → wfs xs = true
  | [], _ => rfl
  | x :: r, h => by
    have h : Pl x = true ∧ Pls r = true := by simpa [Pls] using h
    simp [wfs, Pl.wf h.1, Pls.wf h.2]
end
theorem okD_of {x : D} (h : Pl x = true) (d : dep x ≤ 60) : okD x = true := by
  unfold okD
  rw [Pl.wf h, Bool.true_and]; exact decide_eq_true d
theorem wbfr_ok {x : D} (h : Pl x = true) (hd : dep x ≤ 50) (hn : ∀ xs, x = .tup xs → xs.length ≤ 1000000) : d__law_wb_is_fraction [.d x] = .ok (.d (.bl (isFr x))) [] := by
  cases x with
  | tup xs =>
    have hp : Pls xs = true := by simpa [Pl] using h
    have i1 : ∀ st, isiV [.d (.tup xs), .d (.ty "tuple")] st = .ok (.d (.bl true)) st := fun _ => rfl
    by_cases hl : xs.length = 2
    · have n2 : (((2 : Nat) : Int) == 2) = true := rfl
      have e1 := notwhole (some (.d (.tup xs))) none xs xs hp
      have o1 : okD (.lst (xs.filter fun y => !isI y)) = true := by
        unfold okD
        have := dfil (p := fun y => !isI y) (xs := xs)
        have hd : deps xs + 1 ≤ 50 := by simpa [dep] using hd
        rw [Bool.and_eq_true, decide_eq_true_eq]
        exact ⟨by simpa [Sh.wf] using wfil (Pls.wf hp), by simp only [dep]; omega⟩
      have h3 : xs.length ≤ 1000000 := hn xs rfl
      obtain ⟨y, z, rfl⟩ : ∃ y z, xs = [y, z] := by
        match xs, hl with
        | [y, z], _ => exact ⟨y, z, rfl⟩
      have hyz : Pl y = true ∧ Pl z = true := by simpa [Pl, Pls] using h
      have e0 : L2.atI [y, z] 0 = some y := rfl
      have e2 : L2.atI [y, z] 1 = some z := rfl
      rw [d__law_wb_is_fraction]
      unfold m__law_wb_is_fraction
      simp only [e_par, e_parK, e_asg, toD_d, e_nameT, e_consT, e_nilT, Option.bind_some, n_nx, n_ct, n_bk, n_ret, e_for, e_itE, e_itA, e_meth, ty_s, e_run1, e_run2, e_run3, e_run4, s_d1, s_d2, s_od, s_oo, s_o1, s_odd, s_t1, s_td, ic_d, ic_o, ic_t, ic_nil, e_argD, e_argDD, List.replicate, Nat.reduceSub, List.length_cons, List.length_nil, bind_ok, bind_exc, bind_bad, e_seq, th_nx, th_ret, th_exc, th_bk, th_ct, e_set, e_setK, e_ret, e_retK, e_drop, e_dropK, e_retN, e_next, e_brk, e_cnt, e_if, e_ifE, e_and, e_or, e_not, onB_t, onB_f, onB_b, e_var, e_varK, e_c, e_bin, e_un, e_call, e_nil, e_cons, e_tup, e_tupK, e_lst, e_lstK, e_newLst, toDs_nil, toDs_d, Option.map_some, e_callV, e_callVT, ar_nil, ar_cons, ar_d, ar_t, e_argKT, af_d, af_new, af_exc, up_nil, up_cons, end_ret, end_exc, end_nx, out_d, v_add, v_sub, v_neg, v_lt, v_le, v_gt, v_ge, v_eqI, v_neI, v_gcd, v_abs, v_max, v_int, v_lenT, v_lenL, List.getElem?_cons_zero, List.getElem?_cons_succ, List.set_cons_zero, List.set_cons_succ, List.take_zero, List.take_nil, Bool.false_eq_true, if_false, if_true, eq_self, decide_true, decide_false, Bool.not_true, Bool.not_false, Nat.reduceAdd, Nat.reduceLeDiff, Nat.reduceLT, List.nil_append, List.cons_append, i1, hl, n2, e_comp, v_itT, h3, e1]
      rw [v_eq (x := .lst ([y, z].filter fun y => !isI y)) (y := .lst []) (dOf_c (cl := .own ([y, z].filter fun y => !isI y)) rfl) (dOf_c (cl := .own []) rfl) o1 rfl]
      cases y with
      | int p =>
        cases z with
        | int q =>
          have hq : Sm q := by simpa [Pl, Sm] using hyz.2
          simp only [List.filter, isI, eqD, eqDs, e_par, e_parK, e_asg, toD_d, e_nameT, e_consT, e_nilT, Option.bind_some, n_nx, n_ct, n_bk, n_ret, e_for, e_itE, e_itA, e_meth, ty_s, e_run1, e_run2, e_run3, e_run4, s_d1, s_d2, s_od, s_oo, s_o1, s_odd, s_t1, s_td, ic_d, ic_o, ic_t, ic_nil, e_argD, e_argDD, List.replicate, Nat.reduceSub, List.length_cons, List.length_nil, bind_ok, bind_exc, bind_bad, e_seq, th_nx, th_ret, th_exc, th_bk, th_ct, e_set, e_setK, e_ret, e_retK, e_drop, e_dropK, e_retN, e_next, e_brk, e_cnt, e_if, e_ifE, e_and, e_or, e_not, onB_t, onB_f, onB_b, e_var, e_varK, e_c, e_bin, e_un, e_call, e_nil, e_cons, e_tup, e_tupK, e_lst, e_lstK, e_newLst, toDs_nil, toDs_d, Option.map_some, e_callV, e_callVT, ar_nil, ar_cons, ar_d, ar_t, e_argKT, af_d, af_new, af_exc, up_nil, up_cons, end_ret, end_exc, end_nx, out_d, v_add, v_sub, v_neg, v_lt, v_le, v_gt, v_ge, v_eqI, v_neI, v_gcd, v_abs, v_max, v_int, v_lenT, v_lenL, List.getElem?_cons_zero, List.getElem?_cons_succ, List.set_cons_zero, List.set_cons_succ, List.take_zero, List.take_nil, Bool.false_eq_true, if_false, if_true, eq_self, decide_true, decide_false, Bool.not_true, Bool.not_false, Nat.reduceAdd, Nat.reduceLeDiff, Nat.reduceLT, List.nil_append, List.cons_append, Sh.v_ixT e0, Sh.v_ixT e2, isFr, List.nil_append, gcd_ok hq]
          by_cases c : (1 : Int) ≤ q
          · have c2 : (0 : Int) < q := by omega
            simp only [c, c2, e_par, e_parK, e_asg, toD_d, e_nameT, e_consT, e_nilT, Option.bind_some, n_nx, n_ct, n_bk, n_ret, e_for, e_itE, e_itA, e_meth, ty_s, e_run1, e_run2, e_run3, e_run4, s_d1, s_d2, s_od, s_oo, s_o1, s_odd, s_t1, s_td, ic_d, ic_o, ic_t, ic_nil, e_argD, e_argDD, List.replicate, Nat.reduceSub, List.length_cons, List.length_nil, bind_ok, bind_exc, bind_bad, e_seq, th_nx, th_ret, th_exc, th_bk, th_ct, e_set, e_setK, e_ret, e_retK, e_drop, e_dropK, e_retN, e_next, e_brk, e_cnt, e_if, e_ifE, e_and, e_or, e_not, onB_t, onB_f, onB_b, e_var, e_varK, e_c, e_bin, e_un, e_call, e_nil, e_cons, e_tup, e_tupK, e_lst, e_lstK, e_newLst, toDs_nil, toDs_d, Option.map_some, e_callV, e_callVT, ar_nil, ar_cons, ar_d, ar_t, e_argKT, af_d, af_new, af_exc, up_nil, up_cons, end_ret, end_exc, end_nx, out_d, v_add, v_sub, v_neg, v_lt, v_le, v_gt, v_ge, v_eqI, v_neI, v_gcd, v_abs, v_max, v_int, v_lenT, v_lenL, List.getElem?_cons_zero, List.getElem?_cons_succ, List.set_cons_zero, List.set_cons_succ, List.take_zero, List.take_nil, Bool.false_eq_true, if_false, if_true, eq_self, decide_true, decide_false, Bool.not_true, Bool.not_false, Nat.reduceAdd, Nat.reduceLeDiff, Nat.reduceLT, List.nil_append, List.cons_append, Sh.v_ixT e0, Sh.v_ixT e2, Bool.true_and, gcd_ok hq]
          · have c2 : ¬ (0 : Int) < q := by omega
            simp only [c, c2, e_par, e_parK, e_asg, toD_d, e_nameT, e_consT, e_nilT, Option.bind_some, n_nx, n_ct, n_bk, n_ret, e_for, e_itE, e_itA, e_meth, ty_s, e_run1, e_run2, e_run3, e_run4, s_d1, s_d2, s_od, s_oo, s_o1, s_odd, s_t1, s_td, ic_d, ic_o, ic_t, ic_nil, e_argD, e_argDD, List.replicate, Nat.reduceSub, List.length_cons, List.length_nil, bind_ok, bind_exc, bind_bad, e_seq, th_nx, th_ret, th_exc, th_bk, th_ct, e_set, e_setK, e_ret, e_retK, e_drop, e_dropK, e_retN, e_next, e_brk, e_cnt, e_if, e_ifE, e_and, e_or, e_not, onB_t, onB_f, onB_b, e_var, e_varK, e_c, e_bin, e_un, e_call, e_nil, e_cons, e_tup, e_tupK, e_lst, e_lstK, e_newLst, toDs_nil, toDs_d, Option.map_some, e_callV, e_callVT, ar_nil, ar_cons, ar_d, ar_t, e_argKT, af_d, af_new, af_exc, up_nil, up_cons, end_ret, end_exc, end_nx, out_d, v_add, v_sub, v_neg, v_lt, v_le, v_gt, v_ge, v_eqI, v_neI, v_gcd, v_abs, v_max, v_int, v_lenT, v_lenL, List.getElem?_cons_zero, List.getElem?_cons_succ, List.set_cons_zero, List.set_cons_succ, List.take_zero, List.take_nil, Bool.false_eq_true, if_false, if_true, eq_self, decide_true, decide_false, Bool.not_true, Bool.not_false, Nat.reduceAdd, Nat.reduceLeDiff, Nat.reduceLT, List.nil_append, List.cons_append, Bool.false_and]
        | _ => simp only [List.filter, isI, eqD, eqDs, e_par, e_parK, e_asg, toD_d, e_nameT, e_consT, e_nilT, Option.bind_some, n_nx, n_ct, n_bk, n_ret, e_for, e_itE, e_itA, e_meth, ty_s, e_run1, e_run2, e_run3, e_run4, s_d1, s_d2, s_od, s_oo, s_o1, s_odd, s_t1, s_td, ic_d, ic_o, ic_t, ic_nil, e_argD, e_argDD, List.replicate, Nat.reduceSub, List.length_cons, List.length_nil, bind_ok, bind_exc, bind_bad, e_seq, th_nx, th_ret, th_exc, th_bk, th_ct, e_set, e_setK, e_ret, e_retK, e_drop, e_dropK, e_retN, e_next, e_brk, e_cnt, e_if, e_ifE, e_and, e_or, e_not, onB_t, onB_f, onB_b, e_var, e_varK, e_c, e_bin, e_un, e_call, e_nil, e_cons, e_tup, e_tupK, e_lst, e_lstK, e_newLst, toDs_nil, toDs_d, Option.map_some, e_callV, e_callVT, ar_nil, ar_cons, ar_d, ar_t, e_argKT, af_d, af_new, af_exc, up_nil, up_cons, end_ret, end_exc, end_nx, out_d, v_add, v_sub, v_neg, v_lt, v_le, v_gt, v_ge, v_eqI, v_neI, v_gcd, v_abs, v_max, v_int, v_lenT, v_lenL, List.getElem?_cons_zero, List.getElem?_cons_succ, List.set_cons_zero, List.set_cons_succ, List.take_zero, List.take_nil, Bool.false_eq_true, if_false, if_true, eq_self, decide_true, decide_false, Bool.not_true, Bool.not_false, Nat.reduceAdd, Nat.reduceLeDiff, Nat.reduceLT, List.nil_append, List.cons_append, isFr]
      | _ => cases z <;> simp only [List.filter, isI, eqD, eqDs, e_par, e_parK, e_asg, toD_d, e_nameT, e_consT, e_nilT, Option.bind_some, n_nx, n_ct, n_bk, n_ret, e_for, e_itE, e_itA, e_meth, ty_s, e_run1, e_run2, e_run3, e_run4, s_d1, s_d2, s_od, s_oo, s_o1, s_odd, s_t1, s_td, ic_d, ic_o, ic_t, ic_nil, e_argD, e_argDD, List.replicate, Nat.reduceSub, List.length_cons, List.length_nil, bind_ok, bind_exc, bind_bad, e_seq, th_nx, th_ret, th_exc, th_bk, th_ct, e_set, e_setK, e_ret, e_retK, e_drop, e_dropK, e_retN, e_next, e_brk, e_cnt, e_if, e_ifE, e_and, e_or, e_not, onB_t, onB_f, onB_b, e_var, e_varK, e_c, e_bin, e_un, e_call, e_nil, e_cons, e_tup, e_tupK, e_lst, e_lstK, e_newLst, toDs_nil, toDs_d, Option.map_some, e_callV, e_callVT, ar_nil, ar_cons, ar_d, ar_t, e_argKT, af_d, af_new, af_exc, up_nil, up_cons, end_ret, end_exc, end_nx, out_d, v_add, v_sub, v_neg, v_lt, v_le, v_gt, v_ge, v_eqI, v_neI, v_gcd, v_abs, v_max, v_int, v_lenT, v_lenL, List.getElem?_cons_zero, List.getElem?_cons_succ, List.set_cons_zero, List.set_cons_succ, List.take_zero, List.take_nil, Bool.false_eq_true, if_false, if_true, eq_self, decide_true, decide_false, Bool.not_true, Bool.not_false, Nat.reduceAdd, Nat.reduceLeDiff, Nat.reduceLT, List.nil_append, List.cons_append, isFr]
    · have e : isFr (.tup xs) = false := by
        match xs, hl with
        | [], _ => rfl
        | [_], _ => simp [isFr]
        | [_, _], hl => simp at hl
        | _ :: _ :: _ :: _, _ => simp [isFr]
      rw [d__law_wb_is_fraction, e]
      unfold m__law_wb_is_fraction
      simp only [e_par, e_parK, e_asg, toD_d, e_nameT, e_consT, e_nilT, Option.bind_some, n_nx, n_ct, n_bk, n_ret, e_for, e_itE, e_itA, e_meth, ty_s, e_run1, e_run2, e_run3, e_run4, s_d1, s_d2, s_od, s_oo, s_o1, s_odd, s_t1, s_td, ic_d, ic_o, ic_t, ic_nil, e_argD, e_argDD, List.replicate, Nat.reduceSub, List.length_cons, List.length_nil, bind_ok, bind_exc, bind_bad, e_seq, th_nx, th_ret, th_exc, th_bk, th_ct, e_set, e_setK, e_ret, e_retK, e_drop, e_dropK, e_retN, e_next, e_brk, e_cnt, e_if, e_ifE, e_and, e_or, e_not, onB_t, onB_f, onB_b, e_var, e_varK, e_c, e_bin, e_un, e_call, e_nil, e_cons, e_tup, e_tupK, e_lst, e_lstK, e_newLst, toDs_nil, toDs_d, Option.map_some, e_callV, e_callVT, ar_nil, ar_cons, ar_d, ar_t, e_argKT, af_d, af_new, af_exc, up_nil, up_cons, end_ret, end_exc, end_nx, out_d, v_add, v_sub, v_neg, v_lt, v_le, v_gt, v_ge, v_eqI, v_neI, v_gcd, v_abs, v_max, v_int, v_lenT, v_lenL, List.getElem?_cons_zero, List.getElem?_cons_succ, List.set_cons_zero, List.set_cons_succ, List.take_zero, List.take_nil, Bool.false_eq_true, if_false, if_true, eq_self, decide_true, decide_false, Bool.not_true, Bool.not_false, Nat.reduceAdd, Nat.reduceLeDiff, Nat.reduceLT, List.nil_append, List.cons_append, i1, len2 hl]
  | _ => first | rfl | (simp [Pl] at h)
end Law
end
section
set_option Elab.async false
set_option linter.all false
set_option maxRecDepth 100000
set_option maxHeartbeats 4000000
namespace Law
open PySem Sh
/-! ### same(x, x) -/
def pairs (zs : List D) : List D := zs.map fun y => .tup [y, y]
def kids : D → List D
  | .tup ys => ys
  | .lst ys => ys
  | _ => []
def Gd (y : D) : Prop := Pl y = true ∧ dep y ≤ 50
def sTest : S → OE := bin2 (eqV true) (varE 2) (lstE [])
def sPop : S → OS := asgS (tupT 2 (consT (nameT 3) (consT (nameT 4) nilT))) (methE "list" popV (varE 2) [])
def sMid : S → OS := (ifS (bin2 (isNV false) (varE 4) (cE .non)) (setS 5 (bin2 (isNV false) (varE 3) (cE .non))) (ifS (callE isiV [(varE 4), (cE (.ty "bool"))]) (setS 5 (andE (callE isiV [(varE 3), (cE (.ty "bool"))]) (bin2 (eqV false) (varE 3) (varE 4)))) (ifS (callE isiV [(varE 4), (cE (.ty "int"))]) (setS 5 (andE (callE (callV d__law_wb_is_whole) [(varE 3)]) (bin2 (eqV false) (varE 3) (varE 4)))) (ifS (callE isiV [(varE 4), (cE (.ty "str"))]) (setS 5 (andE (callE isiV [(varE 3), (cE (.ty "str"))]) (bin2 (eqV false) (varE 3) (varE 4)))) (seqS (setS 5 (ifE (callE isiV [(varE 4), (cE (.ty "tuple"))]) (callE isiV [(varE 3), (cE (.ty "tuple"))]) (callE isiV [(varE 3), (cE (.ty "list"))])))
  (seqS (setS 5 (andE (varE 5) (bin2 (eqV false) (callE lenV [(varE 3)]) (callE lenV [(varE 4)]))))
  (dropS (methE "list" extV (varE 2) [(ifE (varE 5) (compE (itA rng1V [(callE lenV [(varE 4)])]) (nameT 6) (cE (.bl true)) (tupE [(bin2 ixV (varE 3) (varE 6)), (bin2 ixV (varE 4) (varE 6))]) [6]) (lstE []))]))))))))
def sEnd : S → OS := ifS (notE (varE 5)) (retS (cE (.bl false))) nextS
def sBody : S → OS := seqS sPop (seqS sMid sEnd)
theorem same_is (fu : Nat) : m__law_wb_same fu = seqS (setS 2 (lstE [(tupE [(varE 0), (varE 1)])])) (seqS (whileS sTest sBody fu) (retS (cE (.bl true)))) := rfl
theorem deps_le {zs : List D} {n : Nat} (h : ∀ y ∈ zs, dep y ≤ n) : deps zs ≤ n := by
  induction zs with
  | nil => exact Nat.zero_le _
  | cons x r ih =>
    have h1 := h x List.mem_cons_self
    have h2 := ih fun y hy => h y (List.mem_cons_of_mem _ hy)
    simp only [deps]; omega
theorem dep_mem {zs : List D} {y : D} (h : y ∈ zs) : dep y ≤ deps zs := by
  induction zs with
  | nil => cases h
  | cons x r ih =>
    simp only [deps]
    rcases List.mem_cons.mp h with rfl | h
    · omega
    · have := ih h; omega
theorem Pls_mem {zs : List D} (h : Pls zs = true) : ∀ y ∈ zs, Pl y = true := by
  induction zs with
  | nil => intro y hy; cases hy
  | cons x r ih =>
    have h : Pl x = true ∧ Pls r = true := by simpa [Pls] using h
    intro y hy
    rcases List.mem_cons.mp hy with rfl | hy
    · exact h.1
    · exact ih h.2 y hy
theorem Pls_of {zs : List D} (h : ∀ y ∈ zs, Pl y = true) : Pls zs = true := by
  induction zs with
  | nil => rfl
  | cons x r ih =>
    rw [Pls, h x List.mem_cons_self, ih fun y hy => h y (List.mem_cons_of_mem _ hy)]; rfl
theorem pairs_ok {zs : List D} (h : ∀ y ∈ zs, Gd y) : okD (.lst (pairs zs)) = true := by
  unfold okD
  rw [Bool.and_eq_true, decide_eq_true_eq]
  refine ⟨?_, ?_⟩
  · simp only [Sh.wf]
    refine Pls.wf (Pls_of fun y hy => ?_)
    obtain ⟨z, hz, rfl⟩ := List.mem_map.mp hy
    simp [Pl, Pls, (h z hz).1]
  · have : deps (pairs zs) ≤ 51 := deps_le fun y hy => by
      obtain ⟨z, hz, rfl⟩ := List.mem_map.mp hy
      have := (h z hz).2
      simp only [dep, deps]; omega
    simp only [dep]; omega
theorem s_test {zs : List D} {k : Nat} {h o s3 s4 s5 s6 : Option Val} {cs : List Cell} (hc : cs[k]? = some (.own (pairs zs))) (hz : ∀ y ∈ zs, Gd y) :
    sTest ⟨[h, o, some (.c k), s3, s4, s5, s6], cs⟩ = .ok (.d (.bl (!zs.isEmpty))) ⟨[h, o, some (.c k), s3, s4, s5, s6], cs ++ [.own []]⟩ := by
  have hk : k < cs.length := (List.getElem?_eq_some_iff.mp hc).1
  have e1 : (cs ++ [Cell.own []])[k]? = some (.own (pairs zs)) := by rw [List.getElem?_append_left hk]; exact hc
  have e2 : (cs ++ [Cell.own []])[cs.length]? = some (.own []) := by rw [List.getElem?_append_right (Nat.le_refl _), Nat.sub_self]; rfl
  unfold sTest
  simp only [e_par, e_parK, e_asg, toD_d, e_nameT, e_consT, e_nilT, Option.bind_some, n_nx, n_ct, n_bk, n_ret, e_for, e_itE, e_itA, e_meth, ty_s, e_run1, e_run2, e_run3, e_run4, s_d1, s_d2, s_od, s_oo, s_o1, s_odd, s_t1, s_td, ic_d, ic_o, ic_t, ic_nil, e_argD, e_argDD, List.replicate, Nat.reduceSub, List.length_cons, List.length_nil, bind_ok, bind_exc, bind_bad, e_seq, th_nx, th_ret, th_exc, th_bk, th_ct, e_set, e_setK, e_ret, e_retK, e_drop, e_dropK, e_retN, e_next, e_brk, e_cnt, e_if, e_ifE, e_and, e_or, e_not, onB_t, onB_f, onB_b, e_var, e_varK, e_c, e_bin, e_un, e_call, e_nil, e_cons, e_tup, e_tupK, e_lst, e_lstK, e_newLst, toDs_nil, toDs_d, Option.map_some, e_callV, e_callVT, ar_nil, ar_cons, ar_d, ar_t, e_argKT, af_d, af_new, af_exc, up_nil, up_cons, end_ret, end_exc, end_nx, out_d, v_add, v_sub, v_neg, v_lt, v_le, v_gt, v_ge, v_eqI, v_neI, v_gcd, v_abs, v_max, v_int, v_lenT, v_lenL, List.getElem?_cons_zero, List.getElem?_cons_succ, List.set_cons_zero, List.set_cons_succ, List.take_zero, List.take_nil, Bool.false_eq_true, if_false, if_true, eq_self, decide_true, decide_false, Bool.not_true, Bool.not_false, Nat.reduceAdd, Nat.reduceLeDiff, Nat.reduceLT, List.nil_append, List.cons_append]
  rw [v_eq (dOf_c e1) (dOf_c e2) (pairs_ok hz) rfl]
  cases zs <;> rfl
theorem s_pop {zs : List D} {x : D} {k : Nat} {h o s3 s4 s5 s6 : Option Val} {cs : List Cell} (hc : cs[k]? = some (.own (pairs (zs ++ [x])))) :
    sPop ⟨[h, o, some (.c k), s3, s4, s5, s6], cs⟩ = .ok .nx ⟨[h, o, some (.c k), some (.d x), some (.d x), s5, s6], cs.set k (.own (pairs zs))⟩ := by
  have hc2 : cs[k]? = some (.own (pairs zs ++ [.tup [x, x]])) := by rw [hc]; simp [pairs]
  unfold sPop
  simp only [e_par, e_parK, e_asg, toD_d, e_nameT, e_consT, e_nilT, Option.bind_some, n_nx, n_ct, n_bk, n_ret, e_for, e_itE, e_itA, e_meth, ty_s, e_run1, e_run2, e_run3, e_run4, s_d1, s_d2, s_od, s_oo, s_o1, s_odd, s_t1, s_td, ic_d, ic_o, ic_t, ic_nil, e_argD, e_argDD, List.replicate, Nat.reduceSub, List.length_cons, List.length_nil, bind_ok, bind_exc, bind_bad, e_seq, th_nx, th_ret, th_exc, th_bk, th_ct, e_set, e_setK, e_ret, e_retK, e_drop, e_dropK, e_retN, e_next, e_brk, e_cnt, e_if, e_ifE, e_and, e_or, e_not, onB_t, onB_f, onB_b, e_var, e_varK, e_c, e_bin, e_un, e_call, e_nil, e_cons, e_tup, e_tupK, e_lst, e_lstK, e_newLst, toDs_nil, toDs_d, Option.map_some, e_callV, e_callVT, ar_nil, ar_cons, ar_d, ar_t, e_argKT, af_d, af_new, af_exc, up_nil, up_cons, end_ret, end_exc, end_nx, out_d, v_add, v_sub, v_neg, v_lt, v_le, v_gt, v_ge, v_eqI, v_neI, v_gcd, v_abs, v_max, v_int, v_lenT, v_lenL, List.getElem?_cons_zero, List.getElem?_cons_succ, List.set_cons_zero, List.set_cons_succ, List.take_zero, List.take_nil, Bool.false_eq_true, if_false, if_true, eq_self, decide_true, decide_false, Bool.not_true, Bool.not_false, Nat.reduceAdd, Nat.reduceLeDiff, Nat.reduceLT, List.nil_append, List.cons_append, ty_c, hc2, Option.isSome_some, v_pop hc2]
  rfl
theorem rng_get {n j : Nat} (h : j < n) : (rngL 0 n)[j]? = some (D.int j) := by
  unfold rngL
  rw [List.getElem?_map, List.getElem?_range h]
  simp
theorem rng_len {n : Nat} : (rngL 0 n).length = n := by unfold rngL; rw [List.length_map, List.length_range]
theorem rng_drop {n j : Nat} (h : j < n) : (rngL 0 n).drop j = .int j :: (rngL 0 n).drop (j + 1) := by
  have hl : j < (rngL 0 n).length := by rw [rng_len]; exact h
  rw [List.drop_eq_getElem_cons hl]
  congr 1
  have := rng_get h
  rw [List.getElem?_eq_getElem hl] at this
  exact Option.some.inj this
theorem rng_end {n : Nat} : (rngL 0 n).drop n = [] := by
  apply List.drop_eq_nil_of_le
  unfold rngL; rw [List.length_map, List.length_range]; exact Nat.le_refl _
theorem atI_nat {ys : List D} {j : Nat} (h : j < ys.length) : L2.atI ys (j : Int) = some ys[j] := by
  unfold L2.atI L2.ixN
  have h1 : (0 : Int) ≤ (j : Int) := by omega
  have h2 : (j : Int) < (ys.length : Int) := by omega
  simp [h1, h2, h]
theorem mk_pairs {ys : List D} (y0 : D) (hy : y0 = .tup ys ∨ y0 = .lst ys) (s0 s1 s2 s5 s6 : Option Val) (cs : List Cell) (all : List D) : ∀ (n j : Nat), j + n = ys.length →
    compL (nameT 6) (cE (.bl true)) (tupE [(bin2 ixV (varE 3) (varE 6)), (bin2 ixV (varE 4) (varE 6))]) [6] [s0, s1, s2, some (.d y0), some (.d y0), s5, s6] none all ((rngL 0 ys.length).drop j) ⟨[s0, s1, s2, some (.d y0), some (.d y0), s5, s6], cs⟩ = .ok (pairs (ys.drop j)) ⟨[s0, s1, s2, some (.d y0), some (.d y0), s5, s6], cs⟩
  | 0, j, h => by
    have e : j = ys.length := by omega
    subst e
    rw [rng_end, List.drop_eq_nil_of_le (Nat.le_refl _), c_nil gd_none]; rfl
  | n + 1, j, h => by
    have hj : j < ys.length := by omega
    have ih := mk_pairs y0 hy s0 s1 s2 s5 s6 cs all n (j + 1) (by omega)
    have ix : ∀ st, ixV (.d y0) (.d (.int j)) st = .ok (.d ys[j]) st := fun st => by
      rcases hy with rfl | rfl
      · exact Sh.v_ixT (atI_nat hj)
      · unfold ixV seqOf; simp only [atI_nat hj]
    rw [rng_drop hj, List.drop_eq_getElem_cons hj]
    rw [c_yes (v := .d (.tup [ys[j], ys[j]])) (st3 := ⟨[s0, s1, s2, some (.d y0), some (.d y0), s5, some (.d (.int j))], cs⟩) gd_none e_nameT (st2 := ⟨[s0, s1, s2, some (.d y0), some (.d y0), s5, some (.d (.int j))], cs⟩) (by simp only [wipeV, e_par, e_parK, e_asg, toD_d, e_nameT, e_consT, e_nilT, Option.bind_some, n_nx, n_ct, n_bk, n_ret, e_for, e_itE, e_itA, e_meth, ty_s, e_run1, e_run2, e_run3, e_run4, s_d1, s_d2, s_od, s_oo, s_o1, s_odd, s_t1, s_td, ic_d, ic_o, ic_t, ic_nil, e_argD, e_argDD, List.replicate, Nat.reduceSub, List.length_cons, List.length_nil, bind_ok, bind_exc, bind_bad, e_seq, th_nx, th_ret, th_exc, th_bk, th_ct, e_set, e_setK, e_ret, e_retK, e_drop, e_dropK, e_retN, e_next, e_brk, e_cnt, e_if, e_ifE, e_and, e_or, e_not, onB_t, onB_f, onB_b, e_var, e_varK, e_c, e_bin, e_un, e_call, e_nil, e_cons, e_tup, e_tupK, e_lst, e_lstK, e_newLst, toDs_nil, toDs_d, Option.map_some, e_callV, e_callVT, ar_nil, ar_cons, ar_d, ar_t, e_argKT, af_d, af_new, af_exc, up_nil, up_cons, end_ret, end_exc, end_nx, out_d, v_add, v_sub, v_neg, v_lt, v_le, v_gt, v_ge, v_eqI, v_neI, v_gcd, v_abs, v_max, v_int, v_lenT, v_lenL, List.getElem?_cons_zero, List.getElem?_cons_succ, List.set_cons_zero, List.set_cons_succ, List.take_zero, List.take_nil, Bool.false_eq_true, if_false, if_true, eq_self, decide_true, decide_false, Bool.not_true, Bool.not_false, Nat.reduceAdd, Nat.reduceLeDiff, Nat.reduceLT, List.nil_append, List.cons_append]) (by simp only [e_par, e_parK, e_asg, toD_d, e_nameT, e_consT, e_nilT, Option.bind_some, n_nx, n_ct, n_bk, n_ret, e_for, e_itE, e_itA, e_meth, ty_s, e_run1, e_run2, e_run3, e_run4, s_d1, s_d2, s_od, s_oo, s_o1, s_odd, s_t1, s_td, ic_d, ic_o, ic_t, ic_nil, e_argD, e_argDD, List.replicate, Nat.reduceSub, List.length_cons, List.length_nil, bind_ok, bind_exc, bind_bad, e_seq, th_nx, th_ret, th_exc, th_bk, th_ct, e_set, e_setK, e_ret, e_retK, e_drop, e_dropK, e_retN, e_next, e_brk, e_cnt, e_if, e_ifE, e_and, e_or, e_not, onB_t, onB_f, onB_b, e_var, e_varK, e_c, e_bin, e_un, e_call, e_nil, e_cons, e_tup, e_tupK, e_lst, e_lstK, e_newLst, toDs_nil, toDs_d, Option.map_some, e_callV, e_callVT, ar_nil, ar_cons, ar_d, ar_t, e_argKT, af_d, af_new, af_exc, up_nil, up_cons, end_ret, end_exc, end_nx, out_d, v_add, v_sub, v_neg, v_lt, v_le, v_gt, v_ge, v_eqI, v_neI, v_gcd, v_abs, v_max, v_int, v_lenT, v_lenL, List.getElem?_cons_zero, List.getElem?_cons_succ, List.set_cons_zero, List.set_cons_succ, List.take_zero, List.take_nil, Bool.false_eq_true, if_false, if_true, eq_self, decide_true, decide_false, Bool.not_true, Bool.not_false, Nat.reduceAdd, Nat.reduceLeDiff, Nat.reduceLT, List.nil_append, List.cons_append, ix]) toD_d]
    rw [ih, bind_ok]
    rfl
theorem take_set {cs : List Cell} {k : Nat} {cl : Cell} : (cs.set k cl).take k = cs.take k := by
  apply List.ext_getElem?
  intro i
  simp only [List.getElem?_take, List.getElem?_set]
  split
  · rw [if_neg (by omega)]
  · rfl
theorem take_app {cs ds : List Cell} {k : Nat} (h : k ≤ cs.length) : (cs ++ ds).take k = cs.take k := by
  rw [List.take_append_of_le_length h]
theorem bgl {n : Nat} (h : n ≤ 1000000) : bigI ((n : Nat) : Int) = true := by
  unfold bigI
  rw [Bool.and_eq_true, decide_eq_true_eq, decide_eq_true_eq]
  have : (2 : Int) ^ 62 = 4611686018427387904 := by decide
  constructor
  · omega
  · omega
theorem e_compK {it : S → IO} {gt : D → S → Option S} {t f : S → OE} {us : List Nat} {L : List D} {ck : Option Nat} {st st1 : S} (h : it st = .ok (L, ck) st1) (hl : L.length ≤ 1000000) : compE it gt t f us st = (compL gt t f us st1.v ck L L st1).bind newLst := by
  unfold compE
  rw [h]
  exact if_pos hl
theorem e_rngL {f : S → OE} {n : Nat} {st st1 : S} (h : f st = .ok (.d (.int n)) st1) (hb : bigI n = true) : itA rng1V [f] st = .ok (rngL 0 n, none) st1 := by
  rw [e_itA, e_cons, h, bind_ok, e_nil, bind_ok, bind_ok]; exact Sh.e_rng1 hb
theorem if_f {t : S → OE} {f g : S → OS} {st st1 : S} (h : t st = .ok (.d (.bl false)) st1) : ifS t f g st = g st1 := by
  rw [e_if, h, bind_ok]; rfl
theorem if_t {t : S → OE} {f g : S → OS} {st st1 : S} (h : t st = .ok (.d (.bl true)) st1) : ifS t f g st = f st1 := by
  rw [e_if, h, bind_ok]; rfl
theorem ifE_t {t f g : S → OE} {st st1 : S} (h : t st = .ok (.d (.bl true)) st1) : ifE t f g st = f st1 := by
  rw [e_ifE, h, bind_ok]; rfl
theorem seq_nx {f g : S → OS} {st st1 : S} (h : f st = .ok .nx st1) : seqS f g st = g st1 := by
  rw [e_seq, h]; rfl
theorem drop_m {g : Val → List Val → S → OE} {f fo : S → OE} {k : Nat} {v w : Val} {st st1 st2 st3 : S} (h : fo st = .ok (.c k) st1) (ht : (st1.c[k]?).isSome = true) (h2 : f st1 = .ok v st2) (h3 : g (.c k) [v] st2 = .ok w st3) : dropS (methE "list" g fo [f]) st = .ok .nx st3 := by
  rw [e_drop, e_meth, h, bind_ok, if_pos (by obtain ⟨vs, cs⟩ := st1; rw [ty_c]; exact ht), e_cons, h2, bind_ok, e_nil, bind_ok, bind_ok, h3, bind_ok]
  rfl
theorem s_comp {ys : List D} (y0 : D) (hy : y0 = .tup ys ∨ y0 = .lst ys) (s0 s1 s2 s5 s6 : Option Val) (cs : List Cell) (hl : ys.length ≤ 1000000) :
    compE (itA rng1V [(callE lenV [(varE 4)])]) (nameT 6) (cE (.bl true)) (tupE [(bin2 ixV (varE 3) (varE 6)), (bin2 ixV (varE 4) (varE 6))]) [6] ⟨[s0, s1, s2, some (.d y0), some (.d y0), s5, s6], cs⟩ =
      .ok (.c cs.length) ⟨[s0, s1, s2, some (.d y0), some (.d y0), s5, s6], cs ++ [.own (pairs ys)]⟩ := by
  have mk := mk_pairs y0 hy s0 s1 s2 s5 s6 cs (rngL 0 ys.length) ys.length 0 (by omega)
  rw [List.drop_zero, List.drop_zero] at mk
  have rl : (rngL 0 ys.length).length ≤ 1000000 := by rw [rng_len]; exact hl
  have ln : ∀ st, lenV [.d y0] st = .ok (.d (.int ys.length)) st := fun st => by
    rcases hy with rfl | rfl <;> rfl
  have e1 : itA rng1V [(callE lenV [(varE 4)])] ⟨[s0, s1, s2, some (.d y0), some (.d y0), s5, s6], cs⟩ = .ok (rngL 0 ys.length, none) ⟨[s0, s1, s2, some (.d y0), some (.d y0), s5, s6], cs⟩ :=
    e_rngL (by simp only [e_par, e_parK, e_asg, toD_d, e_nameT, e_consT, e_nilT, Option.bind_some, n_nx, n_ct, n_bk, n_ret, e_for, e_itE, e_itA, e_meth, ty_s, e_run1, e_run2, e_run3, e_run4, s_d1, s_d2, s_od, s_oo, s_o1, s_odd, s_t1, s_td, ic_d, ic_o, ic_t, ic_nil, e_argD, e_argDD, List.replicate, Nat.reduceSub, List.length_cons, List.length_nil, bind_ok, bind_exc, bind_bad, e_seq, th_nx, th_ret, th_exc, th_bk, th_ct, e_set, e_setK, e_ret, e_retK, e_drop, e_dropK, e_retN, e_next, e_brk, e_cnt, e_if, e_ifE, e_and, e_or, e_not, onB_t, onB_f, onB_b, e_var, e_varK, e_c, e_bin, e_un, e_call, e_nil, e_cons, e_tup, e_tupK, e_lst, e_lstK, e_newLst, toDs_nil, toDs_d, Option.map_some, e_callV, e_callVT, ar_nil, ar_cons, ar_d, ar_t, e_argKT, af_d, af_new, af_exc, up_nil, up_cons, end_ret, end_exc, end_nx, out_d, v_add, v_sub, v_neg, v_lt, v_le, v_gt, v_ge, v_eqI, v_neI, v_gcd, v_abs, v_max, v_int, v_lenT, v_lenL, List.getElem?_cons_zero, List.getElem?_cons_succ, List.set_cons_zero, List.set_cons_succ, List.take_zero, List.take_nil, Bool.false_eq_true, if_false, if_true, eq_self, decide_true, decide_false, Bool.not_true, Bool.not_false, Nat.reduceAdd, Nat.reduceLeDiff, Nat.reduceLT, List.nil_append, List.cons_append, ln]) (bgl hl)
  generalize rngL 0 ys.length = L at mk rl e1
  rw [e_compK e1 rl, mk, bind_ok, e_newLst]
theorem s_ext {zs ys : List D} {k : Nat} {cs : List Cell} {vs : List (Option Val)} (hc : cs[k]? = some (.own (pairs zs))) (hl : zs.length + ys.length ≤ 1000000) :
    extV (.c k) [.c cs.length] ⟨vs, cs ++ [.own (pairs ys)]⟩ = .ok (.d .non) ⟨vs, (cs ++ [Cell.own (pairs ys)]).set k (.own (pairs (zs ++ ys)))⟩ := by
  have hk : k < cs.length := (List.getElem?_eq_some_iff.mp hc).1
  have c1 : (cs ++ [Cell.own (pairs ys)])[k]? = some (.own (pairs zs)) := by rw [List.getElem?_append_left hk]; exact hc
  have c2 : (cs ++ [Cell.own (pairs ys)])[cs.length]? = some (.own (pairs ys)) := by rw [List.getElem?_append_right (Nat.le_refl _), Nat.sub_self]; rfl
  have e : pairs (zs ++ ys) = pairs zs ++ pairs ys := List.map_append
  have hl2 : (pairs zs).length + (Cell.own (pairs ys)).xs.length ≤ 1000000 := by
    show (pairs zs).length + (pairs ys).length ≤ _
    unfold pairs; rw [List.length_map, List.length_map]; exact hl
  rw [v_extC c1 c2 hl2, e]
  rfl
theorem s_mid_non {zs : List D} {k : Nat} {h o s5 s6 : Option Val} {cs : List Cell} (hc : cs[k]? = some (.own (pairs zs))) (hx : Gd .non) (hl : zs.length + (kids .non).length ≤ 1000000) :
    ∃ cs', sMid ⟨[h, o, some (.c k), some (.d .non), some (.d .non), s5, s6], cs⟩ = .ok .nx ⟨[h, o, some (.c k), some (.d .non), some (.d .non), some (.d (.bl true)), s6], cs'⟩ ∧ cs'[k]? = some (.own (pairs (zs ++ kids .non))) ∧ cs'.take k = cs.take k := by
  have hk : k < cs.length := (List.getElem?_eq_some_iff.mp hc).1
  unfold sMid
  have q : ∀ st, isNV false (.d .non) (.d .non) st = .ok (.d (.bl true)) st := fun _ => rfl
  exact ⟨cs, by simp only [e_par, e_parK, e_asg, toD_d, e_nameT, e_consT, e_nilT, Option.bind_some, n_nx, n_ct, n_bk, n_ret, e_for, e_itE, e_itA, e_meth, ty_s, e_run1, e_run2, e_run3, e_run4, s_d1, s_d2, s_od, s_oo, s_o1, s_odd, s_t1, s_td, ic_d, ic_o, ic_t, ic_nil, e_argD, e_argDD, List.replicate, Nat.reduceSub, List.length_cons, List.length_nil, bind_ok, bind_exc, bind_bad, e_seq, th_nx, th_ret, th_exc, th_bk, th_ct, e_set, e_setK, e_ret, e_retK, e_drop, e_dropK, e_retN, e_next, e_brk, e_cnt, e_if, e_ifE, e_and, e_or, e_not, onB_t, onB_f, onB_b, e_var, e_varK, e_c, e_bin, e_un, e_call, e_nil, e_cons, e_tup, e_tupK, e_lst, e_lstK, e_newLst, toDs_nil, toDs_d, Option.map_some, e_callV, e_callVT, ar_nil, ar_cons, ar_d, ar_t, e_argKT, af_d, af_new, af_exc, up_nil, up_cons, end_ret, end_exc, end_nx, out_d, v_add, v_sub, v_neg, v_lt, v_le, v_gt, v_ge, v_eqI, v_neI, v_gcd, v_abs, v_max, v_int, v_lenT, v_lenL, List.getElem?_cons_zero, List.getElem?_cons_succ, List.set_cons_zero, List.set_cons_succ, List.take_zero, List.take_nil, Bool.false_eq_true, if_false, if_true, eq_self, decide_true, decide_false, Bool.not_true, Bool.not_false, Nat.reduceAdd, Nat.reduceLeDiff, Nat.reduceLT, List.nil_append, List.cons_append, q], by simpa [kids] using hc, rfl⟩
theorem s_mid_bl {b : Bool} {zs : List D} {k : Nat} {h o s5 s6 : Option Val} {cs : List Cell} (hc : cs[k]? = some (.own (pairs zs))) (hx : Gd (.bl b)) (hl : zs.length + (kids (.bl b)).length ≤ 1000000) :
    ∃ cs', sMid ⟨[h, o, some (.c k), some (.d (.bl b)), some (.d (.bl b)), s5, s6], cs⟩ = .ok .nx ⟨[h, o, some (.c k), some (.d (.bl b)), some (.d (.bl b)), some (.d (.bl true)), s6], cs'⟩ ∧ cs'[k]? = some (.own (pairs (zs ++ kids (.bl b)))) ∧ cs'.take k = cs.take k := by
  have hk : k < cs.length := (List.getElem?_eq_some_iff.mp hc).1
  unfold sMid
  have q : ∀ st, isNV false (.d (.bl b)) (.d .non) st = .ok (.d (.bl false)) st := fun _ => rfl
  have q1 : ∀ st, isiV [.d (.bl b), .d (.ty "bool")] st = .ok (.d (.bl true)) st := fun _ => rfl
  have q2 : ∀ st, eqV false (.d (.bl b)) (.d (.bl b)) st = .ok (.d (.bl true)) st := fun _ => by rw [v_eq dOf_d dOf_d rfl rfl]; cases b <;> rfl
  exact ⟨cs, by simp only [e_par, e_parK, e_asg, toD_d, e_nameT, e_consT, e_nilT, Option.bind_some, n_nx, n_ct, n_bk, n_ret, e_for, e_itE, e_itA, e_meth, ty_s, e_run1, e_run2, e_run3, e_run4, s_d1, s_d2, s_od, s_oo, s_o1, s_odd, s_t1, s_td, ic_d, ic_o, ic_t, ic_nil, e_argD, e_argDD, List.replicate, Nat.reduceSub, List.length_cons, List.length_nil, bind_ok, bind_exc, bind_bad, e_seq, th_nx, th_ret, th_exc, th_bk, th_ct, e_set, e_setK, e_ret, e_retK, e_drop, e_dropK, e_retN, e_next, e_brk, e_cnt, e_if, e_ifE, e_and, e_or, e_not, onB_t, onB_f, onB_b, e_var, e_varK, e_c, e_bin, e_un, e_call, e_nil, e_cons, e_tup, e_tupK, e_lst, e_lstK, e_newLst, toDs_nil, toDs_d, Option.map_some, e_callV, e_callVT, ar_nil, ar_cons, ar_d, ar_t, e_argKT, af_d, af_new, af_exc, up_nil, up_cons, end_ret, end_exc, end_nx, out_d, v_add, v_sub, v_neg, v_lt, v_le, v_gt, v_ge, v_eqI, v_neI, v_gcd, v_abs, v_max, v_int, v_lenT, v_lenL, List.getElem?_cons_zero, List.getElem?_cons_succ, List.set_cons_zero, List.set_cons_succ, List.take_zero, List.take_nil, Bool.false_eq_true, if_false, if_true, eq_self, decide_true, decide_false, Bool.not_true, Bool.not_false, Nat.reduceAdd, Nat.reduceLeDiff, Nat.reduceLT, List.nil_append, List.cons_append, q, q1, q2], by simpa [kids] using hc, rfl⟩
theorem s_mid_int {b : Int} {zs : List D} {k : Nat} {h o s5 s6 : Option Val} {cs : List Cell} (hc : cs[k]? = some (.own (pairs zs))) (hx : Gd (.int b)) (hl : zs.length + (kids (.int b)).length ≤ 1000000) :
    ∃ cs', sMid ⟨[h, o, some (.c k), some (.d (.int b)), some (.d (.int b)), s5, s6], cs⟩ = .ok .nx ⟨[h, o, some (.c k), some (.d (.int b)), some (.d (.int b)), some (.d (.bl true)), s6], cs'⟩ ∧ cs'[k]? = some (.own (pairs (zs ++ kids (.int b)))) ∧ cs'.take k = cs.take k := by
  have hk : k < cs.length := (List.getElem?_eq_some_iff.mp hc).1
  unfold sMid
  have q : ∀ st, isNV false (.d (.int b)) (.d .non) st = .ok (.d (.bl false)) st := fun _ => rfl
  have q1 : ∀ st, isiV [.d (.int b), .d (.ty "bool")] st = .ok (.d (.bl false)) st := fun _ => rfl
  have q3 : ∀ st, isiV [.d (.int b), .d (.ty "int")] st = .ok (.d (.bl true)) st := fun _ => rfl
  have q2 : d__law_wb_is_whole [.d (.int b)] = .ok (.d (.bl true)) [] := rfl
  exact ⟨cs, by simp only [e_par, e_parK, e_asg, toD_d, e_nameT, e_consT, e_nilT, Option.bind_some, n_nx, n_ct, n_bk, n_ret, e_for, e_itE, e_itA, e_meth, ty_s, e_run1, e_run2, e_run3, e_run4, s_d1, s_d2, s_od, s_oo, s_o1, s_odd, s_t1, s_td, ic_d, ic_o, ic_t, ic_nil, e_argD, e_argDD, List.replicate, Nat.reduceSub, List.length_cons, List.length_nil, bind_ok, bind_exc, bind_bad, e_seq, th_nx, th_ret, th_exc, th_bk, th_ct, e_set, e_setK, e_ret, e_retK, e_drop, e_dropK, e_retN, e_next, e_brk, e_cnt, e_if, e_ifE, e_and, e_or, e_not, onB_t, onB_f, onB_b, e_var, e_varK, e_c, e_bin, e_un, e_call, e_nil, e_cons, e_tup, e_tupK, e_lst, e_lstK, e_newLst, toDs_nil, toDs_d, Option.map_some, e_callV, e_callVT, ar_nil, ar_cons, ar_d, ar_t, e_argKT, af_d, af_new, af_exc, up_nil, up_cons, end_ret, end_exc, end_nx, out_d, v_add, v_sub, v_neg, v_lt, v_le, v_gt, v_ge, v_eqI, v_neI, v_gcd, v_abs, v_max, v_int, v_lenT, v_lenL, List.getElem?_cons_zero, List.getElem?_cons_succ, List.set_cons_zero, List.set_cons_succ, List.take_zero, List.take_nil, Bool.false_eq_true, if_false, if_true, eq_self, decide_true, decide_false, Bool.not_true, Bool.not_false, Nat.reduceAdd, Nat.reduceLeDiff, Nat.reduceLT, List.nil_append, List.cons_append, q, q1, q2, q3, beq_self_eq_true], by simpa [kids] using hc, rfl⟩
theorem s_mid_str {b : Str} {zs : List D} {k : Nat} {h o s5 s6 : Option Val} {cs : List Cell} (hc : cs[k]? = some (.own (pairs zs))) (hx : Gd (.str b)) (hl : zs.length + (kids (.str b)).length ≤ 1000000) :
    ∃ cs', sMid ⟨[h, o, some (.c k), some (.d (.str b)), some (.d (.str b)), s5, s6], cs⟩ = .ok .nx ⟨[h, o, some (.c k), some (.d (.str b)), some (.d (.str b)), some (.d (.bl true)), s6], cs'⟩ ∧ cs'[k]? = some (.own (pairs (zs ++ kids (.str b)))) ∧ cs'.take k = cs.take k := by
  have hk : k < cs.length := (List.getElem?_eq_some_iff.mp hc).1
  unfold sMid
  have q : ∀ st, isNV false (.d (.str b)) (.d .non) st = .ok (.d (.bl false)) st := fun _ => rfl
  have q1 : ∀ st, isiV [.d (.str b), .d (.ty "bool")] st = .ok (.d (.bl false)) st := fun _ => rfl
  have q3 : ∀ st, isiV [.d (.str b), .d (.ty "int")] st = .ok (.d (.bl false)) st := fun _ => rfl
  have q4 : ∀ st, isiV [.d (.str b), .d (.ty "str")] st = .ok (.d (.bl true)) st := fun _ => rfl
  have ob : okD (.str b) = true := okD_of hx.1 (by simp [dep])
  have q2 : ∀ st, eqV false (.d (.str b)) (.d (.str b)) st = .ok (.d (.bl true)) st := fun _ => by rw [v_eq dOf_d dOf_d ob ob]; simp [eqD]
  exact ⟨cs, by simp only [e_par, e_parK, e_asg, toD_d, e_nameT, e_consT, e_nilT, Option.bind_some, n_nx, n_ct, n_bk, n_ret, e_for, e_itE, e_itA, e_meth, ty_s, e_run1, e_run2, e_run3, e_run4, s_d1, s_d2, s_od, s_oo, s_o1, s_odd, s_t1, s_td, ic_d, ic_o, ic_t, ic_nil, e_argD, e_argDD, List.replicate, Nat.reduceSub, List.length_cons, List.length_nil, bind_ok, bind_exc, bind_bad, e_seq, th_nx, th_ret, th_exc, th_bk, th_ct, e_set, e_setK, e_ret, e_retK, e_drop, e_dropK, e_retN, e_next, e_brk, e_cnt, e_if, e_ifE, e_and, e_or, e_not, onB_t, onB_f, onB_b, e_var, e_varK, e_c, e_bin, e_un, e_call, e_nil, e_cons, e_tup, e_tupK, e_lst, e_lstK, e_newLst, toDs_nil, toDs_d, Option.map_some, e_callV, e_callVT, ar_nil, ar_cons, ar_d, ar_t, e_argKT, af_d, af_new, af_exc, up_nil, up_cons, end_ret, end_exc, end_nx, out_d, v_add, v_sub, v_neg, v_lt, v_le, v_gt, v_ge, v_eqI, v_neI, v_gcd, v_abs, v_max, v_int, v_lenT, v_lenL, List.getElem?_cons_zero, List.getElem?_cons_succ, List.set_cons_zero, List.set_cons_succ, List.take_zero, List.take_nil, Bool.false_eq_true, if_false, if_true, eq_self, decide_true, decide_false, Bool.not_true, Bool.not_false, Nat.reduceAdd, Nat.reduceLeDiff, Nat.reduceLT, List.nil_append, List.cons_append, q, q1, q2, q3, q4], by simpa [kids] using hc, rfl⟩
theorem s_mid_tup {ys : List D} {zs : List D} {k : Nat} {h o s5 s6 : Option Val} {cs : List Cell} (hc : cs[k]? = some (.own (pairs zs))) (hx : Gd (.tup ys)) (hl : zs.length + (kids (.tup ys)).length ≤ 1000000) :
    ∃ cs', sMid ⟨[h, o, some (.c k), some (.d (.tup ys)), some (.d (.tup ys)), s5, s6], cs⟩ = .ok .nx ⟨[h, o, some (.c k), some (.d (.tup ys)), some (.d (.tup ys)), some (.d (.bl true)), s6], cs'⟩ ∧ cs'[k]? = some (.own (pairs (zs ++ kids (.tup ys)))) ∧ cs'.take k = cs.take k := by
  have hk : k < cs.length := (List.getElem?_eq_some_iff.mp hc).1
  unfold sMid
  have hl2 : zs.length + ys.length ≤ 1000000 := hl
  have q : ∀ st, isNV false (.d (.tup ys)) (.d .non) st = .ok (.d (.bl false)) st := fun _ => rfl
  have q1 : ∀ st, isiV [.d (.tup ys), .d (.ty "bool")] st = .ok (.d (.bl false)) st := fun _ => rfl
  have q3 : ∀ st, isiV [.d (.tup ys), .d (.ty "int")] st = .ok (.d (.bl false)) st := fun _ => rfl
  have q4 : ∀ st, isiV [.d (.tup ys), .d (.ty "str")] st = .ok (.d (.bl false)) st := fun _ => rfl
  have q5 : ∀ st, isiV [.d (.tup ys), .d (.ty "tuple")] st = .ok (.d (.bl true)) st := fun _ => rfl
  have mk := s_comp (.tup ys) (.inl rfl) h o (some (.c k)) (some (.d (.bl true))) s6 cs (show ys.length ≤ 1000000 by omega)
  refine ⟨(cs ++ [Cell.own (pairs ys)]).set k (.own (pairs (zs ++ ys))), ?_, ?_, ?_⟩
  · rw [if_f (st1 := ⟨[h, o, some (.c k), some (.d (.tup ys)), some (.d (.tup ys)), s5, s6], cs⟩) (by simp only [e_par, e_parK, e_asg, toD_d, e_nameT, e_consT, e_nilT, Option.bind_some, n_nx, n_ct, n_bk, n_ret, e_for, e_itE, e_itA, e_meth, ty_s, e_run1, e_run2, e_run3, e_run4, s_d1, s_d2, s_od, s_oo, s_o1, s_odd, s_t1, s_td, ic_d, ic_o, ic_t, ic_nil, e_argD, e_argDD, List.replicate, Nat.reduceSub, List.length_cons, List.length_nil, bind_ok, bind_exc, bind_bad, e_seq, th_nx, th_ret, th_exc, th_bk, th_ct, e_set, e_setK, e_ret, e_retK, e_drop, e_dropK, e_retN, e_next, e_brk, e_cnt, e_if, e_ifE, e_and, e_or, e_not, onB_t, onB_f, onB_b, e_var, e_varK, e_c, e_bin, e_un, e_call, e_nil, e_cons, e_tup, e_tupK, e_lst, e_lstK, e_newLst, toDs_nil, toDs_d, Option.map_some, e_callV, e_callVT, ar_nil, ar_cons, ar_d, ar_t, e_argKT, af_d, af_new, af_exc, up_nil, up_cons, end_ret, end_exc, end_nx, out_d, v_add, v_sub, v_neg, v_lt, v_le, v_gt, v_ge, v_eqI, v_neI, v_gcd, v_abs, v_max, v_int, v_lenT, v_lenL, List.getElem?_cons_zero, List.getElem?_cons_succ, List.set_cons_zero, List.set_cons_succ, List.take_zero, List.take_nil, Bool.false_eq_true, if_false, if_true, eq_self, decide_true, decide_false, Bool.not_true, Bool.not_false, Nat.reduceAdd, Nat.reduceLeDiff, Nat.reduceLT, List.nil_append, List.cons_append, q]), if_f (st1 := ⟨[h, o, some (.c k), some (.d (.tup ys)), some (.d (.tup ys)), s5, s6], cs⟩) (by simp only [e_par, e_parK, e_asg, toD_d, e_nameT, e_consT, e_nilT, Option.bind_some, n_nx, n_ct, n_bk, n_ret, e_for, e_itE, e_itA, e_meth, ty_s, e_run1, e_run2, e_run3, e_run4, s_d1, s_d2, s_od, s_oo, s_o1, s_odd, s_t1, s_td, ic_d, ic_o, ic_t, ic_nil, e_argD, e_argDD, List.replicate, Nat.reduceSub, List.length_cons, List.length_nil, bind_ok, bind_exc, bind_bad, e_seq, th_nx, th_ret, th_exc, th_bk, th_ct, e_set, e_setK, e_ret, e_retK, e_drop, e_dropK, e_retN, e_next, e_brk, e_cnt, e_if, e_ifE, e_and, e_or, e_not, onB_t, onB_f, onB_b, e_var, e_varK, e_c, e_bin, e_un, e_call, e_nil, e_cons, e_tup, e_tupK, e_lst, e_lstK, e_newLst, toDs_nil, toDs_d, Option.map_some, e_callV, e_callVT, ar_nil, ar_cons, ar_d, ar_t, e_argKT, af_d, af_new, af_exc, up_nil, up_cons, end_ret, end_exc, end_nx, out_d, v_add, v_sub, v_neg, v_lt, v_le, v_gt, v_ge, v_eqI, v_neI, v_gcd, v_abs, v_max, v_int, v_lenT, v_lenL, List.getElem?_cons_zero, List.getElem?_cons_succ, List.set_cons_zero, List.set_cons_succ, List.take_zero, List.take_nil, Bool.false_eq_true, if_false, if_true, eq_self, decide_true, decide_false, Bool.not_true, Bool.not_false, Nat.reduceAdd, Nat.reduceLeDiff, Nat.reduceLT, List.nil_append, List.cons_append, q1]), if_f (st1 := ⟨[h, o, some (.c k), some (.d (.tup ys)), some (.d (.tup ys)), s5, s6], cs⟩) (by simp only [e_par, e_parK, e_asg, toD_d, e_nameT, e_consT, e_nilT, Option.bind_some, n_nx, n_ct, n_bk, n_ret, e_for, e_itE, e_itA, e_meth, ty_s, e_run1, e_run2, e_run3, e_run4, s_d1, s_d2, s_od, s_oo, s_o1, s_odd, s_t1, s_td, ic_d, ic_o, ic_t, ic_nil, e_argD, e_argDD, List.replicate, Nat.reduceSub, List.length_cons, List.length_nil, bind_ok, bind_exc, bind_bad, e_seq, th_nx, th_ret, th_exc, th_bk, th_ct, e_set, e_setK, e_ret, e_retK, e_drop, e_dropK, e_retN, e_next, e_brk, e_cnt, e_if, e_ifE, e_and, e_or, e_not, onB_t, onB_f, onB_b, e_var, e_varK, e_c, e_bin, e_un, e_call, e_nil, e_cons, e_tup, e_tupK, e_lst, e_lstK, e_newLst, toDs_nil, toDs_d, Option.map_some, e_callV, e_callVT, ar_nil, ar_cons, ar_d, ar_t, e_argKT, af_d, af_new, af_exc, up_nil, up_cons, end_ret, end_exc, end_nx, out_d, v_add, v_sub, v_neg, v_lt, v_le, v_gt, v_ge, v_eqI, v_neI, v_gcd, v_abs, v_max, v_int, v_lenT, v_lenL, List.getElem?_cons_zero, List.getElem?_cons_succ, List.set_cons_zero, List.set_cons_succ, List.take_zero, List.take_nil, Bool.false_eq_true, if_false, if_true, eq_self, decide_true, decide_false, Bool.not_true, Bool.not_false, Nat.reduceAdd, Nat.reduceLeDiff, Nat.reduceLT, List.nil_append, List.cons_append, q3]), if_f (st1 := ⟨[h, o, some (.c k), some (.d (.tup ys)), some (.d (.tup ys)), s5, s6], cs⟩) (by simp only [e_par, e_parK, e_asg, toD_d, e_nameT, e_consT, e_nilT, Option.bind_some, n_nx, n_ct, n_bk, n_ret, e_for, e_itE, e_itA, e_meth, ty_s, e_run1, e_run2, e_run3, e_run4, s_d1, s_d2, s_od, s_oo, s_o1, s_odd, s_t1, s_td, ic_d, ic_o, ic_t, ic_nil, e_argD, e_argDD, List.replicate, Nat.reduceSub, List.length_cons, List.length_nil, bind_ok, bind_exc, bind_bad, e_seq, th_nx, th_ret, th_exc, th_bk, th_ct, e_set, e_setK, e_ret, e_retK, e_drop, e_dropK, e_retN, e_next, e_brk, e_cnt, e_if, e_ifE, e_and, e_or, e_not, onB_t, onB_f, onB_b, e_var, e_varK, e_c, e_bin, e_un, e_call, e_nil, e_cons, e_tup, e_tupK, e_lst, e_lstK, e_newLst, toDs_nil, toDs_d, Option.map_some, e_callV, e_callVT, ar_nil, ar_cons, ar_d, ar_t, e_argKT, af_d, af_new, af_exc, up_nil, up_cons, end_ret, end_exc, end_nx, out_d, v_add, v_sub, v_neg, v_lt, v_le, v_gt, v_ge, v_eqI, v_neI, v_gcd, v_abs, v_max, v_int, v_lenT, v_lenL, List.getElem?_cons_zero, List.getElem?_cons_succ, List.set_cons_zero, List.set_cons_succ, List.take_zero, List.take_nil, Bool.false_eq_true, if_false, if_true, eq_self, decide_true, decide_false, Bool.not_true, Bool.not_false, Nat.reduceAdd, Nat.reduceLeDiff, Nat.reduceLT, List.nil_append, List.cons_append, q4]),
      seq_nx (st1 := ⟨[h, o, some (.c k), some (.d (.tup ys)), some (.d (.tup ys)), some (.d (.bl true)), s6], cs⟩) (by simp only [e_par, e_parK, e_asg, toD_d, e_nameT, e_consT, e_nilT, Option.bind_some, n_nx, n_ct, n_bk, n_ret, e_for, e_itE, e_itA, e_meth, ty_s, e_run1, e_run2, e_run3, e_run4, s_d1, s_d2, s_od, s_oo, s_o1, s_odd, s_t1, s_td, ic_d, ic_o, ic_t, ic_nil, e_argD, e_argDD, List.replicate, Nat.reduceSub, List.length_cons, List.length_nil, bind_ok, bind_exc, bind_bad, e_seq, th_nx, th_ret, th_exc, th_bk, th_ct, e_set, e_setK, e_ret, e_retK, e_drop, e_dropK, e_retN, e_next, e_brk, e_cnt, e_if, e_ifE, e_and, e_or, e_not, onB_t, onB_f, onB_b, e_var, e_varK, e_c, e_bin, e_un, e_call, e_nil, e_cons, e_tup, e_tupK, e_lst, e_lstK, e_newLst, toDs_nil, toDs_d, Option.map_some, e_callV, e_callVT, ar_nil, ar_cons, ar_d, ar_t, e_argKT, af_d, af_new, af_exc, up_nil, up_cons, end_ret, end_exc, end_nx, out_d, v_add, v_sub, v_neg, v_lt, v_le, v_gt, v_ge, v_eqI, v_neI, v_gcd, v_abs, v_max, v_int, v_lenT, v_lenL, List.getElem?_cons_zero, List.getElem?_cons_succ, List.set_cons_zero, List.set_cons_succ, List.take_zero, List.take_nil, Bool.false_eq_true, if_false, if_true, eq_self, decide_true, decide_false, Bool.not_true, Bool.not_false, Nat.reduceAdd, Nat.reduceLeDiff, Nat.reduceLT, List.nil_append, List.cons_append, q5]), seq_nx (st1 := ⟨[h, o, some (.c k), some (.d (.tup ys)), some (.d (.tup ys)), some (.d (.bl true)), s6], cs⟩) (by simp only [e_par, e_parK, e_asg, toD_d, e_nameT, e_consT, e_nilT, Option.bind_some, n_nx, n_ct, n_bk, n_ret, e_for, e_itE, e_itA, e_meth, ty_s, e_run1, e_run2, e_run3, e_run4, s_d1, s_d2, s_od, s_oo, s_o1, s_odd, s_t1, s_td, ic_d, ic_o, ic_t, ic_nil, e_argD, e_argDD, List.replicate, Nat.reduceSub, List.length_cons, List.length_nil, bind_ok, bind_exc, bind_bad, e_seq, th_nx, th_ret, th_exc, th_bk, th_ct, e_set, e_setK, e_ret, e_retK, e_drop, e_dropK, e_retN, e_next, e_brk, e_cnt, e_if, e_ifE, e_and, e_or, e_not, onB_t, onB_f, onB_b, e_var, e_varK, e_c, e_bin, e_un, e_call, e_nil, e_cons, e_tup, e_tupK, e_lst, e_lstK, e_newLst, toDs_nil, toDs_d, Option.map_some, e_callV, e_callVT, ar_nil, ar_cons, ar_d, ar_t, e_argKT, af_d, af_new, af_exc, up_nil, up_cons, end_ret, end_exc, end_nx, out_d, v_add, v_sub, v_neg, v_lt, v_le, v_gt, v_ge, v_eqI, v_neI, v_gcd, v_abs, v_max, v_int, v_lenT, v_lenL, List.getElem?_cons_zero, List.getElem?_cons_succ, List.set_cons_zero, List.set_cons_succ, List.take_zero, List.take_nil, Bool.false_eq_true, if_false, if_true, eq_self, decide_true, decide_false, Bool.not_true, Bool.not_false, Nat.reduceAdd, Nat.reduceLeDiff, Nat.reduceLT, List.nil_append, List.cons_append, beq_self_eq_true])]
    exact drop_m (st1 := ⟨[h, o, some (.c k), some (.d (.tup ys)), some (.d (.tup ys)), some (.d (.bl true)), s6], cs⟩) (by simp only [e_par, e_parK, e_asg, toD_d, e_nameT, e_consT, e_nilT, Option.bind_some, n_nx, n_ct, n_bk, n_ret, e_for, e_itE, e_itA, e_meth, ty_s, e_run1, e_run2, e_run3, e_run4, s_d1, s_d2, s_od, s_oo, s_o1, s_odd, s_t1, s_td, ic_d, ic_o, ic_t, ic_nil, e_argD, e_argDD, List.replicate, Nat.reduceSub, List.length_cons, List.length_nil, bind_ok, bind_exc, bind_bad, e_seq, th_nx, th_ret, th_exc, th_bk, th_ct, e_set, e_setK, e_ret, e_retK, e_drop, e_dropK, e_retN, e_next, e_brk, e_cnt, e_if, e_ifE, e_and, e_or, e_not, onB_t, onB_f, onB_b, e_var, e_varK, e_c, e_bin, e_un, e_call, e_nil, e_cons, e_tup, e_tupK, e_lst, e_lstK, e_newLst, toDs_nil, toDs_d, Option.map_some, e_callV, e_callVT, ar_nil, ar_cons, ar_d, ar_t, e_argKT, af_d, af_new, af_exc, up_nil, up_cons, end_ret, end_exc, end_nx, out_d, v_add, v_sub, v_neg, v_lt, v_le, v_gt, v_ge, v_eqI, v_neI, v_gcd, v_abs, v_max, v_int, v_lenT, v_lenL, List.getElem?_cons_zero, List.getElem?_cons_succ, List.set_cons_zero, List.set_cons_succ, List.take_zero, List.take_nil, Bool.false_eq_true, if_false, if_true, eq_self, decide_true, decide_false, Bool.not_true, Bool.not_false, Nat.reduceAdd, Nat.reduceLeDiff, Nat.reduceLT, List.nil_append, List.cons_append]) (by show (cs[k]?).isSome = true; rw [hc]; rfl) ((ifE_t (by simp only [e_par, e_parK, e_asg, toD_d, e_nameT, e_consT, e_nilT, Option.bind_some, n_nx, n_ct, n_bk, n_ret, e_for, e_itE, e_itA, e_meth, ty_s, e_run1, e_run2, e_run3, e_run4, s_d1, s_d2, s_od, s_oo, s_o1, s_odd, s_t1, s_td, ic_d, ic_o, ic_t, ic_nil, e_argD, e_argDD, List.replicate, Nat.reduceSub, List.length_cons, List.length_nil, bind_ok, bind_exc, bind_bad, e_seq, th_nx, th_ret, th_exc, th_bk, th_ct, e_set, e_setK, e_ret, e_retK, e_drop, e_dropK, e_retN, e_next, e_brk, e_cnt, e_if, e_ifE, e_and, e_or, e_not, onB_t, onB_f, onB_b, e_var, e_varK, e_c, e_bin, e_un, e_call, e_nil, e_cons, e_tup, e_tupK, e_lst, e_lstK, e_newLst, toDs_nil, toDs_d, Option.map_some, e_callV, e_callVT, ar_nil, ar_cons, ar_d, ar_t, e_argKT, af_d, af_new, af_exc, up_nil, up_cons, end_ret, end_exc, end_nx, out_d, v_add, v_sub, v_neg, v_lt, v_le, v_gt, v_ge, v_eqI, v_neI, v_gcd, v_abs, v_max, v_int, v_lenT, v_lenL, List.getElem?_cons_zero, List.getElem?_cons_succ, List.set_cons_zero, List.set_cons_succ, List.take_zero, List.take_nil, Bool.false_eq_true, if_false, if_true, eq_self, decide_true, decide_false, Bool.not_true, Bool.not_false, Nat.reduceAdd, Nat.reduceLeDiff, Nat.reduceLT, List.nil_append, List.cons_append])).trans mk) (s_ext hc hl2)
  · rw [List.getElem?_set_self (by rw [List.length_append]; omega)]; rfl
  · rw [take_set, take_app (by omega)]
theorem s_mid_lst {ys : List D} {zs : List D} {k : Nat} {h o s5 s6 : Option Val} {cs : List Cell} (hc : cs[k]? = some (.own (pairs zs))) (hx : Gd (.lst ys)) (hl : zs.length + (kids (.lst ys)).length ≤ 1000000) :
    ∃ cs', sMid ⟨[h, o, some (.c k), some (.d (.lst ys)), some (.d (.lst ys)), s5, s6], cs⟩ = .ok .nx ⟨[h, o, some (.c k), some (.d (.lst ys)), some (.d (.lst ys)), some (.d (.bl true)), s6], cs'⟩ ∧ cs'[k]? = some (.own (pairs (zs ++ kids (.lst ys)))) ∧ cs'.take k = cs.take k := by
  have hk : k < cs.length := (List.getElem?_eq_some_iff.mp hc).1
  unfold sMid
  have hl2 : zs.length + ys.length ≤ 1000000 := hl
  have q : ∀ st, isNV false (.d (.lst ys)) (.d .non) st = .ok (.d (.bl false)) st := fun _ => rfl
  have q1 : ∀ st, isiV [.d (.lst ys), .d (.ty "bool")] st = .ok (.d (.bl false)) st := fun _ => rfl
  have q3 : ∀ st, isiV [.d (.lst ys), .d (.ty "int")] st = .ok (.d (.bl false)) st := fun _ => rfl
  have q4 : ∀ st, isiV [.d (.lst ys), .d (.ty "str")] st = .ok (.d (.bl false)) st := fun _ => rfl
  have q5 : ∀ st, isiV [.d (.lst ys), .d (.ty "tuple")] st = .ok (.d (.bl false)) st := fun _ => rfl
  have q6 : ∀ st, isiV [.d (.lst ys), .d (.ty "list")] st = .ok (.d (.bl true)) st := fun _ => rfl
  have mk := s_comp (.lst ys) (.inr rfl) h o (some (.c k)) (some (.d (.bl true))) s6 cs (show ys.length ≤ 1000000 by omega)
  refine ⟨(cs ++ [Cell.own (pairs ys)]).set k (.own (pairs (zs ++ ys))), ?_, ?_, ?_⟩
  · rw [if_f (st1 := ⟨[h, o, some (.c k), some (.d (.lst ys)), some (.d (.lst ys)), s5, s6], cs⟩) (by simp only [e_par, e_parK, e_asg, toD_d, e_nameT, e_consT, e_nilT, Option.bind_some, n_nx, n_ct, n_bk, n_ret, e_for, e_itE, e_itA, e_meth, ty_s, e_run1, e_run2, e_run3, e_run4, s_d1, s_d2, s_od, s_oo, s_o1, s_odd, s_t1, s_td, ic_d, ic_o, ic_t, ic_nil, e_argD, e_argDD, List.replicate, Nat.reduceSub, List.length_cons, List.length_nil, bind_ok, bind_exc, bind_bad, e_seq, th_nx, th_ret, th_exc, th_bk, th_ct, e_set, e_setK, e_ret, e_retK, e_drop, e_dropK, e_retN, e_next, e_brk, e_cnt, e_if, e_ifE, e_and, e_or, e_not, onB_t, onB_f, onB_b, e_var, e_varK, e_c, e_bin, e_un, e_call, e_nil, e_cons, e_tup, e_tupK, e_lst, e_lstK, e_newLst, toDs_nil, toDs_d, Option.map_some, e_callV, e_callVT, ar_nil, ar_cons, ar_d, ar_t, e_argKT, af_d, af_new, af_exc, up_nil, up_cons, end_ret, end_exc, end_nx, out_d, v_add, v_sub, v_neg, v_lt, v_le, v_gt, v_ge, v_eqI, v_neI, v_gcd, v_abs, v_max, v_int, v_lenT, v_lenL, List.getElem?_cons_zero, List.getElem?_cons_succ, List.set_cons_zero, List.set_cons_succ, List.take_zero, List.take_nil, Bool.false_eq_true, if_false, if_true, eq_self, decide_true, decide_false, Bool.not_true, Bool.not_false, Nat.reduceAdd, Nat.reduceLeDiff, Nat.reduceLT, List.nil_append, List.cons_append, q]), if_f (st1 := ⟨[h, o, some (.c k), some (.d (.lst ys)), some (.d (.lst ys)), s5, s6], cs⟩) (by simp only [e_par, e_parK, e_asg, toD_d, e_nameT, e_consT, e_nilT, Option.bind_some, n_nx, n_ct, n_bk, n_ret, e_for, e_itE, e_itA, e_meth, ty_s, e_run1, e_run2, e_run3, e_run4, s_d1, s_d2, s_od, s_oo, s_o1, s_odd, s_t1, s_td, ic_d, ic_o, ic_t, ic_nil, e_argD, e_argDD, List.replicate, Nat.reduceSub, List.length_cons, List.length_nil, bind_ok, bind_exc, bind_bad, e_seq, th_nx, th_ret, th_exc, th_bk, th_ct, e_set, e_setK, e_ret, e_retK, e_drop, e_dropK, e_retN, e_next, e_brk, e_cnt, e_if, e_ifE, e_and, e_or, e_not, onB_t, onB_f, onB_b, e_var, e_varK, e_c, e_bin, e_un, e_call, e_nil, e_cons, e_tup, e_tupK, e_lst, e_lstK, e_newLst, toDs_nil, toDs_d, Option.map_some, e_callV, e_callVT, ar_nil, ar_cons, ar_d, ar_t, e_argKT, af_d, af_new, af_exc, up_nil, up_cons, end_ret, end_exc, end_nx, out_d, v_add, v_sub, v_neg, v_lt, v_le, v_gt, v_ge, v_eqI, v_neI, v_gcd, v_abs, v_max, v_int, v_lenT, v_lenL, List.getElem?_cons_zero, List.getElem?_cons_succ, List.set_cons_zero, List.set_cons_succ, List.take_zero, List.take_nil, Bool.false_eq_true, if_false, if_true, eq_self, decide_true, decide_false, Bool.not_true, Bool.not_false, Nat.reduceAdd, Nat.reduceLeDiff, Nat.reduceLT, List.nil_append, List.cons_append, q1]), if_f (st1 := ⟨[h, o, some (.c k), some (.d (.lst ys)), some (.d (.lst ys)), s5, s6], cs⟩) (by simp only [e_par, e_parK, e_asg, toD_d, e_nameT, e_consT, e_nilT, Option.bind_some, n_nx, n_ct, n_bk, n_ret, e_for, e_itE, e_itA, e_meth, ty_s, e_run1, e_run2, e_run3, e_run4, s_d1, s_d2, s_od, s_oo, s_o1, s_odd, s_t1, s_td, ic_d, ic_o, ic_t, ic_nil, e_argD, e_argDD, List.replicate, Nat.reduceSub, List.length_cons, List.length_nil, bind_ok, bind_exc, bind_bad, e_seq, th_nx, th_ret, th_exc, th_bk, th_ct, e_set, e_setK, e_ret, e_retK, e_drop, e_dropK, e_retN, e_next, e_brk, e_cnt, e_if, e_ifE, e_and, e_or, e_not, onB_t, onB_f, onB_b, e_var, e_varK, e_c, e_bin, e_un, e_call, e_nil, e_cons, e_tup, e_tupK, e_lst, e_lstK, e_newLst, toDs_nil, toDs_d, Option.map_some, e_callV, e_callVT, ar_nil, ar_cons, ar_d, ar_t, e_argKT, af_d, af_new, af_exc, up_nil, up_cons, end_ret, end_exc, end_nx, out_d, v_add, v_sub, v_neg, v_lt, v_le, v_gt, v_ge, v_eqI, v_neI, v_gcd, v_abs, v_max, v_int, v_lenT, v_lenL, List.getElem?_cons_zero, List.getElem?_cons_succ, List.set_cons_zero, List.set_cons_succ, List.take_zero, List.take_nil, Bool.false_eq_true, if_false, if_true, eq_self, decide_true, decide_false, Bool.not_true, Bool.not_false, Nat.reduceAdd, Nat.reduceLeDiff, Nat.reduceLT, List.nil_append, List.cons_append, q3]), if_f (st1 := ⟨[h, o, some (.c k), some (.d (.lst ys)), some (.d (.lst ys)), s5, s6], cs⟩) (by simp only [e_par, e_parK, e_asg, toD_d, e_nameT, e_consT, e_nilT, Option.bind_some, n_nx, n_ct, n_bk, n_ret, e_for, e_itE, e_itA, e_meth, ty_s, e_run1, e_run2, e_run3, e_run4, s_d1, s_d2, s_od, s_oo, s_o1, s_odd, s_t1, s_td, ic_d, ic_o, ic_t, ic_nil, e_argD, e_argDD, List.replicate, Nat.reduceSub, List.length_cons, List.length_nil, bind_ok, bind_exc, bind_bad, e_seq, th_nx, th_ret, th_exc, th_bk, th_ct, e_set, e_setK, e_ret, e_retK, e_drop, e_dropK, e_retN, e_next, e_brk, e_cnt, e_if, e_ifE, e_and, e_or, e_not, onB_t, onB_f, onB_b, e_var, e_varK, e_c, e_bin, e_un, e_call, e_nil, e_cons, e_tup, e_tupK, e_lst, e_lstK, e_newLst, toDs_nil, toDs_d, Option.map_some, e_callV, e_callVT, ar_nil, ar_cons, ar_d, ar_t, e_argKT, af_d, af_new, af_exc, up_nil, up_cons, end_ret, end_exc, end_nx, out_d, v_add, v_sub, v_neg, v_lt, v_le, v_gt, v_ge, v_eqI, v_neI, v_gcd, v_abs, v_max, v_int, v_lenT, v_lenL, List.getElem?_cons_zero, List.getElem?_cons_succ, List.set_cons_zero, List.set_cons_succ, List.take_zero, List.take_nil, Bool.false_eq_true, if_false, if_true, eq_self, decide_true, decide_false, Bool.not_true, Bool.not_false, Nat.reduceAdd, Nat.reduceLeDiff, Nat.reduceLT, List.nil_append, List.cons_append, q4]),
      seq_nx (st1 := ⟨[h, o, some (.c k), some (.d (.lst ys)), some (.d (.lst ys)), some (.d (.bl true)), s6], cs⟩) (by simp only [e_par, e_parK, e_asg, toD_d, e_nameT, e_consT, e_nilT, Option.bind_some, n_nx, n_ct, n_bk, n_ret, e_for, e_itE, e_itA, e_meth, ty_s, e_run1, e_run2, e_run3, e_run4, s_d1, s_d2, s_od, s_oo, s_o1, s_odd, s_t1, s_td, ic_d, ic_o, ic_t, ic_nil, e_argD, e_argDD, List.replicate, Nat.reduceSub, List.length_cons, List.length_nil, bind_ok, bind_exc, bind_bad, e_seq, th_nx, th_ret, th_exc, th_bk, th_ct, e_set, e_setK, e_ret, e_retK, e_drop, e_dropK, e_retN, e_next, e_brk, e_cnt, e_if, e_ifE, e_and, e_or, e_not, onB_t, onB_f, onB_b, e_var, e_varK, e_c, e_bin, e_un, e_call, e_nil, e_cons, e_tup, e_tupK, e_lst, e_lstK, e_newLst, toDs_nil, toDs_d, Option.map_some, e_callV, e_callVT, ar_nil, ar_cons, ar_d, ar_t, e_argKT, af_d, af_new, af_exc, up_nil, up_cons, end_ret, end_exc, end_nx, out_d, v_add, v_sub, v_neg, v_lt, v_le, v_gt, v_ge, v_eqI, v_neI, v_gcd, v_abs, v_max, v_int, v_lenT, v_lenL, List.getElem?_cons_zero, List.getElem?_cons_succ, List.set_cons_zero, List.set_cons_succ, List.take_zero, List.take_nil, Bool.false_eq_true, if_false, if_true, eq_self, decide_true, decide_false, Bool.not_true, Bool.not_false, Nat.reduceAdd, Nat.reduceLeDiff, Nat.reduceLT, List.nil_append, List.cons_append, q5, q6]), seq_nx (st1 := ⟨[h, o, some (.c k), some (.d (.lst ys)), some (.d (.lst ys)), some (.d (.bl true)), s6], cs⟩) (by simp only [e_par, e_parK, e_asg, toD_d, e_nameT, e_consT, e_nilT, Option.bind_some, n_nx, n_ct, n_bk, n_ret, e_for, e_itE, e_itA, e_meth, ty_s, e_run1, e_run2, e_run3, e_run4, s_d1, s_d2, s_od, s_oo, s_o1, s_odd, s_t1, s_td, ic_d, ic_o, ic_t, ic_nil, e_argD, e_argDD, List.replicate, Nat.reduceSub, List.length_cons, List.length_nil, bind_ok, bind_exc, bind_bad, e_seq, th_nx, th_ret, th_exc, th_bk, th_ct, e_set, e_setK, e_ret, e_retK, e_drop, e_dropK, e_retN, e_next, e_brk, e_cnt, e_if, e_ifE, e_and, e_or, e_not, onB_t, onB_f, onB_b, e_var, e_varK, e_c, e_bin, e_un, e_call, e_nil, e_cons, e_tup, e_tupK, e_lst, e_lstK, e_newLst, toDs_nil, toDs_d, Option.map_some, e_callV, e_callVT, ar_nil, ar_cons, ar_d, ar_t, e_argKT, af_d, af_new, af_exc, up_nil, up_cons, end_ret, end_exc, end_nx, out_d, v_add, v_sub, v_neg, v_lt, v_le, v_gt, v_ge, v_eqI, v_neI, v_gcd, v_abs, v_max, v_int, v_lenT, v_lenL, List.getElem?_cons_zero, List.getElem?_cons_succ, List.set_cons_zero, List.set_cons_succ, List.take_zero, List.take_nil, Bool.false_eq_true, if_false, if_true, eq_self, decide_true, decide_false, Bool.not_true, Bool.not_false, Nat.reduceAdd, Nat.reduceLeDiff, Nat.reduceLT, List.nil_append, List.cons_append, beq_self_eq_true])]
    exact drop_m (st1 := ⟨[h, o, some (.c k), some (.d (.lst ys)), some (.d (.lst ys)), some (.d (.bl true)), s6], cs⟩) (by simp only [e_par, e_parK, e_asg, toD_d, e_nameT, e_consT, e_nilT, Option.bind_some, n_nx, n_ct, n_bk, n_ret, e_for, e_itE, e_itA, e_meth, ty_s, e_run1, e_run2, e_run3, e_run4, s_d1, s_d2, s_od, s_oo, s_o1, s_odd, s_t1, s_td, ic_d, ic_o, ic_t, ic_nil, e_argD, e_argDD, List.replicate, Nat.reduceSub, List.length_cons, List.length_nil, bind_ok, bind_exc, bind_bad, e_seq, th_nx, th_ret, th_exc, th_bk, th_ct, e_set, e_setK, e_ret, e_retK, e_drop, e_dropK, e_retN, e_next, e_brk, e_cnt, e_if, e_ifE, e_and, e_or, e_not, onB_t, onB_f, onB_b, e_var, e_varK, e_c, e_bin, e_un, e_call, e_nil, e_cons, e_tup, e_tupK, e_lst, e_lstK, e_newLst, toDs_nil, toDs_d, Option.map_some, e_callV, e_callVT, ar_nil, ar_cons, ar_d, ar_t, e_argKT, af_d, af_new, af_exc, up_nil, up_cons, end_ret, end_exc, end_nx, out_d, v_add, v_sub, v_neg, v_lt, v_le, v_gt, v_ge, v_eqI, v_neI, v_gcd, v_abs, v_max, v_int, v_lenT, v_lenL, List.getElem?_cons_zero, List.getElem?_cons_succ, List.set_cons_zero, List.set_cons_succ, List.take_zero, List.take_nil, Bool.false_eq_true, if_false, if_true, eq_self, decide_true, decide_false, Bool.not_true, Bool.not_false, Nat.reduceAdd, Nat.reduceLeDiff, Nat.reduceLT, List.nil_append, List.cons_append]) (by show (cs[k]?).isSome = true; rw [hc]; rfl) ((ifE_t (by simp only [e_par, e_parK, e_asg, toD_d, e_nameT, e_consT, e_nilT, Option.bind_some, n_nx, n_ct, n_bk, n_ret, e_for, e_itE, e_itA, e_meth, ty_s, e_run1, e_run2, e_run3, e_run4, s_d1, s_d2, s_od, s_oo, s_o1, s_odd, s_t1, s_td, ic_d, ic_o, ic_t, ic_nil, e_argD, e_argDD, List.replicate, Nat.reduceSub, List.length_cons, List.length_nil, bind_ok, bind_exc, bind_bad, e_seq, th_nx, th_ret, th_exc, th_bk, th_ct, e_set, e_setK, e_ret, e_retK, e_drop, e_dropK, e_retN, e_next, e_brk, e_cnt, e_if, e_ifE, e_and, e_or, e_not, onB_t, onB_f, onB_b, e_var, e_varK, e_c, e_bin, e_un, e_call, e_nil, e_cons, e_tup, e_tupK, e_lst, e_lstK, e_newLst, toDs_nil, toDs_d, Option.map_some, e_callV, e_callVT, ar_nil, ar_cons, ar_d, ar_t, e_argKT, af_d, af_new, af_exc, up_nil, up_cons, end_ret, end_exc, end_nx, out_d, v_add, v_sub, v_neg, v_lt, v_le, v_gt, v_ge, v_eqI, v_neI, v_gcd, v_abs, v_max, v_int, v_lenT, v_lenL, List.getElem?_cons_zero, List.getElem?_cons_succ, List.set_cons_zero, List.set_cons_succ, List.take_zero, List.take_nil, Bool.false_eq_true, if_false, if_true, eq_self, decide_true, decide_false, Bool.not_true, Bool.not_false, Nat.reduceAdd, Nat.reduceLeDiff, Nat.reduceLT, List.nil_append, List.cons_append])).trans mk) (s_ext hc hl2)
  · rw [List.getElem?_set_self (by rw [List.length_append]; omega)]; rfl
  · rw [take_set, take_app (by omega)]
theorem s_mid {zs : List D} {x : D} {k : Nat} {h o s5 s6 : Option Val} {cs : List Cell} (hc : cs[k]? = some (.own (pairs zs))) (hx : Gd x) (hl : zs.length + (kids x).length ≤ 1000000) :
    ∃ cs', sMid ⟨[h, o, some (.c k), some (.d x), some (.d x), s5, s6], cs⟩ = .ok .nx ⟨[h, o, some (.c k), some (.d x), some (.d x), some (.d (.bl true)), s6], cs'⟩ ∧ cs'[k]? = some (.own (pairs (zs ++ kids x))) ∧ cs'.take k = cs.take k := by
  cases x with
  | non  => exact s_mid_non hc hx hl
  | bl b => exact s_mid_bl hc hx hl
  | int b => exact s_mid_int hc hx hl
  | str b => exact s_mid_str hc hx hl
  | tup ys => exact s_mid_tup hc hx hl
  | lst ys => exact s_mid_lst hc hx hl
  | klst ys => simp [Gd, Pl] at hx
  | obj n => simp [Gd, Pl] at hx
  | ty n => simp [Gd, Pl] at hx
end Law
end
section
set_option Elab.async false
set_option linter.all false
set_option maxRecDepth 100000
set_option maxHeartbeats 4000000
namespace Law
open PySem Sh
theorem w_step {t : S → OE} {g : S → OS} {n : Nat} {st st1 st2 : S} (h : t st = .ok (.d (.bl true)) st1) (h2 : g st1 = .ok .nx st2) : whileS t g (n + 1) st = whileS t g n st2 := by
  rw [whileS, h, bind_ok, onB_t, h2]
theorem w_stop {t : S → OE} {g : S → OS} {n : Nat} {st st1 : S} (h : t st = .ok (.d (.bl false)) st1) : whileS t g (n + 1) st = .ok .nx st1 := by
  rw [whileS, h, bind_ok, onB_f]; rfl
theorem szD_pos (x : D) : 1 ≤ szD x := by cases x <;> simp [szD]
theorem szDs_len : ∀ zs : List D, zs.length ≤ szDs zs
  | [] => Nat.le_refl _
  | x :: r => by
    have := szDs_len r
    have := szD_pos x
    simp only [szDs, List.length_cons]; omega
theorem szDs_app : ∀ (zs ys : List D), szDs (zs ++ ys) = szDs zs + szDs ys
  | [], ys => by simp [szDs]
  | x :: r, ys => by simp only [List.cons_append, szDs, szDs_app r ys]; omega
theorem kids_sz (x : D) : szDs (kids x) + 1 ≤ szD x := by cases x <;> simp [kids, szD, szDs]
theorem kids_Gd {x : D} (h : Gd x) : ∀ y ∈ kids x, Gd y := by
  intro y hy
  cases x with
  | tup ys =>
    have h1 : Pls ys = true := by simpa [Pl] using h.1
    have h2 : deps ys + 1 ≤ 50 := by simpa [dep] using h.2
    have := dep_mem (show y ∈ ys from hy)
    exact ⟨Pls_mem h1 y hy, by omega⟩
  | lst ys =>
    have h1 : Pls ys = true := by simpa [Pl] using h.1
    have h2 : deps ys + 1 ≤ 50 := by simpa [dep] using h.2
    have := dep_mem (show y ∈ ys from hy)
    exact ⟨Pls_mem h1 y hy, by omega⟩
  | _ => cases hy
theorem s_body {zs : List D} {x : D} {k : Nat} {h o s3 s4 s5 s6 : Option Val} {cs : List Cell} (hc : cs[k]? = some (.own (pairs (zs ++ [x])))) (hx : Gd x) (hl : zs.length + (kids x).length ≤ 1000000) :
    ∃ cs', sBody ⟨[h, o, some (.c k), s3, s4, s5, s6], cs⟩ = .ok .nx ⟨[h, o, some (.c k), some (.d x), some (.d x), some (.d (.bl true)), s6], cs'⟩ ∧ cs'[k]? = some (.own (pairs (zs ++ kids x))) ∧ cs'.take k = cs.take k := by
  have hk : k < cs.length := (List.getElem?_eq_some_iff.mp hc).1
  obtain ⟨cs', h1, h2, h3⟩ := s_mid (h := h) (o := o) (s5 := s5) (s6 := s6) (cs := cs.set k (.own (pairs zs))) (List.getElem?_set_self hk) hx hl
  refine ⟨cs', ?_, h2, by rw [h3, take_set]⟩
  unfold sBody
  rw [seq_nx (s_pop hc), seq_nx h1]
  unfold sEnd
  simp only [e_par, e_parK, e_asg, toD_d, e_nameT, e_consT, e_nilT, Option.bind_some, n_nx, n_ct, n_bk, n_ret, e_for, e_itE, e_itA, e_meth, ty_s, e_run1, e_run2, e_run3, e_run4, s_d1, s_d2, s_od, s_oo, s_o1, s_odd, s_t1, s_td, ic_d, ic_o, ic_t, ic_nil, e_argD, e_argDD, List.replicate, Nat.reduceSub, List.length_cons, List.length_nil, bind_ok, bind_exc, bind_bad, e_seq, th_nx, th_ret, th_exc, th_bk, th_ct, e_set, e_setK, e_ret, e_retK, e_drop, e_dropK, e_retN, e_next, e_brk, e_cnt, e_if, e_ifE, e_and, e_or, e_not, onB_t, onB_f, onB_b, e_var, e_varK, e_c, e_bin, e_un, e_call, e_nil, e_cons, e_tup, e_tupK, e_lst, e_lstK, e_newLst, toDs_nil, toDs_d, Option.map_some, e_callV, e_callVT, ar_nil, ar_cons, ar_d, ar_t, e_argKT, af_d, af_new, af_exc, up_nil, up_cons, end_ret, end_exc, end_nx, out_d, v_add, v_sub, v_neg, v_lt, v_le, v_gt, v_ge, v_eqI, v_neI, v_gcd, v_abs, v_max, v_int, v_lenT, v_lenL, List.getElem?_cons_zero, List.getElem?_cons_succ, List.set_cons_zero, List.set_cons_succ, List.take_zero, List.take_nil, Bool.false_eq_true, if_false, if_true, eq_self, decide_true, decide_false, Bool.not_true, Bool.not_false, Nat.reduceAdd, Nat.reduceLeDiff, Nat.reduceLT, List.nil_append, List.cons_append]
theorem same_loop {h o s6 : Option Val} {k : Nat} : ∀ (n : Nat) (zs : List D) (s3 s4 s5 : Option Val) (cs : List Cell), szDs zs < n → szDs zs ≤ 1000000 → (∀ y ∈ zs, Gd y) → cs[k]? = some (.own (pairs zs)) →
    ∃ s3' s4' s5' cs', whileS sTest sBody n ⟨[h, o, some (.c k), s3, s4, s5, s6], cs⟩ = .ok .nx ⟨[h, o, some (.c k), s3', s4', s5', s6], cs'⟩ ∧ cs'.take k = cs.take k
  | 0, zs, _, _, _, _, hn, _, _, _ => absurd hn (by omega)
  | n + 1, zs, s3, s4, s5, cs, hn, hm, hg, hc => by
    have hk : k < cs.length := (List.getElem?_eq_some_iff.mp hc).1
    have ht := s_test (h := h) (o := o) (s3 := s3) (s4 := s4) (s5 := s5) (s6 := s6) hc hg
    rcases List.eq_nil_or_concat zs with rfl | ⟨zs', x, rfl⟩
    · exact ⟨s3, s4, s5, _, w_stop ht, take_app (by omega)⟩
    · rw [List.concat_eq_append] at *
      have e : (!(zs' ++ [x]).isEmpty) = true := by simp
      rw [e] at ht
      have sz : szDs (zs' ++ [x]) = szDs zs' + szD x := by rw [szDs_app]; simp [szDs]
      have kz := kids_sz x
      have l1 := szDs_len zs'
      have l2 := szDs_len (kids x)
      have hx : Gd x := hg x (by simp)
      have hc2 : (cs ++ [Cell.own []])[k]? = some (.own (pairs (zs' ++ [x]))) := by rw [List.getElem?_append_left hk]; exact hc
      obtain ⟨cs', h1, h2, h3⟩ := s_body (h := h) (o := o) (s3 := s3) (s4 := s4) (s5 := s5) (s6 := s6) hc2 hx (by omega)
      obtain ⟨a, b, c, cs2, h4, h5⟩ := same_loop (h := h) (o := o) (s6 := s6) (k := k) n (zs' ++ kids x) (some (.d x)) (some (.d x)) (some (.d (.bl true))) cs' (by rw [szDs_app]; omega) (by rw [szDs_app]; omega)
        (fun y hy => by
          rcases List.mem_append.mp hy with hy | hy
          · exact hg y (List.mem_append.mpr (.inl hy))
          · exact kids_Gd hx y hy) h2
      exact ⟨a, b, c, cs2, by rw [w_step ht h1, h4], by rw [h5, h3, take_app (by omega)]⟩
theorem same_d {x : D} (hx : Gd x) (hs : szD x ≤ 1000000) : d__law_wb_same [.d x, .d x] = .ok (.d (.bl true)) [] := by
  have hf : szDs [x] < fuelA [.d x, .d x] := by simp only [szDs, fuelA]; omega
  have hm : szDs [x] ≤ 1000000 := by simp only [szDs]; omega
  have hg : ∀ y ∈ [x], Gd y := fun y hy => by rw [List.mem_singleton.mp hy]; exact hx
  rw [d__law_wb_same]
  generalize fuelA [.d x, .d x] = n at hf
  rw [same_is]
  rw [e_run2, s_d2]
  obtain ⟨a, b, c, cs', h1, h2⟩ := same_loop (h := some (.d x)) (o := some (.d x)) (s6 := none) (k := 0) n [x] none none none [.own (pairs [x])] hf hm hg rfl
  have h0 : setS 2 (lstE [(tupE [(varE 0), (varE 1)])]) ⟨some (.d x) :: some (.d x) :: List.replicate (7 - 2) none, []⟩ = .ok .nx ⟨[some (.d x), some (.d x), some (.c 0), none, none, none, none], [.own (pairs [x])]⟩ := by
    simp only [e_par, e_parK, e_asg, toD_d, e_nameT, e_consT, e_nilT, Option.bind_some, n_nx, n_ct, n_bk, n_ret, e_for, e_itE, e_itA, e_meth, ty_s, e_run1, e_run2, e_run3, e_run4, s_d1, s_d2, s_od, s_oo, s_o1, s_odd, s_t1, s_td, ic_d, ic_o, ic_t, ic_nil, e_argD, e_argDD, List.replicate, Nat.reduceSub, List.length_cons, List.length_nil, bind_ok, bind_exc, bind_bad, e_seq, th_nx, th_ret, th_exc, th_bk, th_ct, e_set, e_setK, e_ret, e_retK, e_drop, e_dropK, e_retN, e_next, e_brk, e_cnt, e_if, e_ifE, e_and, e_or, e_not, onB_t, onB_f, onB_b, e_var, e_varK, e_c, e_bin, e_un, e_call, e_nil, e_cons, e_tup, e_tupK, e_lst, e_lstK, e_newLst, toDs_nil, toDs_d, Option.map_some, e_callV, e_callVT, ar_nil, ar_cons, ar_d, ar_t, e_argKT, af_d, af_new, af_exc, up_nil, up_cons, end_ret, end_exc, end_nx, out_d, v_add, v_sub, v_neg, v_lt, v_le, v_gt, v_ge, v_eqI, v_neI, v_gcd, v_abs, v_max, v_int, v_lenT, v_lenL, List.getElem?_cons_zero, List.getElem?_cons_succ, List.set_cons_zero, List.set_cons_succ, List.take_zero, List.take_nil, Bool.false_eq_true, if_false, if_true, eq_self, decide_true, decide_false, Bool.not_true, Bool.not_false, Nat.reduceAdd, Nat.reduceLeDiff, Nat.reduceLT, List.nil_append, List.cons_append]; rfl
  rw [seq_nx h0, seq_nx h1]
  rfl
theorem same_o {xs : List D} (hx : Gd (.lst xs)) (hs : szDs xs ≤ 999999) : d__law_wb_same [.o xs, .o xs] = .ok (.d (.bl true)) [.frz xs, .frz xs] := by
  have hf : szDs [.lst xs] < fuelA [.o xs, .o xs] := by simp only [szDs, szD, fuelA]; omega
  have hm : szDs [.lst xs] ≤ 1000000 := by simp only [szDs, szD]; omega
  have hg : ∀ y ∈ [D.lst xs], Gd y := fun y hy => by rw [List.mem_singleton.mp hy]; exact hx
  rw [d__law_wb_same]
  generalize fuelA [.o xs, .o xs] = n at hf
  rw [same_is]
  rw [e_run2, s_oo]
  obtain ⟨a, b, c, cs', h1, h2⟩ := same_loop (h := some (.c 0)) (o := some (.c 1)) (s6 := none) (k := 2) n [.lst xs] none none none [.frz xs, .frz xs, .own (pairs [.lst xs])] hf hm hg rfl
  have h0 : setS 2 (lstE [(tupE [(varE 0), (varE 1)])]) ⟨some (.c 0) :: some (.c 1) :: List.replicate (7 - 2) none, [.own xs, .own xs]⟩ = .ok .nx ⟨[some (.c 0), some (.c 1), some (.c 2), none, none, none, none], [.frz xs, .frz xs, .own (pairs [.lst xs])]⟩ := rfl
  rw [seq_nx h0, seq_nx h1]
  show RD.ok _ (cs'.take 2) = _
  rw [h2]
  rfl
end Law
end
section
set_option Elab.async false
set_option linter.all false
set_option maxRecDepth 100000
set_option maxHeartbeats 4000000
namespace Law
open PySem Sh
/-! ### told or refused -/
theorem heard_t (x : D) : d__law_a2_heard [.t true "" x] = .ok (.d (.tup [.str "told", x])) [] := rfl
theorem heard_b (x : D) : d__law_a2_heard [.t false "BadFraction" x] = .ok (.d (.tup [.str "BadFraction", x])) [] := rfl
theorem heard_n (x : D) : d__law_a2_heard [.t false "Nought" x] = .ok (.d (.tup [.str "Nought", x])) [] := rfl
theorem lam_t {caps : List Nat} {fb : S → OE} {st st1 st2 : S} {xs : List D} {y : D} (h1 : frzL caps st = some (xs, st1)) (h2 : fb ⟨capV st.v.length caps xs, []⟩ = .ok (.d y) st2) : lamE d__law_a2_heard caps fb [] st = .ok (.d (.tup [.str "told", y])) st1 := by
  rw [e_lam, h1]
  simp only [thkOf, h2, toD_d, e_nil, bind_ok, ar_nil]
  rw [nt_nil, if_pos rfl, heard_t]
  obtain ⟨vs, cs⟩ := st1
  rw [af_d, up_nil]
theorem lam_b {caps : List Nat} {fb : S → OE} {st st1 st2 : S} {xs : List D} {y : D} (h1 : frzL caps st = some (xs, st1)) (h2 : fb ⟨capV st.v.length caps xs, []⟩ = .exc "BadFraction" y st2) : lamE d__law_a2_heard caps fb [] st = .ok (.d (.tup [.str "BadFraction", y])) st1 := by
  rw [e_lam, h1]
  simp only [thkOf, h2, toD_d, e_nil, bind_ok, ar_nil]
  rw [nt_nil, if_pos rfl, heard_b]
  obtain ⟨vs, cs⟩ := st1
  rw [af_d, up_nil]
theorem lam_n {caps : List Nat} {fb : S → OE} {st st1 st2 : S} {xs : List D} {y : D} (h1 : frzL caps st = some (xs, st1)) (h2 : fb ⟨capV st.v.length caps xs, []⟩ = .exc "Nought" y st2) : lamE d__law_a2_heard caps fb [] st = .ok (.d (.tup [.str "Nought", y])) st1 := by
  rw [e_lam, h1]
  simp only [thkOf, h2, toD_d, e_nil, bind_ok, ar_nil]
  rw [nt_nil, if_pos rfl, heard_n]
  obtain ⟨vs, cs⟩ := st1
  rw [af_d, up_nil]
/-! ### sums, products -/
def Bd (a : Int) : Prop := a.natAbs < 2 ^ 1900
theorem Bd.log {a : Int} (h : Bd a) : a.natAbs.log2 < 1900 := by
  by_cases z : a.natAbs = 0
  · rw [z]; decide
  · exact (Nat.log2_lt z).mpr h
theorem p2 (a b : Nat) : 2 ^ a * 2 ^ b = 2 ^ (a + b) := (Nat.pow_add 2 a b).symm
theorem Bd.mulS {a b : Int} (ha : Bd a) (hb : Bd b) : (a * b).natAbs < 2 ^ 3800 := by
  rw [Int.natAbs_mul, ← p2 1900 1900]
  exact Nat.mul_lt_mul'' ha hb
theorem Bd.mul {a b : Int} (ha : Bd a) (hb : Bd b) : Sm (a * b) := Nat.lt_trans (ha.mulS hb) (Nat.pow_lt_pow_right (by decide) (by decide))
theorem S2 {a b : Int} (ha : a.natAbs < 2 ^ 3800) (hb : b.natAbs < 2 ^ 3800) : Sm (a + b) := by
  have h1 : (a + b).natAbs ≤ a.natAbs + b.natAbs := Int.natAbs_add_le a b
  have h2 : (2 : Nat) ^ 3800 + 2 ^ 3800 = 2 ^ 3801 := by rw [Nat.pow_succ]; omega
  have h3 : (2 : Nat) ^ 3801 ≤ 2 ^ 4000 := Nat.pow_le_pow_right (by decide) (by decide)
  unfold Sm
  generalize (2 : Nat) ^ 3800 = X at *
  generalize (2 : Nat) ^ 3801 = Y at *
  generalize (2 : Nat) ^ 4000 = Z at *
  omega
theorem Bd.neg {a : Int} (ha : Bd a) : Bd (-a) := by unfold Bd; rw [Int.natAbs_neg]; exact ha
theorem mv {a b : Int} (ha : Bd a) (hb : Bd b) (st : S) : mulV (.d (.int a)) (.d (.int b)) st = .ok (.d (.int (a * b))) st := by
  apply Sh.v_mul
  have := ha.log
  have := hb.log
  omega
theorem ix0 (x y : D) (st : S) : ixV (.d (.tup [x, y])) (.d (.int 0)) st = .ok (.d x) st := rfl
theorem ix1 (x y : D) (st : S) : ixV (.d (.tup [x, y])) (.d (.int 1)) st = .ok (.d y) st := rfl
section
variable {p q r s : Int}
theorem aplus_ok (hp : Bd p) (hq : Bd q) (hr : Bd r) (hs : Bd s) (q0 : q ≠ 0) (s0 : s ≠ 0) : d_a_plus [.d (fr p q), .d (fr r s)] = .ok (.d (low (p * s + r * q) (q * s))) [] := by
  have h := lowest_ok (p := p * s + r * q) (q := q * s) (Int.mul_ne_zero q0 s0) (hq.mul hs)
  rw [d_a_plus]
  unfold m_a_plus
  simp only [e_par, e_parK, e_asg, toD_d, e_nameT, e_consT, e_nilT, Option.bind_some, n_nx, n_ct, n_bk, n_ret, e_for, e_itE, e_itA, e_meth, ty_s, e_run1, e_run2, e_run3, e_run4, s_d1, s_d2, s_od, s_oo, s_o1, s_odd, s_t1, s_td, ic_d, ic_o, ic_t, ic_nil, e_argD, e_argDD, List.replicate, Nat.reduceSub, List.length_cons, List.length_nil, bind_ok, bind_exc, bind_bad, e_seq, th_nx, th_ret, th_exc, th_bk, th_ct, e_set, e_setK, e_ret, e_retK, e_drop, e_dropK, e_retN, e_next, e_brk, e_cnt, e_if, e_ifE, e_and, e_or, e_not, onB_t, onB_f, onB_b, e_var, e_varK, e_c, e_bin, e_un, e_call, e_nil, e_cons, e_tup, e_tupK, e_lst, e_lstK, e_newLst, toDs_nil, toDs_d, Option.map_some, e_callV, e_callVT, ar_nil, ar_cons, ar_d, ar_t, e_argKT, af_d, af_new, af_exc, up_nil, up_cons, end_ret, end_exc, end_nx, out_d, v_add, v_sub, v_neg, v_lt, v_le, v_gt, v_ge, v_eqI, v_neI, v_gcd, v_abs, v_max, v_int, v_lenT, v_lenL, List.getElem?_cons_zero, List.getElem?_cons_succ, List.set_cons_zero, List.set_cons_succ, List.take_zero, List.take_nil, Bool.false_eq_true, if_false, if_true, eq_self, decide_true, decide_false, Bool.not_true, Bool.not_false, Nat.reduceAdd, Nat.reduceLeDiff, Nat.reduceLT, List.nil_append, List.cons_append, fr, ix0, ix1, mv hp hs, mv hr hq, mv hq hs, h]
theorem aminus_ok (hp : Bd p) (hq : Bd q) (hr : Bd r) (hs : Bd s) (q0 : q ≠ 0) (s0 : s ≠ 0) : d_a_minus [.d (fr p q), .d (fr r s)] = .ok (.d (low (p * s - r * q) (q * s))) [] := by
  have h := lowest_ok (p := p * s - r * q) (q := q * s) (Int.mul_ne_zero q0 s0) (hq.mul hs)
  rw [d_a_minus]
  unfold m_a_minus
  simp only [e_par, e_parK, e_asg, toD_d, e_nameT, e_consT, e_nilT, Option.bind_some, n_nx, n_ct, n_bk, n_ret, e_for, e_itE, e_itA, e_meth, ty_s, e_run1, e_run2, e_run3, e_run4, s_d1, s_d2, s_od, s_oo, s_o1, s_odd, s_t1, s_td, ic_d, ic_o, ic_t, ic_nil, e_argD, e_argDD, List.replicate, Nat.reduceSub, List.length_cons, List.length_nil, bind_ok, bind_exc, bind_bad, e_seq, th_nx, th_ret, th_exc, th_bk, th_ct, e_set, e_setK, e_ret, e_retK, e_drop, e_dropK, e_retN, e_next, e_brk, e_cnt, e_if, e_ifE, e_and, e_or, e_not, onB_t, onB_f, onB_b, e_var, e_varK, e_c, e_bin, e_un, e_call, e_nil, e_cons, e_tup, e_tupK, e_lst, e_lstK, e_newLst, toDs_nil, toDs_d, Option.map_some, e_callV, e_callVT, ar_nil, ar_cons, ar_d, ar_t, e_argKT, af_d, af_new, af_exc, up_nil, up_cons, end_ret, end_exc, end_nx, out_d, v_add, v_sub, v_neg, v_lt, v_le, v_gt, v_ge, v_eqI, v_neI, v_gcd, v_abs, v_max, v_int, v_lenT, v_lenL, List.getElem?_cons_zero, List.getElem?_cons_succ, List.set_cons_zero, List.set_cons_succ, List.take_zero, List.take_nil, Bool.false_eq_true, if_false, if_true, eq_self, decide_true, decide_false, Bool.not_true, Bool.not_false, Nat.reduceAdd, Nat.reduceLeDiff, Nat.reduceLT, List.nil_append, List.cons_append, fr, ix0, ix1, mv hp hs, mv hr hq, mv hq hs, h]
theorem atimes_ok (hp : Bd p) (hq : Bd q) (hr : Bd r) (hs : Bd s) (q0 : q ≠ 0) (s0 : s ≠ 0) : d_a_times [.d (fr p q), .d (fr r s)] = .ok (.d (low (p * r) (q * s))) [] := by
  have h := lowest_ok (p := p * r) (q := q * s) (Int.mul_ne_zero q0 s0) (hq.mul hs)
  rw [d_a_times]
  unfold m_a_times
  simp only [e_par, e_parK, e_asg, toD_d, e_nameT, e_consT, e_nilT, Option.bind_some, n_nx, n_ct, n_bk, n_ret, e_for, e_itE, e_itA, e_meth, ty_s, e_run1, e_run2, e_run3, e_run4, s_d1, s_d2, s_od, s_oo, s_o1, s_odd, s_t1, s_td, ic_d, ic_o, ic_t, ic_nil, e_argD, e_argDD, List.replicate, Nat.reduceSub, List.length_cons, List.length_nil, bind_ok, bind_exc, bind_bad, e_seq, th_nx, th_ret, th_exc, th_bk, th_ct, e_set, e_setK, e_ret, e_retK, e_drop, e_dropK, e_retN, e_next, e_brk, e_cnt, e_if, e_ifE, e_and, e_or, e_not, onB_t, onB_f, onB_b, e_var, e_varK, e_c, e_bin, e_un, e_call, e_nil, e_cons, e_tup, e_tupK, e_lst, e_lstK, e_newLst, toDs_nil, toDs_d, Option.map_some, e_callV, e_callVT, ar_nil, ar_cons, ar_d, ar_t, e_argKT, af_d, af_new, af_exc, up_nil, up_cons, end_ret, end_exc, end_nx, out_d, v_add, v_sub, v_neg, v_lt, v_le, v_gt, v_ge, v_eqI, v_neI, v_gcd, v_abs, v_max, v_int, v_lenT, v_lenL, List.getElem?_cons_zero, List.getElem?_cons_succ, List.set_cons_zero, List.set_cons_succ, List.take_zero, List.take_nil, Bool.false_eq_true, if_false, if_true, eq_self, decide_true, decide_false, Bool.not_true, Bool.not_false, Nat.reduceAdd, Nat.reduceLeDiff, Nat.reduceLT, List.nil_append, List.cons_append, fr, ix0, ix1, mv hp hr, mv hq hs, h]
theorem aover_ok (hp : Bd p) (hq : Bd q) (hr : Bd r) (hs : Bd s) (q0 : q ≠ 0) (r0 : r ≠ 0) : d_a_over [.d (fr p q), .d (fr r s)] = .ok (.d (low (p * s) (q * r))) [] := by
  have h := lowest_ok (p := p * s) (q := q * r) (Int.mul_ne_zero q0 r0) (hq.mul hr)
  rw [d_a_over]
  unfold m_a_over
  simp only [e_par, e_parK, e_asg, toD_d, e_nameT, e_consT, e_nilT, Option.bind_some, n_nx, n_ct, n_bk, n_ret, e_for, e_itE, e_itA, e_meth, ty_s, e_run1, e_run2, e_run3, e_run4, s_d1, s_d2, s_od, s_oo, s_o1, s_odd, s_t1, s_td, ic_d, ic_o, ic_t, ic_nil, e_argD, e_argDD, List.replicate, Nat.reduceSub, List.length_cons, List.length_nil, bind_ok, bind_exc, bind_bad, e_seq, th_nx, th_ret, th_exc, th_bk, th_ct, e_set, e_setK, e_ret, e_retK, e_drop, e_dropK, e_retN, e_next, e_brk, e_cnt, e_if, e_ifE, e_and, e_or, e_not, onB_t, onB_f, onB_b, e_var, e_varK, e_c, e_bin, e_un, e_call, e_nil, e_cons, e_tup, e_tupK, e_lst, e_lstK, e_newLst, toDs_nil, toDs_d, Option.map_some, e_callV, e_callVT, ar_nil, ar_cons, ar_d, ar_t, e_argKT, af_d, af_new, af_exc, up_nil, up_cons, end_ret, end_exc, end_nx, out_d, v_add, v_sub, v_neg, v_lt, v_le, v_gt, v_ge, v_eqI, v_neI, v_gcd, v_abs, v_max, v_int, v_lenT, v_lenL, List.getElem?_cons_zero, List.getElem?_cons_succ, List.set_cons_zero, List.set_cons_succ, List.take_zero, List.take_nil, Bool.false_eq_true, if_false, if_true, eq_self, decide_true, decide_false, Bool.not_true, Bool.not_false, Nat.reduceAdd, Nat.reduceLeDiff, Nat.reduceLT, List.nil_append, List.cons_append, fr, ix0, ix1, mv hp hs, mv hq hr, h]
theorem wplus_ok (hp : Bd p) (hq : Bd q) (hr : Bd r) (hs : Bd s) (q0 : q ≠ 0) (s0 : s ≠ 0) : d__law_wb_plus [.d (fr p q), .d (fr r s)] = .ok (.d (low (p * s + r * q) (q * s))) [] := by
  have h := low_ok (p := p * s + r * q) (q := q * s) (Int.mul_ne_zero q0 s0) (S2 (hp.mulS hs) (hr.mulS hq)) (hq.mul hs)
  rw [d__law_wb_plus]
  unfold m__law_wb_plus
  simp only [e_par, e_parK, e_asg, toD_d, e_nameT, e_consT, e_nilT, Option.bind_some, n_nx, n_ct, n_bk, n_ret, e_for, e_itE, e_itA, e_meth, ty_s, e_run1, e_run2, e_run3, e_run4, s_d1, s_d2, s_od, s_oo, s_o1, s_odd, s_t1, s_td, ic_d, ic_o, ic_t, ic_nil, e_argD, e_argDD, List.replicate, Nat.reduceSub, List.length_cons, List.length_nil, bind_ok, bind_exc, bind_bad, e_seq, th_nx, th_ret, th_exc, th_bk, th_ct, e_set, e_setK, e_ret, e_retK, e_drop, e_dropK, e_retN, e_next, e_brk, e_cnt, e_if, e_ifE, e_and, e_or, e_not, onB_t, onB_f, onB_b, e_var, e_varK, e_c, e_bin, e_un, e_call, e_nil, e_cons, e_tup, e_tupK, e_lst, e_lstK, e_newLst, toDs_nil, toDs_d, Option.map_some, e_callV, e_callVT, ar_nil, ar_cons, ar_d, ar_t, e_argKT, af_d, af_new, af_exc, up_nil, up_cons, end_ret, end_exc, end_nx, out_d, v_add, v_sub, v_neg, v_lt, v_le, v_gt, v_ge, v_eqI, v_neI, v_gcd, v_abs, v_max, v_int, v_lenT, v_lenL, List.getElem?_cons_zero, List.getElem?_cons_succ, List.set_cons_zero, List.set_cons_succ, List.take_zero, List.take_nil, Bool.false_eq_true, if_false, if_true, eq_self, decide_true, decide_false, Bool.not_true, Bool.not_false, Nat.reduceAdd, Nat.reduceLeDiff, Nat.reduceLT, List.nil_append, List.cons_append, fr, ix0, ix1, mv hp hs, mv hr hq, mv hq hs, h]
theorem wminus_ok (hp : Bd p) (hq : Bd q) (hr : Bd r) (hs : Bd s) (q0 : q ≠ 0) (s0 : s ≠ 0) : d__law_wb_minus [.d (fr p q), .d (fr r s)] = .ok (.d (low (p * s - r * q) (q * s))) [] := by
  have h := wplus_ok hp hq hr.neg hs q0 s0
  rw [Int.neg_mul, ← Int.sub_eq_add_neg] at h
  rw [d__law_wb_minus]
  unfold m__law_wb_minus
  simp only [e_par, e_parK, e_asg, toD_d, e_nameT, e_consT, e_nilT, Option.bind_some, n_nx, n_ct, n_bk, n_ret, e_for, e_itE, e_itA, e_meth, ty_s, e_run1, e_run2, e_run3, e_run4, s_d1, s_d2, s_od, s_oo, s_o1, s_odd, s_t1, s_td, ic_d, ic_o, ic_t, ic_nil, e_argD, e_argDD, List.replicate, Nat.reduceSub, List.length_cons, List.length_nil, bind_ok, bind_exc, bind_bad, e_seq, th_nx, th_ret, th_exc, th_bk, th_ct, e_set, e_setK, e_ret, e_retK, e_drop, e_dropK, e_retN, e_next, e_brk, e_cnt, e_if, e_ifE, e_and, e_or, e_not, onB_t, onB_f, onB_b, e_var, e_varK, e_c, e_bin, e_un, e_call, e_nil, e_cons, e_tup, e_tupK, e_lst, e_lstK, e_newLst, toDs_nil, toDs_d, Option.map_some, e_callV, e_callVT, ar_nil, ar_cons, ar_d, ar_t, e_argKT, af_d, af_new, af_exc, up_nil, up_cons, end_ret, end_exc, end_nx, out_d, v_add, v_sub, v_neg, v_lt, v_le, v_gt, v_ge, v_eqI, v_neI, v_gcd, v_abs, v_max, v_int, v_lenT, v_lenL, List.getElem?_cons_zero, List.getElem?_cons_succ, List.set_cons_zero, List.set_cons_succ, List.take_zero, List.take_nil, Bool.false_eq_true, if_false, if_true, eq_self, decide_true, decide_false, Bool.not_true, Bool.not_false, Nat.reduceAdd, Nat.reduceLeDiff, Nat.reduceLT, List.nil_append, List.cons_append, fr, ix0, ix1, Int.zero_sub, h]
theorem wtimes_ok (hp : Bd p) (hq : Bd q) (hr : Bd r) (hs : Bd s) (q0 : q ≠ 0) (s0 : s ≠ 0) : d__law_wb_times [.d (fr p q), .d (fr r s)] = .ok (.d (low (p * r) (q * s))) [] := by
  have h := low_ok (p := p * r) (q := q * s) (Int.mul_ne_zero q0 s0) (hp.mul hr) (hq.mul hs)
  rw [d__law_wb_times]
  unfold m__law_wb_times
  simp only [e_par, e_parK, e_asg, toD_d, e_nameT, e_consT, e_nilT, Option.bind_some, n_nx, n_ct, n_bk, n_ret, e_for, e_itE, e_itA, e_meth, ty_s, e_run1, e_run2, e_run3, e_run4, s_d1, s_d2, s_od, s_oo, s_o1, s_odd, s_t1, s_td, ic_d, ic_o, ic_t, ic_nil, e_argD, e_argDD, List.replicate, Nat.reduceSub, List.length_cons, List.length_nil, bind_ok, bind_exc, bind_bad, e_seq, th_nx, th_ret, th_exc, th_bk, th_ct, e_set, e_setK, e_ret, e_retK, e_drop, e_dropK, e_retN, e_next, e_brk, e_cnt, e_if, e_ifE, e_and, e_or, e_not, onB_t, onB_f, onB_b, e_var, e_varK, e_c, e_bin, e_un, e_call, e_nil, e_cons, e_tup, e_tupK, e_lst, e_lstK, e_newLst, toDs_nil, toDs_d, Option.map_some, e_callV, e_callVT, ar_nil, ar_cons, ar_d, ar_t, e_argKT, af_d, af_new, af_exc, up_nil, up_cons, end_ret, end_exc, end_nx, out_d, v_add, v_sub, v_neg, v_lt, v_le, v_gt, v_ge, v_eqI, v_neI, v_gcd, v_abs, v_max, v_int, v_lenT, v_lenL, List.getElem?_cons_zero, List.getElem?_cons_succ, List.set_cons_zero, List.set_cons_succ, List.take_zero, List.take_nil, Bool.false_eq_true, if_false, if_true, eq_self, decide_true, decide_false, Bool.not_true, Bool.not_false, Nat.reduceAdd, Nat.reduceLeDiff, Nat.reduceLT, List.nil_append, List.cons_append, fr, ix0, ix1, mv hp hr, mv hq hs, h]
theorem wover_ok (hp : Bd p) (hq : Bd q) (hr : Bd r) (hs : Bd s) (q0 : q ≠ 0) (r0 : r ≠ 0) : d__law_wb_over [.d (fr p q), .d (fr r s)] = .ok (.d (low (p * s) (q * r))) [] := by
  have h := low_ok (p := p * s) (q := q * r) (Int.mul_ne_zero q0 r0) (hp.mul hs) (hq.mul hr)
  rw [d__law_wb_over]
  unfold m__law_wb_over
  simp only [e_par, e_parK, e_asg, toD_d, e_nameT, e_consT, e_nilT, Option.bind_some, n_nx, n_ct, n_bk, n_ret, e_for, e_itE, e_itA, e_meth, ty_s, e_run1, e_run2, e_run3, e_run4, s_d1, s_d2, s_od, s_oo, s_o1, s_odd, s_t1, s_td, ic_d, ic_o, ic_t, ic_nil, e_argD, e_argDD, List.replicate, Nat.reduceSub, List.length_cons, List.length_nil, bind_ok, bind_exc, bind_bad, e_seq, th_nx, th_ret, th_exc, th_bk, th_ct, e_set, e_setK, e_ret, e_retK, e_drop, e_dropK, e_retN, e_next, e_brk, e_cnt, e_if, e_ifE, e_and, e_or, e_not, onB_t, onB_f, onB_b, e_var, e_varK, e_c, e_bin, e_un, e_call, e_nil, e_cons, e_tup, e_tupK, e_lst, e_lstK, e_newLst, toDs_nil, toDs_d, Option.map_some, e_callV, e_callVT, ar_nil, ar_cons, ar_d, ar_t, e_argKT, af_d, af_new, af_exc, up_nil, up_cons, end_ret, end_exc, end_nx, out_d, v_add, v_sub, v_neg, v_lt, v_le, v_gt, v_ge, v_eqI, v_neI, v_gcd, v_abs, v_max, v_int, v_lenT, v_lenL, List.getElem?_cons_zero, List.getElem?_cons_succ, List.set_cons_zero, List.set_cons_succ, List.take_zero, List.take_nil, Bool.false_eq_true, if_false, if_true, eq_self, decide_true, decide_false, Bool.not_true, Bool.not_false, Nat.reduceAdd, Nat.reduceLeDiff, Nat.reduceLT, List.nil_append, List.cons_append, fr, ix0, ix1, mv hp hs, mv hq hr, h]
end
end Law
end
section
set_option Elab.async false
set_option linter.all false
set_option maxRecDepth 100000
set_option maxHeartbeats 4000000
set_option exponentiation.threshold 5000
namespace Law
open PySem Sh
/-! ### lowest terms -/
section
variable {p q : Int}
theorem lowN_mul (h : q ≠ 0) : lowN p q * (Nat.gcd p.natAbs q.natAbs : Nat) = if 0 < q then p else -p := by
  unfold lowN
  apply Int.ediv_mul_cancel
  have : ((Nat.gcd p.natAbs q.natAbs : Nat) : Int) ∣ p := Int.ofNat_dvd_left.mpr (Nat.gcd_dvd_left _ _)
  split
  · exact this
  · exact Int.dvd_neg.mpr this
theorem lowD_mul (h : q ≠ 0) : lowD p q * (Nat.gcd p.natAbs q.natAbs : Nat) = if 0 < q then q else -q := by
  unfold lowD
  apply Int.ediv_mul_cancel
  have : ((Nat.gcd p.natAbs q.natAbs : Nat) : Int) ∣ q := Int.ofNat_dvd_left.mpr (Nat.gcd_dvd_right _ _)
  split
  · exact this
  · exact Int.dvd_neg.mpr this
theorem lowN_abs (h : q ≠ 0) : (lowN p q).natAbs = p.natAbs / Nat.gcd p.natAbs q.natAbs := by
  have e := congrArg Int.natAbs (lowN_mul (p := p) h)
  rw [Int.natAbs_mul, Int.natAbs_natCast] at e
  have e2 : (if 0 < q then p else -p).natAbs = p.natAbs := by split <;> simp
  rw [e2] at e
  exact (Nat.div_eq_of_eq_mul_left (gcd_pos h) e.symm).symm
theorem lowD_abs (h : q ≠ 0) : (lowD p q).natAbs = q.natAbs / Nat.gcd p.natAbs q.natAbs := by
  have e := congrArg Int.natAbs (lowD_mul (p := p) h)
  rw [Int.natAbs_mul, Int.natAbs_natCast] at e
  have e2 : (if 0 < q then q else -q).natAbs = q.natAbs := by split <;> simp
  rw [e2] at e
  exact (Nat.div_eq_of_eq_mul_left (gcd_pos h) e.symm).symm
theorem low_cop (h : q ≠ 0) : Nat.gcd (lowN p q).natAbs (lowD p q).natAbs = 1 := by
  rw [lowN_abs h, lowD_abs h]
  exact Nat.coprime_div_gcd_div_gcd (gcd_pos h)
theorem lowD_pos (h : q ≠ 0) : 1 ≤ lowD p q := by
  have e := lowD_mul (p := p) h
  have g := gcd_pos (p := p) h
  have : 0 < (if 0 < q then q else -q) := by split <;> omega
  rw [← e] at this
  have := Int.pos_of_mul_pos_left this (by omega)
  omega
theorem low_cross (h : q ≠ 0) : lowN p q * q = p * lowD p q := by
  have e1 := lowN_mul (p := p) h
  have e2 := lowD_mul (p := p) h
  have g := gcd_pos (p := p) h
  have g2 : ((Nat.gcd p.natAbs q.natAbs : Nat) : Int) ≠ 0 := by omega
  apply Int.eq_of_mul_eq_mul_right g2
  rw [Int.mul_right_comm, e1, Int.mul_assoc, e2]
  split
  · rfl
  · rw [Int.neg_mul, Int.mul_neg]
structure Fq (B : Nat) (p q : Int) : Prop where
  pos : 1 ≤ q
  g : Nat.gcd p.natAbs q.natAbs = 1
  bp : p.natAbs < 2 ^ B
  bq : q.natAbs < 2 ^ B
theorem low_fq {B : Nat} (h : q ≠ 0) (hp : p.natAbs < 2 ^ B) (hq : q.natAbs < 2 ^ B) : Fq B (lowN p q) (lowD p q) :=
  ⟨lowD_pos h, low_cop h, by rw [lowN_abs h]; exact Nat.lt_of_le_of_lt (Nat.div_le_self _ _) hp, by rw [lowD_abs h]; exact Nat.lt_of_le_of_lt (Nat.div_le_self _ _) hq⟩
theorem low_uniq {n d p q : Int} (h : n * q = p * d) (hd : 1 ≤ d) (hq : 1 ≤ q) (g1 : Nat.gcd n.natAbs d.natAbs = 1) (g2 : Nat.gcd p.natAbs q.natAbs = 1) : n = p ∧ d = q := by
  have e := congrArg Int.natAbs h
  rw [Int.natAbs_mul, Int.natAbs_mul] at e
  have d1 : q.natAbs ∣ d.natAbs := by
    apply Nat.Coprime.dvd_of_dvd_mul_left (m := p.natAbs)
    · rw [Nat.Coprime, Nat.gcd_comm]; exact g2
    · rw [← e]; exact Nat.dvd_mul_left _ _
  have d2 : d.natAbs ∣ q.natAbs := by
    apply Nat.Coprime.dvd_of_dvd_mul_left (m := n.natAbs)
    · rw [Nat.Coprime, Nat.gcd_comm]; exact g1
    · rw [e]; exact Nat.dvd_mul_left _ _
  have e3 := Nat.dvd_antisymm d1 d2
  have e4 : d = q := by omega
  subst e4
  exact ⟨Int.eq_of_mul_eq_mul_right (by omega) h, rfl⟩
theorem low_eq {x y p q : Int} (hy : y ≠ 0) (h : x * q = p * y) (hq : 1 ≤ q) (g2 : Nat.gcd p.natAbs q.natAbs = 1) : low x y = fr p q := by
  have c := low_cross (p := x) hy
  have e : lowN x y * q = p * lowD x y := by
    apply Int.eq_of_mul_eq_mul_right hy
    rw [Int.mul_right_comm, c, Int.mul_right_comm, h, Int.mul_right_comm]
  obtain ⟨e1, e2⟩ := low_uniq e (lowD_pos hy) hq (low_cop hy) g2
  unfold low
  rw [e1, e2]
end
/-! ### the four, and below -/
section
variable {p q r s : Int}
theorem Fq.b1 (h : Fq 1900 p q) : Bd p := h.bp
theorem Fq.b2 (h : Fq 1900 p q) : Bd q := h.bq
theorem Fq.n0 {B : Nat} (h : Fq B p q) : q ≠ 0 := by have := h.pos; omega
theorem Fq.up {B C : Nat} (h : Fq B p q) (l : B ≤ C) : Fq C p q := ⟨h.pos, h.g, Nat.lt_of_lt_of_le h.bp (Nat.pow_le_pow_right (by decide) l), Nat.lt_of_lt_of_le h.bq (Nat.pow_le_pow_right (by decide) l)⟩
theorem Fq.isFr {B : Nat} (h : Fq B p q) : isFr (fr p q) = true := by
  have : ((Nat.gcd p.natAbs q.natAbs : Nat) : Int) = 1 := by rw [h.g]; rfl
  simp [Law.isFr, fr, h.pos, this]
theorem Sm.pl {a : Int} (h : Sm a) : Pl (.int a) = true := by unfold Pl; exact decide_eq_true h
theorem pl_fr (hp : Sm p) (hq : Sm q) : Pl (fr p q) = true := by
  show Pls [.int p, .int q] = true
  rw [Pls, hp.pl, Pls, hq.pl]; rfl
theorem Bd.sm {a : Int} (h : Bd a) : Sm a := Nat.lt_of_lt_of_le h (Nat.pow_le_pow_right (by decide) (by decide))
theorem Fq.pl {B : Nat} (h : Fq B p q) (l : B ≤ 4000) : Pl (fr p q) = true := pl_fr (h.up l).bp (h.up l).bq
theorem made_fq (h : Fq 1900 p q) : d_made_fraction [.d (fr p q)] = .ok (.d (fr p q)) [] := by
  rw [made_ok (h.pl (by decide)), if_pos h.isFr]
theorem eq_nought (h : Fq 1900 r s) (st : S) : eqV false (.d (fr r s)) (.d (.tup [.int 0, .int 1])) st = .ok (.d (.bl (r == 0))) st := by
  rw [v_eq dOf_d dOf_d (okD_of (h.pl (by decide)) (by simp [dep, deps])) rfl]
  have : eqD (fr r s) (.tup [.int 0, .int 1]) = (r == 0) := by
    simp only [fr, eqD, eqDs, Bool.and_true]
    by_cases z : r = 0
    · subst z
      have h1 := h.g
      rw [Int.natAbs_zero, Nat.gcd_zero_left] at h1
      have h2 := h.pos
      have : s = 1 := by omega
      subst this; rfl
    · have : (r == 0) = false := by simpa using z
      rw [this]; rfl
  rw [this]; rfl
theorem ne_nought (h : Fq 1900 r s) (st : S) : eqV true (.d (fr r s)) (.d (.tup [.int 0, .int 1])) st = .ok (.d (.bl (!(r == 0)))) st := by
  have := eq_nought h st
  rw [v_eq dOf_d dOf_d (okD_of (h.pl (by decide)) (by simp [dep, deps])) rfl] at this ⊢
  simp only [Bool.false_eq_true, if_false] at this
  injection this with h1 h2
  injection h1 with h1
  injection h1 with h1
  rw [if_pos rfl, h1]
theorem plus_ok (h1 : Fq 1900 p q) (h2 : Fq 1900 r s) : d_plus [.d (fr p q), .d (fr r s)] = .ok (.d (low (p * s + r * q) (q * s))) [] := by
  rw [d_plus]; unfold m_plus
  simp only [e_par, e_parK, e_asg, toD_d, e_nameT, e_consT, e_nilT, Option.bind_some, n_nx, n_ct, n_bk, n_ret, e_for, e_itE, e_itA, e_meth, ty_s, e_run1, e_run2, e_run3, e_run4, s_d1, s_d2, s_od, s_oo, s_o1, s_odd, s_t1, s_td, ic_d, ic_o, ic_t, ic_nil, e_argD, e_argDD, List.replicate, Nat.reduceSub, List.length_cons, List.length_nil, bind_ok, bind_exc, bind_bad, e_seq, th_nx, th_ret, th_exc, th_bk, th_ct, e_set, e_setK, e_ret, e_retK, e_drop, e_dropK, e_retN, e_next, e_brk, e_cnt, e_if, e_ifE, e_and, e_or, e_not, onB_t, onB_f, onB_b, e_var, e_varK, e_c, e_bin, e_un, e_call, e_nil, e_cons, e_tup, e_tupK, e_lst, e_lstK, e_newLst, toDs_nil, toDs_d, Option.map_some, e_callV, e_callVT, ar_nil, ar_cons, ar_d, ar_t, e_argKT, af_d, af_new, af_exc, up_nil, up_cons, end_ret, end_exc, end_nx, out_d, v_add, v_sub, v_neg, v_lt, v_le, v_gt, v_ge, v_eqI, v_neI, v_gcd, v_abs, v_max, v_int, v_lenT, v_lenL, List.getElem?_cons_zero, List.getElem?_cons_succ, List.set_cons_zero, List.set_cons_succ, List.take_zero, List.take_nil, Bool.false_eq_true, if_false, if_true, eq_self, decide_true, decide_false, Bool.not_true, Bool.not_false, Nat.reduceAdd, Nat.reduceLeDiff, Nat.reduceLT, List.nil_append, List.cons_append, made_fq h1, made_fq h2, aplus_ok h1.b1 h1.b2 h2.b1 h2.b2 h1.n0 h2.n0]
theorem minus_ok (h1 : Fq 1900 p q) (h2 : Fq 1900 r s) : d_minus [.d (fr p q), .d (fr r s)] = .ok (.d (low (p * s - r * q) (q * s))) [] := by
  rw [d_minus]; unfold m_minus
  simp only [e_par, e_parK, e_asg, toD_d, e_nameT, e_consT, e_nilT, Option.bind_some, n_nx, n_ct, n_bk, n_ret, e_for, e_itE, e_itA, e_meth, ty_s, e_run1, e_run2, e_run3, e_run4, s_d1, s_d2, s_od, s_oo, s_o1, s_odd, s_t1, s_td, ic_d, ic_o, ic_t, ic_nil, e_argD, e_argDD, List.replicate, Nat.reduceSub, List.length_cons, List.length_nil, bind_ok, bind_exc, bind_bad, e_seq, th_nx, th_ret, th_exc, th_bk, th_ct, e_set, e_setK, e_ret, e_retK, e_drop, e_dropK, e_retN, e_next, e_brk, e_cnt, e_if, e_ifE, e_and, e_or, e_not, onB_t, onB_f, onB_b, e_var, e_varK, e_c, e_bin, e_un, e_call, e_nil, e_cons, e_tup, e_tupK, e_lst, e_lstK, e_newLst, toDs_nil, toDs_d, Option.map_some, e_callV, e_callVT, ar_nil, ar_cons, ar_d, ar_t, e_argKT, af_d, af_new, af_exc, up_nil, up_cons, end_ret, end_exc, end_nx, out_d, v_add, v_sub, v_neg, v_lt, v_le, v_gt, v_ge, v_eqI, v_neI, v_gcd, v_abs, v_max, v_int, v_lenT, v_lenL, List.getElem?_cons_zero, List.getElem?_cons_succ, List.set_cons_zero, List.set_cons_succ, List.take_zero, List.take_nil, Bool.false_eq_true, if_false, if_true, eq_self, decide_true, decide_false, Bool.not_true, Bool.not_false, Nat.reduceAdd, Nat.reduceLeDiff, Nat.reduceLT, List.nil_append, List.cons_append, made_fq h1, made_fq h2, aminus_ok h1.b1 h1.b2 h2.b1 h2.b2 h1.n0 h2.n0]
theorem times_ok (h1 : Fq 1900 p q) (h2 : Fq 1900 r s) : d_times [.d (fr p q), .d (fr r s)] = .ok (.d (low (p * r) (q * s))) [] := by
  rw [d_times]; unfold m_times
  simp only [e_par, e_parK, e_asg, toD_d, e_nameT, e_consT, e_nilT, Option.bind_some, n_nx, n_ct, n_bk, n_ret, e_for, e_itE, e_itA, e_meth, ty_s, e_run1, e_run2, e_run3, e_run4, s_d1, s_d2, s_od, s_oo, s_o1, s_odd, s_t1, s_td, ic_d, ic_o, ic_t, ic_nil, e_argD, e_argDD, List.replicate, Nat.reduceSub, List.length_cons, List.length_nil, bind_ok, bind_exc, bind_bad, e_seq, th_nx, th_ret, th_exc, th_bk, th_ct, e_set, e_setK, e_ret, e_retK, e_drop, e_dropK, e_retN, e_next, e_brk, e_cnt, e_if, e_ifE, e_and, e_or, e_not, onB_t, onB_f, onB_b, e_var, e_varK, e_c, e_bin, e_un, e_call, e_nil, e_cons, e_tup, e_tupK, e_lst, e_lstK, e_newLst, toDs_nil, toDs_d, Option.map_some, e_callV, e_callVT, ar_nil, ar_cons, ar_d, ar_t, e_argKT, af_d, af_new, af_exc, up_nil, up_cons, end_ret, end_exc, end_nx, out_d, v_add, v_sub, v_neg, v_lt, v_le, v_gt, v_ge, v_eqI, v_neI, v_gcd, v_abs, v_max, v_int, v_lenT, v_lenL, List.getElem?_cons_zero, List.getElem?_cons_succ, List.set_cons_zero, List.set_cons_succ, List.take_zero, List.take_nil, Bool.false_eq_true, if_false, if_true, eq_self, decide_true, decide_false, Bool.not_true, Bool.not_false, Nat.reduceAdd, Nat.reduceLeDiff, Nat.reduceLT, List.nil_append, List.cons_append, made_fq h1, made_fq h2, atimes_ok h1.b1 h1.b2 h2.b1 h2.b2 h1.n0 h2.n0]
theorem over_ok (h1 : Fq 1900 p q) (h2 : Fq 1900 r s) (r0 : r ≠ 0) : d_over [.d (fr p q), .d (fr r s)] = .ok (.d (low (p * s) (q * r))) [] := by
  have e : (r == 0) = false := by simpa using r0
  rw [d_over]; unfold m_over
  simp only [e_par, e_parK, e_asg, toD_d, e_nameT, e_consT, e_nilT, Option.bind_some, n_nx, n_ct, n_bk, n_ret, e_for, e_itE, e_itA, e_meth, ty_s, e_run1, e_run2, e_run3, e_run4, s_d1, s_d2, s_od, s_oo, s_o1, s_odd, s_t1, s_td, ic_d, ic_o, ic_t, ic_nil, e_argD, e_argDD, List.replicate, Nat.reduceSub, List.length_cons, List.length_nil, bind_ok, bind_exc, bind_bad, e_seq, th_nx, th_ret, th_exc, th_bk, th_ct, e_set, e_setK, e_ret, e_retK, e_drop, e_dropK, e_retN, e_next, e_brk, e_cnt, e_if, e_ifE, e_and, e_or, e_not, onB_t, onB_f, onB_b, e_var, e_varK, e_c, e_bin, e_un, e_call, e_nil, e_cons, e_tup, e_tupK, e_lst, e_lstK, e_newLst, toDs_nil, toDs_d, Option.map_some, e_callV, e_callVT, ar_nil, ar_cons, ar_d, ar_t, e_argKT, af_d, af_new, af_exc, up_nil, up_cons, end_ret, end_exc, end_nx, out_d, v_add, v_sub, v_neg, v_lt, v_le, v_gt, v_ge, v_eqI, v_neI, v_gcd, v_abs, v_max, v_int, v_lenT, v_lenL, List.getElem?_cons_zero, List.getElem?_cons_succ, List.set_cons_zero, List.set_cons_succ, List.take_zero, List.take_nil, Bool.false_eq_true, if_false, if_true, eq_self, decide_true, decide_false, Bool.not_true, Bool.not_false, Nat.reduceAdd, Nat.reduceLeDiff, Nat.reduceLT, List.nil_append, List.cons_append, made_fq h1, made_fq h2, k_NOUGHT, eq_nought h2, e, aover_ok h1.b1 h1.b2 h2.b1 h2.b2 h1.n0 r0]
theorem over_n (h1 : Fq 1900 p q) (h2 : Fq 1900 0 s) : d_over [.d (fr p q), .d (fr 0 s)] = .exc "Nought" (.int 0) [] := by
  have e : ((0 : Int) == 0) = true := rfl
  rw [d_over]; unfold m_over
  simp only [e_par, e_parK, e_asg, toD_d, e_nameT, e_consT, e_nilT, Option.bind_some, n_nx, n_ct, n_bk, n_ret, e_for, e_itE, e_itA, e_meth, ty_s, e_run1, e_run2, e_run3, e_run4, s_d1, s_d2, s_od, s_oo, s_o1, s_odd, s_t1, s_td, ic_d, ic_o, ic_t, ic_nil, e_argD, e_argDD, List.replicate, Nat.reduceSub, List.length_cons, List.length_nil, bind_ok, bind_exc, bind_bad, e_seq, th_nx, th_ret, th_exc, th_bk, th_ct, e_set, e_setK, e_ret, e_retK, e_drop, e_dropK, e_retN, e_next, e_brk, e_cnt, e_if, e_ifE, e_and, e_or, e_not, onB_t, onB_f, onB_b, e_var, e_varK, e_c, e_bin, e_un, e_call, e_nil, e_cons, e_tup, e_tupK, e_lst, e_lstK, e_newLst, toDs_nil, toDs_d, Option.map_some, e_callV, e_callVT, ar_nil, ar_cons, ar_d, ar_t, e_argKT, af_d, af_new, af_exc, up_nil, up_cons, end_ret, end_exc, end_nx, out_d, v_add, v_sub, v_neg, v_lt, v_le, v_gt, v_ge, v_eqI, v_neI, v_gcd, v_abs, v_max, v_int, v_lenT, v_lenL, List.getElem?_cons_zero, List.getElem?_cons_succ, List.set_cons_zero, List.set_cons_succ, List.take_zero, List.take_nil, Bool.false_eq_true, if_false, if_true, eq_self, decide_true, decide_false, Bool.not_true, Bool.not_false, Nat.reduceAdd, Nat.reduceLeDiff, Nat.reduceLT, List.nil_append, List.cons_append, made_fq h1, made_fq h2, k_NOUGHT, eq_nought h2, e, raiseS]
theorem below_ok (h1 : Fq 1900 p q) (h2 : Fq 1900 r s) : d_below [.d (fr p q), .d (fr r s)] = .ok (.d (.bl (decide (p * s < r * q)))) [] := by
  rw [d_below]; unfold m_below
  simp only [e_par, e_parK, e_asg, toD_d, e_nameT, e_consT, e_nilT, Option.bind_some, n_nx, n_ct, n_bk, n_ret, e_for, e_itE, e_itA, e_meth, ty_s, e_run1, e_run2, e_run3, e_run4, s_d1, s_d2, s_od, s_oo, s_o1, s_odd, s_t1, s_td, ic_d, ic_o, ic_t, ic_nil, e_argD, e_argDD, List.replicate, Nat.reduceSub, List.length_cons, List.length_nil, bind_ok, bind_exc, bind_bad, e_seq, th_nx, th_ret, th_exc, th_bk, th_ct, e_set, e_setK, e_ret, e_retK, e_drop, e_dropK, e_retN, e_next, e_brk, e_cnt, e_if, e_ifE, e_and, e_or, e_not, onB_t, onB_f, onB_b, e_var, e_varK, e_c, e_bin, e_un, e_call, e_nil, e_cons, e_tup, e_tupK, e_lst, e_lstK, e_newLst, toDs_nil, toDs_d, Option.map_some, e_callV, e_callVT, ar_nil, ar_cons, ar_d, ar_t, e_argKT, af_d, af_new, af_exc, up_nil, up_cons, end_ret, end_exc, end_nx, out_d, v_add, v_sub, v_neg, v_lt, v_le, v_gt, v_ge, v_eqI, v_neI, v_gcd, v_abs, v_max, v_int, v_lenT, v_lenL, List.getElem?_cons_zero, List.getElem?_cons_succ, List.set_cons_zero, List.set_cons_succ, List.take_zero, List.take_nil, Bool.false_eq_true, if_false, if_true, eq_self, decide_true, decide_false, Bool.not_true, Bool.not_false, Nat.reduceAdd, Nat.reduceLeDiff, Nat.reduceLT, List.nil_append, List.cons_append, made_fq h1, made_fq h2, fr, ix0, ix1, mv h1.b1 h2.b2, mv h2.b1 h1.b2]
end
end Law
end
section
set_option Elab.async false
set_option linter.all false
set_option maxRecDepth 100000
set_option maxHeartbeats 4000000
set_option exponentiation.threshold 5000
namespace Law
open PySem Sh
/-! ### calls over slots -/
theorem same_cc {fa fb : S → OE} {k j : Nat} {L : List D} {st st1 : S} {vs : List (Option Val)} {cs : List Cell} (h1 : fa st = .ok (.c k) st1) (h2 : fb st1 = .ok (.c j) ⟨vs, cs⟩) (hk : cs[k]? = some (.own L)) (hj : cs[j]? = some (.own L)) (kj : k ≠ j)
    (g : Gd (.lst L)) (sz : szDs L ≤ 999999) : callE (callV d__law_wb_same) [fa, fb] st = .ok (.d (.bl true)) ⟨vs, (cs.set k (.frz L)).set j (.frz L)⟩ := by
  rw [e_call, e_cons, h1, bind_ok, e_cons, h2, bind_ok, e_nil, bind_ok, bind_ok, bind_ok, e_callV, ar_cons, ar_cons, ar_nil]
  have c1 : consA (.c j) ⟨vs, cs⟩ (some ([], [])) = some ([.o L], [j]) := by
    unfold consA; simp only [hj]; rfl
  have c2 : consA (.c k) ⟨vs, cs⟩ (some ([.o L], [j])) = some ([.o L, .o L], [k, j]) := by
    have : ¬ k ∈ [j] := by simpa using kj
    unfold consA; simp only [hk, this]; rfl
  rw [c1, c2, e_argK rfl, same_o g sz, af_d, up_cons, up_cons, up_nil]
theorem call2 {d : List Ar → RD} {i j : Nat} {a b : D} {vs : List (Option Val)} {cs : List Cell} (ha : vs[i]? = some (some (.d a))) (hb : vs[j]? = some (some (.d b))) : callE (callV d) [varE i, varE j] ⟨vs, cs⟩ = afterD [] ⟨vs, cs⟩ (d [.d a, .d b]) := by
  rw [e_call, e_cons, e_var, ha, e_varK, bind_ok, e_cons, e_var, hb, e_varK, bind_ok, e_nil, bind_ok, bind_ok, bind_ok, e_callV, ar_cons, ar_cons, ar_nil, ar_d, ar_d, e_argK rfl]
theorem call1 {d : List Ar → RD} {i : Nat} {a : D} {vs : List (Option Val)} {cs : List Cell} (ha : vs[i]? = some (some (.d a))) : callE (callV d) [varE i] ⟨vs, cs⟩ = afterD [] ⟨vs, cs⟩ (d [.d a]) := by
  rw [e_call, e_cons, e_var, ha, e_varK, bind_ok, e_nil, bind_ok, bind_ok, e_callV, ar_cons, ar_nil, ar_d, e_argK rfl]
/-- what heard makes of a call -/
def hrd : RD → Option D
  | .ok (.d y) _ => some (.tup [.str "told", y])
  | .exc nm y _ => if nm = "BadFraction" then some (.tup [.str "BadFraction", y]) else if nm = "Nought" then some (.tup [.str "Nought", y]) else none
  | _ => none
theorem lam_c {caps : List Nat} {fb : S → OE} {st st1 : S} {xs : List D} {w : D} {r : RD} (h1 : frzL caps st = some (xs, st1)) (h2 : fb ⟨capV st.v.length caps xs, []⟩ = afterD [] ⟨capV st.v.length caps xs, []⟩ r) (h3 : hrd r = some w) : lamE d__law_a2_heard caps fb [] st = .ok (.d w) st1 := by
  unfold hrd at h3
  split at h3
  · cases h3
    rw [af_d] at h2
    exact lam_t h1 h2
  · rename_i nm y c'
    split at h3
    · rename_i e
      subst e
      cases h3
      rw [af_exc] at h2
      exact lam_b h1 h2
    · split at h3
      · rename_i e
        subst e
        cases h3
        rw [af_exc] at h2
        exact lam_n h1 h2
      · cases h3
  · cases h3
theorem frz2 {i j : Nat} {a b : D} {vs : List (Option Val)} {cs : List Cell} (ha : vs[i]? = some (some (.d a))) (hb : vs[j]? = some (some (.d b))) : frzL [i, j] ⟨vs, cs⟩ = some ([a, b], ⟨vs, cs⟩) := by
  simp only [frzL, ha, hb, toD]
theorem cap2 {n i j : Nat} {a b : D} (hi : i < n) (hj : j < n) (ij : i ≠ j) : (capV n [i, j] [a, b])[i]? = some (some (.d a)) ∧ (capV n [i, j] [a, b])[j]? = some (some (.d b)) := by
  simp only [capV]
  constructor
  · rw [List.getElem?_set_self (by rw [List.length_set, List.length_replicate]; exact hi)]
  · rw [List.getElem?_set_ne ij, List.getElem?_set_self (by rw [List.length_replicate]; exact hj)]
theorem lt_of_some {α : Type} {l : List α} {i : Nat} {x : α} (h : l[i]? = some x) : i < l.length := (List.getElem?_eq_some_iff.mp h).1
theorem lam2 {d : List Ar → RD} {i j : Nat} {a b w : D} {vs : List (Option Val)} {cs : List Cell} (ha : vs[i]? = some (some (.d a))) (hb : vs[j]? = some (some (.d b))) (ij : i ≠ j) (h : hrd (d [.d a, .d b]) = some w) :
    lamE d__law_a2_heard [i, j] (callE (callV d) [varE i, varE j]) [] ⟨vs, cs⟩ = .ok (.d w) ⟨vs, cs⟩ :=
  have c := cap2 (a := a) (b := b) (lt_of_some ha) (lt_of_some hb) ij
  lam_c (frz2 ha hb) (call2 c.1 c.2) h
theorem lam1 {d : List Ar → RD} {i : Nat} {a w : D} {vs : List (Option Val)} {cs : List Cell} (ha : vs[i]? = some (some (.d a))) (h : hrd (d [.d a]) = some w) :
    lamE d__law_a2_heard [i] (callE (callV d) [varE i]) [] ⟨vs, cs⟩ = .ok (.d w) ⟨vs, cs⟩ := by
  have f : frzL [i] ⟨vs, cs⟩ = some ([a], ⟨vs, cs⟩) := by simp only [frzL, ha, toD]
  have c : (capV vs.length [i] [a])[i]? = some (some (.d a)) := by
    simp only [capV]
    rw [List.getElem?_set_self (by rw [List.length_replicate]; exact lt_of_some ha)]
  exact lam_c f (call1 c) h
theorem app_m {f : S → OE} {i k : Nat} {y : D} {xs : List D} {vs : List (Option Val)} {cs : List Cell} (hv : vs[i]? = some (some (.c k))) (hc : cs[k]? = some (.own xs)) (hf : f ⟨vs, cs⟩ = .ok (.d y) ⟨vs, cs⟩) (hl : xs.length < 1000000) :
    dropS (methE "list" appV (varE i) [f]) ⟨vs, cs⟩ = .ok .nx ⟨vs, cs.set k (.own (xs ++ [y]))⟩ :=
  drop_m (st1 := ⟨vs, cs⟩) (by rw [e_var, hv, e_varK]) (by show (cs[k]?).isSome = true; rw [hc]; rfl) hf (v_app hc hl)
abbrev tld (x : D) : D := .tup [.str "told", x]
/-- small data -/
def Lt (x : D) : Prop := Pl x = true ∧ dep x ≤ 40 ∧ szD x ≤ 10000
theorem Lt.td {x : D} (h : Lt x) : Pl (tld x) = true ∧ dep (tld x) ≤ 43 ∧ szD (tld x) ≤ 10004 := by
  have h1 := h.2.1
  have h2 := h.2.2
  have e : PyData.strOk "told" = true := by decide +kernel
  refine ⟨by simp [Pl, Pls, h.1, e], ?_, ?_⟩
  · simp only [dep, deps]; omega
  · simp only [szD, szDs]; omega
theorem Lt.fr {p q : Int} (hp : Sm p) (hq : Sm q) : Lt (fr p q) := ⟨pl_fr hp hq, by simp [dep, deps], by simp [szD, szDs]⟩
theorem Lt.low {p q : Int} (h : q ≠ 0) (hp : Sm p) (hq : Sm q) : Lt (low p q) := by
  have f := low_fq (B := 4000) h hp hq
  exact Lt.fr f.bp f.bq
theorem Lt.bl (b : Bool) : Lt (.bl b) := ⟨rfl, by simp [dep], by simp [szD]⟩
/-- what may stand in a list of things heard -/
def Hd (y : D) : Prop := Pl y = true ∧ dep y ≤ 44 ∧ szD y ≤ 20000
theorem Lt.hd {x : D} (h : Lt x) : Hd (tld x) := ⟨h.td.1, by have := h.td.2.1; omega, by have := h.td.2.2; omega⟩
theorem hd_b : Hd (.tup [.str "BadFraction", .int 0]) := ⟨by decide +kernel, by decide +kernel, by decide +kernel⟩
theorem hd_n : Hd (.tup [.str "Nought", .int 0]) := ⟨by decide +kernel, by decide +kernel, by decide +kernel⟩
theorem hds {L : List D} (h : ∀ y ∈ L, Hd y) (hl : L.length ≤ 40) : Gd (.lst L) ∧ szDs L ≤ 999999 := by
  refine ⟨⟨?_, ?_⟩, ?_⟩
  · show Pls L = true
    exact Pls_of fun y hy => (h y hy).1
  · have : deps L ≤ 44 := deps_le fun y hy => (h y hy).2.1
    simp only [dep]; omega
  · have : ∀ L : List D, (∀ y ∈ L, Hd y) → szDs L ≤ 20000 * L.length := fun L => by
      induction L with
      | nil => intro _; simp [szDs]
      | cons x r ih =>
        intro h
        have h1 := (h x List.mem_cons_self).2.2
        have h2 := ih fun y hy => h y (List.mem_cons_of_mem _ hy)
        simp only [szDs, List.length_cons]; omega
    have := this L h
    omega
end Law
end
section
set_option Elab.async false
set_option linter.all false
set_option maxRecDepth 100000
set_option maxHeartbeats 4000000
set_option exponentiation.threshold 5000
namespace Law
open PySem Sh
theorem pair_ok {p q r s : Int} (h1 : Fq 1900 p q) (h2 : Fq 1900 r s) : d__law_a2_pair_right [.d (fr p q), .d (fr r s)] = .ok (.d (.bl true)) [] := by
  have q0 := h1.n0
  have s0 := h2.n0
  have qs := Int.mul_ne_zero q0 s0
  have hw1 : hrd (d_plus [.d (fr p q), .d (fr r s)]) = some (tld (low (p * s + r * q) (q * s))) := by rw [plus_ok h1 h2]; rfl
  have hw2 : hrd (d_minus [.d (fr p q), .d (fr r s)]) = some (tld (low (p * s - r * q) (q * s))) := by rw [minus_ok h1 h2]; rfl
  have hw3 : hrd (d_times [.d (fr p q), .d (fr r s)]) = some (tld (low (p * r) (q * s))) := by rw [times_ok h1 h2]; rfl
  have hw4 : hrd (d_below [.d (fr p q), .d (fr r s)]) = some (tld (.bl (decide (p * s < r * q)))) := by rw [below_ok h1 h2]; rfl
  have g1 := (Lt.low qs (S2 (h1.b1.mulS h2.b2) (h2.b1.mulS h1.b2)) (h1.b2.mul h2.b2)).hd
  have e2 : p * s - r * q = p * s + -r * q := by rw [Int.neg_mul]; rfl
  have g2 := (Lt.low qs (S2 (h1.b1.mulS h2.b2) (h2.b1.neg.mulS h1.b2)) (h1.b2.mul h2.b2)).hd
  rw [← e2] at g2
  have g3 := (Lt.low qs (h1.b1.mul h2.b1) (h1.b2.mul h2.b2)).hd
  have g4 := (Lt.bl (decide (p * s < r * q))).hd
  have k1 := wplus_ok h1.b1 h1.b2 h2.b1 h2.b2 q0 s0
  have k2 := wminus_ok h1.b1 h1.b2 h2.b1 h2.b2 q0 s0
  have k3 := wtimes_ok h1.b1 h1.b2 h2.b1 h2.b2 q0 s0
  obtain ⟨w5, hw5, g5, k5⟩ : ∃ w, hrd (d_over [.d (fr p q), .d (fr r s)]) = some w ∧ Hd w ∧ ∀ (u v : Option Val) (cs : List Cell),
      ifE (bin2 (eqV true) (varE 1) (tupE [(cE (.int 0)), (cE (.int 1))])) (tupE [(cE (.str "told")), (callE (callV d__law_wb_over) [(varE 0), (varE 1)])]) (tupE [(cE (.str "Nought")), (cE (.int 0))]) ⟨[some (.d (fr p q)), some (.d (fr r s)), u, v], cs⟩ =
        .ok (.d w) ⟨[some (.d (fr p q)), some (.d (fr r s)), u, v], cs⟩ := by
    by_cases r0 : r = 0
    · subst r0
      have e : ((0 : Int) == 0) = true := rfl
      refine ⟨_, by rw [over_n h1 h2]; rfl, hd_n, fun u v cs => ?_⟩
      simp only [e_par, e_parK, e_asg, toD_d, e_nameT, e_consT, e_nilT, Option.bind_some, n_nx, n_ct, n_bk, n_ret, e_for, e_itE, e_itA, e_meth, ty_s, e_run1, e_run2, e_run3, e_run4, s_d1, s_d2, s_od, s_oo, s_o1, s_odd, s_t1, s_td, ic_d, ic_o, ic_t, ic_nil, e_argD, e_argDD, List.replicate, Nat.reduceSub, List.length_cons, List.length_nil, bind_ok, bind_exc, bind_bad, e_seq, th_nx, th_ret, th_exc, th_bk, th_ct, e_set, e_setK, e_ret, e_retK, e_drop, e_dropK, e_retN, e_next, e_brk, e_cnt, e_if, e_ifE, e_and, e_or, e_not, onB_t, onB_f, onB_b, e_var, e_varK, e_c, e_bin, e_un, e_call, e_nil, e_cons, e_tup, e_tupK, e_lst, e_lstK, e_newLst, toDs_nil, toDs_d, Option.map_some, e_callV, e_callVT, ar_nil, ar_cons, ar_d, ar_t, e_argKT, af_d, af_new, af_exc, up_nil, up_cons, end_ret, end_exc, end_nx, out_d, v_add, v_sub, v_neg, v_lt, v_le, v_gt, v_ge, v_eqI, v_neI, v_gcd, v_abs, v_max, v_int, v_lenT, v_lenL, List.getElem?_cons_zero, List.getElem?_cons_succ, List.set_cons_zero, List.set_cons_succ, List.take_zero, List.take_nil, Bool.false_eq_true, if_false, if_true, eq_self, decide_true, decide_false, Bool.not_true, Bool.not_false, Nat.reduceAdd, Nat.reduceLeDiff, Nat.reduceLT, List.nil_append, List.cons_append, ne_nought h2, e]
    · have e : (r == 0) = false := by simpa using r0
      have k4 := wover_ok h1.b1 h1.b2 h2.b1 h2.b2 q0 r0
      refine ⟨_, by rw [over_ok h1 h2 r0]; rfl, (Lt.low (Int.mul_ne_zero q0 r0) (h1.b1.mul h2.b2) (h1.b2.mul h2.b1)).hd, fun u v cs => ?_⟩
      simp only [e_par, e_parK, e_asg, toD_d, e_nameT, e_consT, e_nilT, Option.bind_some, n_nx, n_ct, n_bk, n_ret, e_for, e_itE, e_itA, e_meth, ty_s, e_run1, e_run2, e_run3, e_run4, s_d1, s_d2, s_od, s_oo, s_o1, s_odd, s_t1, s_td, ic_d, ic_o, ic_t, ic_nil, e_argD, e_argDD, List.replicate, Nat.reduceSub, List.length_cons, List.length_nil, bind_ok, bind_exc, bind_bad, e_seq, th_nx, th_ret, th_exc, th_bk, th_ct, e_set, e_setK, e_ret, e_retK, e_drop, e_dropK, e_retN, e_next, e_brk, e_cnt, e_if, e_ifE, e_and, e_or, e_not, onB_t, onB_f, onB_b, e_var, e_varK, e_c, e_bin, e_un, e_call, e_nil, e_cons, e_tup, e_tupK, e_lst, e_lstK, e_newLst, toDs_nil, toDs_d, Option.map_some, e_callV, e_callVT, ar_nil, ar_cons, ar_d, ar_t, e_argKT, af_d, af_new, af_exc, up_nil, up_cons, end_ret, end_exc, end_nx, out_d, v_add, v_sub, v_neg, v_lt, v_le, v_gt, v_ge, v_eqI, v_neI, v_gcd, v_abs, v_max, v_int, v_lenT, v_lenL, List.getElem?_cons_zero, List.getElem?_cons_succ, List.set_cons_zero, List.set_cons_succ, List.take_zero, List.take_nil, Bool.false_eq_true, if_false, if_true, eq_self, decide_true, decide_false, Bool.not_true, Bool.not_false, Nat.reduceAdd, Nat.reduceLeDiff, Nat.reduceLT, List.nil_append, List.cons_append, ne_nought h2, e, k4]
  generalize low (p * s + r * q) (q * s) = P at *
  generalize low (p * s - r * q) (q * s) = M at *
  generalize low (p * r) (q * s) = T at *
  have hG : ∀ y ∈ [tld P, tld M, tld T, tld (.bl (decide (p * s < r * q))), w5], Hd y := fun y hy => by
    simp only [List.mem_cons, List.not_mem_nil, or_false] at hy
    rcases hy with rfl | rfl | rfl | rfl | rfl <;> assumption
  obtain ⟨G, Z⟩ := hds hG (by simp)
  have below : ∀ (u v : Option Val) (cs : List Cell), tupE [(cE (.str "told")), (bin2 ltV (bin2 mulV (bin2 ixV (varE 0) (cE (.int 0))) (bin2 ixV (varE 1) (cE (.int 1)))) (bin2 mulV (bin2 ixV (varE 1) (cE (.int 0))) (bin2 ixV (varE 0) (cE (.int 1)))))] ⟨[some (.d (fr p q)), some (.d (fr r s)), u, v], cs⟩ =
      .ok (.d (tld (.bl (decide (p * s < r * q))))) ⟨[some (.d (fr p q)), some (.d (fr r s)), u, v], cs⟩ := fun u v cs => by
    simp only [e_par, e_parK, e_asg, toD_d, e_nameT, e_consT, e_nilT, Option.bind_some, n_nx, n_ct, n_bk, n_ret, e_for, e_itE, e_itA, e_meth, ty_s, e_run1, e_run2, e_run3, e_run4, s_d1, s_d2, s_od, s_oo, s_o1, s_odd, s_t1, s_td, ic_d, ic_o, ic_t, ic_nil, e_argD, e_argDD, List.replicate, Nat.reduceSub, List.length_cons, List.length_nil, bind_ok, bind_exc, bind_bad, e_seq, th_nx, th_ret, th_exc, th_bk, th_ct, e_set, e_setK, e_ret, e_retK, e_drop, e_dropK, e_retN, e_next, e_brk, e_cnt, e_if, e_ifE, e_and, e_or, e_not, onB_t, onB_f, onB_b, e_var, e_varK, e_c, e_bin, e_un, e_call, e_nil, e_cons, e_tup, e_tupK, e_lst, e_lstK, e_newLst, toDs_nil, toDs_d, Option.map_some, e_callV, e_callVT, ar_nil, ar_cons, ar_d, ar_t, e_argKT, af_d, af_new, af_exc, up_nil, up_cons, end_ret, end_exc, end_nx, out_d, v_add, v_sub, v_neg, v_lt, v_le, v_gt, v_ge, v_eqI, v_neI, v_gcd, v_abs, v_max, v_int, v_lenT, v_lenL, List.getElem?_cons_zero, List.getElem?_cons_succ, List.set_cons_zero, List.set_cons_succ, List.take_zero, List.take_nil, Bool.false_eq_true, if_false, if_true, eq_self, decide_true, decide_false, Bool.not_true, Bool.not_false, Nat.reduceAdd, Nat.reduceLeDiff, Nat.reduceLT, List.nil_append, List.cons_append, fr, ix0, ix1, mv h1.b1 h2.b2, mv h2.b1 h1.b2]
  generalize decide (p * s < r * q) = B at *
  rw [d__law_a2_pair_right, e_run2, s_d2]
  unfold m__law_a2_pair_right
  generalize fr p q = a at *
  generalize fr r s = b at *
  have i0 : setS 2 (lstE [(lamE d__law_a2_heard [0, 1] (callE (callV d_plus) [(varE 0), (varE 1)]) [])]) ⟨some (.d a) :: some (.d b) :: List.replicate (4 - 2) none, []⟩ = .ok .nx ⟨[some (.d a), some (.d b), some (.c 0), none], [.own [tld P]]⟩ := by
    simp only [e_par, e_parK, e_asg, toD_d, e_nameT, e_consT, e_nilT, Option.bind_some, n_nx, n_ct, n_bk, n_ret, e_for, e_itE, e_itA, e_meth, ty_s, e_run1, e_run2, e_run3, e_run4, s_d1, s_d2, s_od, s_oo, s_o1, s_odd, s_t1, s_td, ic_d, ic_o, ic_t, ic_nil, e_argD, e_argDD, List.replicate, Nat.reduceSub, List.length_cons, List.length_nil, bind_ok, bind_exc, bind_bad, e_seq, th_nx, th_ret, th_exc, th_bk, th_ct, e_set, e_setK, e_ret, e_retK, e_drop, e_dropK, e_retN, e_next, e_brk, e_cnt, e_if, e_ifE, e_and, e_or, e_not, onB_t, onB_f, onB_b, e_var, e_varK, e_c, e_bin, e_un, e_call, e_nil, e_cons, e_tup, e_tupK, e_lst, e_lstK, e_newLst, toDs_nil, toDs_d, Option.map_some, e_callV, e_callVT, ar_nil, ar_cons, ar_d, ar_t, e_argKT, af_d, af_new, af_exc, up_nil, up_cons, end_ret, end_exc, end_nx, out_d, v_add, v_sub, v_neg, v_lt, v_le, v_gt, v_ge, v_eqI, v_neI, v_gcd, v_abs, v_max, v_int, v_lenT, v_lenL, List.getElem?_cons_zero, List.getElem?_cons_succ, List.set_cons_zero, List.set_cons_succ, List.take_zero, List.take_nil, Bool.false_eq_true, if_false, if_true, eq_self, decide_true, decide_false, Bool.not_true, Bool.not_false, Nat.reduceAdd, Nat.reduceLeDiff, Nat.reduceLT, List.nil_append, List.cons_append, lam2 (vs := [some (.d a), some (.d b), none, none]) (i := 0) (j := 1) rfl rfl (by decide) hw1]
  rw [seq_nx i0]
  rw [seq_nx (app_m (k := 0) rfl rfl (lam2 (i := 0) (j := 1) rfl rfl (by decide) hw2) (by simp))]
  rw [seq_nx (app_m (k := 0) rfl rfl (lam2 (i := 0) (j := 1) rfl rfl (by decide) hw3) (by simp))]
  rw [seq_nx (app_m (k := 0) rfl rfl (lam2 (i := 0) (j := 1) rfl rfl (by decide) hw4) (by simp))]
  rw [seq_nx (app_m (k := 0) rfl rfl (lam2 (i := 0) (j := 1) rfl rfl (by decide) hw5) (by simp))]
  simp only [List.set_cons_zero, List.cons_append, List.nil_append]
  have i1 : setS 3 (lstE [(tupE [(cE (.str "told")), (callE (callV d__law_wb_plus) [(varE 0), (varE 1)])]), (tupE [(cE (.str "told")), (callE (callV d__law_wb_minus) [(varE 0), (varE 1)])]), (tupE [(cE (.str "told")), (callE (callV d__law_wb_times) [(varE 0), (varE 1)])])])
      ⟨[some (.d a), some (.d b), some (.c 0), none], [.own [tld P, tld M, tld T, tld (.bl B), w5]]⟩ = .ok .nx ⟨[some (.d a), some (.d b), some (.c 0), some (.c 1)], [.own [tld P, tld M, tld T, tld (.bl B), w5], .own [tld P, tld M, tld T]]⟩ := by
    simp only [e_par, e_parK, e_asg, toD_d, e_nameT, e_consT, e_nilT, Option.bind_some, n_nx, n_ct, n_bk, n_ret, e_for, e_itE, e_itA, e_meth, ty_s, e_run1, e_run2, e_run3, e_run4, s_d1, s_d2, s_od, s_oo, s_o1, s_odd, s_t1, s_td, ic_d, ic_o, ic_t, ic_nil, e_argD, e_argDD, List.replicate, Nat.reduceSub, List.length_cons, List.length_nil, bind_ok, bind_exc, bind_bad, e_seq, th_nx, th_ret, th_exc, th_bk, th_ct, e_set, e_setK, e_ret, e_retK, e_drop, e_dropK, e_retN, e_next, e_brk, e_cnt, e_if, e_ifE, e_and, e_or, e_not, onB_t, onB_f, onB_b, e_var, e_varK, e_c, e_bin, e_un, e_call, e_nil, e_cons, e_tup, e_tupK, e_lst, e_lstK, e_newLst, toDs_nil, toDs_d, Option.map_some, e_callV, e_callVT, ar_nil, ar_cons, ar_d, ar_t, e_argKT, af_d, af_new, af_exc, up_nil, up_cons, end_ret, end_exc, end_nx, out_d, v_add, v_sub, v_neg, v_lt, v_le, v_gt, v_ge, v_eqI, v_neI, v_gcd, v_abs, v_max, v_int, v_lenT, v_lenL, List.getElem?_cons_zero, List.getElem?_cons_succ, List.set_cons_zero, List.set_cons_succ, List.take_zero, List.take_nil, Bool.false_eq_true, if_false, if_true, eq_self, decide_true, decide_false, Bool.not_true, Bool.not_false, Nat.reduceAdd, Nat.reduceLeDiff, Nat.reduceLT, List.nil_append, List.cons_append, k1, k2, k3]
  rw [seq_nx i1]
  rw [seq_nx (app_m (k := 1) rfl rfl (below _ _ _) (by simp))]
  rw [seq_nx (app_m (k := 1) rfl rfl (k5 _ _ _) (by simp))]
  simp only [List.set_cons_zero, List.set_cons_succ, List.cons_append, List.nil_append]
  have i2 := same_cc (fa := varE 2) (fb := varE 3) (k := 0) (j := 1) (L := [tld P, tld M, tld T, tld (.bl B), w5]) (st := ⟨[some (.d a), some (.d b), some (.c 0), some (.c 1)], [.own [tld P, tld M, tld T, tld (.bl B), w5], .own [tld P, tld M, tld T, tld (.bl B), w5]]⟩)
    (vs := [some (.d a), some (.d b), some (.c 0), some (.c 1)]) (cs := [.own [tld P, tld M, tld T, tld (.bl B), w5], .own [tld P, tld M, tld T, tld (.bl B), w5]]) rfl rfl rfl rfl (by decide) G Z
  rw [e_ret, i2, bind_ok]
  rfl
end Law
end
section
set_option Elab.async false
set_option linter.all false
set_option maxRecDepth 100000
set_option maxHeartbeats 4000000
set_option exponentiation.threshold 5000
namespace Law
open PySem Sh
theorem Lt.len {xs : List D} (h : Lt (.tup xs)) : xs.length ≤ 1000000 := by
  have h1 := h.2.2
  have h2 := szDs_len xs
  simp only [szD] at h1
  omega
theorem wbfr_lt {x : D} (h : Lt x) : d__law_wb_is_fraction [.d x] = .ok (.d (.bl (isFr x))) [] :=
  wbfr_ok h.1 (by have := h.2.1; omega) fun xs e => by subst e; exact h.len
abbrev bad : D := .tup [.str "BadFraction", .int 0]
theorem thing_ok {x : D} (h : Lt x) : d__law_a2_thing_right [.d x] = .ok (.d (.bl true)) [] := by
  obtain ⟨w, hw, hg, kw⟩ : ∃ w, hrd (d_made_fraction [.d x]) = some w ∧ Hd w ∧ ∀ (v : Option Val) (cs : List Cell), ifE (varE 1) (tupE [(cE (.str "told")), (varE 0)]) (tupE [(cE (.str "BadFraction")), (cE (.int 0))]) ⟨[some (.d x), some (.d (.bl (isFr x))), v], cs⟩ = .ok (.d w) ⟨[some (.d x), some (.d (.bl (isFr x))), v], cs⟩ := by
    rw [made_ok h.1]
    cases isFr x
    · exact ⟨_, rfl, hd_b, fun v cs => by simp only [e_par, e_parK, e_asg, toD_d, e_nameT, e_consT, e_nilT, Option.bind_some, n_nx, n_ct, n_bk, n_ret, e_for, e_itE, e_itA, e_meth, ty_s, e_run1, e_run2, e_run3, e_run4, s_d1, s_d2, s_od, s_oo, s_o1, s_odd, s_t1, s_td, ic_d, ic_o, ic_t, ic_nil, e_argD, e_argDD, List.replicate, Nat.reduceSub, List.length_cons, List.length_nil, bind_ok, bind_exc, bind_bad, e_seq, th_nx, th_ret, th_exc, th_bk, th_ct, e_set, e_setK, e_ret, e_retK, e_drop, e_dropK, e_retN, e_next, e_brk, e_cnt, e_if, e_ifE, e_and, e_or, e_not, onB_t, onB_f, onB_b, e_var, e_varK, e_c, e_bin, e_un, e_call, e_nil, e_cons, e_tup, e_tupK, e_lst, e_lstK, e_newLst, toDs_nil, toDs_d, Option.map_some, e_callV, e_callVT, ar_nil, ar_cons, ar_d, ar_t, e_argKT, af_d, af_new, af_exc, up_nil, up_cons, end_ret, end_exc, end_nx, out_d, v_add, v_sub, v_neg, v_lt, v_le, v_gt, v_ge, v_eqI, v_neI, v_gcd, v_abs, v_max, v_int, v_lenT, v_lenL, List.getElem?_cons_zero, List.getElem?_cons_succ, List.set_cons_zero, List.set_cons_succ, List.take_zero, List.take_nil, Bool.false_eq_true, if_false, if_true, eq_self, decide_true, decide_false, Bool.not_true, Bool.not_false, Nat.reduceAdd, Nat.reduceLeDiff, Nat.reduceLT, List.nil_append, List.cons_append]⟩
    · exact ⟨_, rfl, h.hd, fun v cs => by simp only [e_par, e_parK, e_asg, toD_d, e_nameT, e_consT, e_nilT, Option.bind_some, n_nx, n_ct, n_bk, n_ret, e_for, e_itE, e_itA, e_meth, ty_s, e_run1, e_run2, e_run3, e_run4, s_d1, s_d2, s_od, s_oo, s_o1, s_odd, s_t1, s_td, ic_d, ic_o, ic_t, ic_nil, e_argD, e_argDD, List.replicate, Nat.reduceSub, List.length_cons, List.length_nil, bind_ok, bind_exc, bind_bad, e_seq, th_nx, th_ret, th_exc, th_bk, th_ct, e_set, e_setK, e_ret, e_retK, e_drop, e_dropK, e_retN, e_next, e_brk, e_cnt, e_if, e_ifE, e_and, e_or, e_not, onB_t, onB_f, onB_b, e_var, e_varK, e_c, e_bin, e_un, e_call, e_nil, e_cons, e_tup, e_tupK, e_lst, e_lstK, e_newLst, toDs_nil, toDs_d, Option.map_some, e_callV, e_callVT, ar_nil, ar_cons, ar_d, ar_t, e_argKT, af_d, af_new, af_exc, up_nil, up_cons, end_ret, end_exc, end_nx, out_d, v_add, v_sub, v_neg, v_lt, v_le, v_gt, v_ge, v_eqI, v_neI, v_gcd, v_abs, v_max, v_int, v_lenT, v_lenL, List.getElem?_cons_zero, List.getElem?_cons_succ, List.set_cons_zero, List.set_cons_succ, List.take_zero, List.take_nil, Bool.false_eq_true, if_false, if_true, eq_self, decide_true, decide_false, Bool.not_true, Bool.not_false, Nat.reduceAdd, Nat.reduceLeDiff, Nat.reduceLT, List.nil_append, List.cons_append]⟩
  have hw2 : hrd (d_is_fraction [.d x]) = some (tld (.bl (isFr x))) := by rw [isfr_ok h.1]; rfl
  have k0 := wbfr_lt h
  generalize isFr x = b at *
  have hG : ∀ y ∈ [w, tld (.bl b)], Hd y := fun y hy => by
    simp only [List.mem_cons, List.not_mem_nil, or_false] at hy
    rcases hy with rfl | rfl
    · exact hg
    · exact (Lt.bl b).hd
  obtain ⟨G, Z⟩ := hds hG (by simp)
  rw [d__law_a2_thing_right, e_run1, s_d1]
  unfold m__law_a2_thing_right
  have i0 : setS 1 (callE (callV d__law_wb_is_fraction) [(varE 0)]) ⟨some (.d x) :: List.replicate (3 - 1) none, []⟩ = .ok .nx ⟨[some (.d x), some (.d (.bl b)), none], []⟩ := by simp only [e_par, e_parK, e_asg, toD_d, e_nameT, e_consT, e_nilT, Option.bind_some, n_nx, n_ct, n_bk, n_ret, e_for, e_itE, e_itA, e_meth, ty_s, e_run1, e_run2, e_run3, e_run4, s_d1, s_d2, s_od, s_oo, s_o1, s_odd, s_t1, s_td, ic_d, ic_o, ic_t, ic_nil, e_argD, e_argDD, List.replicate, Nat.reduceSub, List.length_cons, List.length_nil, bind_ok, bind_exc, bind_bad, e_seq, th_nx, th_ret, th_exc, th_bk, th_ct, e_set, e_setK, e_ret, e_retK, e_drop, e_dropK, e_retN, e_next, e_brk, e_cnt, e_if, e_ifE, e_and, e_or, e_not, onB_t, onB_f, onB_b, e_var, e_varK, e_c, e_bin, e_un, e_call, e_nil, e_cons, e_tup, e_tupK, e_lst, e_lstK, e_newLst, toDs_nil, toDs_d, Option.map_some, e_callV, e_callVT, ar_nil, ar_cons, ar_d, ar_t, e_argKT, af_d, af_new, af_exc, up_nil, up_cons, end_ret, end_exc, end_nx, out_d, v_add, v_sub, v_neg, v_lt, v_le, v_gt, v_ge, v_eqI, v_neI, v_gcd, v_abs, v_max, v_int, v_lenT, v_lenL, List.getElem?_cons_zero, List.getElem?_cons_succ, List.set_cons_zero, List.set_cons_succ, List.take_zero, List.take_nil, Bool.false_eq_true, if_false, if_true, eq_self, decide_true, decide_false, Bool.not_true, Bool.not_false, Nat.reduceAdd, Nat.reduceLeDiff, Nat.reduceLT, List.nil_append, List.cons_append, k0]
  rw [seq_nx i0]
  have i1 : setS 2 (lstE [(lamE d__law_a2_heard [0] (callE (callV d_made_fraction) [(varE 0)]) [])]) ⟨[some (.d x), some (.d (.bl b)), none], []⟩ = .ok .nx ⟨[some (.d x), some (.d (.bl b)), some (.c 0)], [.own [w]]⟩ := by
    simp only [e_par, e_parK, e_asg, toD_d, e_nameT, e_consT, e_nilT, Option.bind_some, n_nx, n_ct, n_bk, n_ret, e_for, e_itE, e_itA, e_meth, ty_s, e_run1, e_run2, e_run3, e_run4, s_d1, s_d2, s_od, s_oo, s_o1, s_odd, s_t1, s_td, ic_d, ic_o, ic_t, ic_nil, e_argD, e_argDD, List.replicate, Nat.reduceSub, List.length_cons, List.length_nil, bind_ok, bind_exc, bind_bad, e_seq, th_nx, th_ret, th_exc, th_bk, th_ct, e_set, e_setK, e_ret, e_retK, e_drop, e_dropK, e_retN, e_next, e_brk, e_cnt, e_if, e_ifE, e_and, e_or, e_not, onB_t, onB_f, onB_b, e_var, e_varK, e_c, e_bin, e_un, e_call, e_nil, e_cons, e_tup, e_tupK, e_lst, e_lstK, e_newLst, toDs_nil, toDs_d, Option.map_some, e_callV, e_callVT, ar_nil, ar_cons, ar_d, ar_t, e_argKT, af_d, af_new, af_exc, up_nil, up_cons, end_ret, end_exc, end_nx, out_d, v_add, v_sub, v_neg, v_lt, v_le, v_gt, v_ge, v_eqI, v_neI, v_gcd, v_abs, v_max, v_int, v_lenT, v_lenL, List.getElem?_cons_zero, List.getElem?_cons_succ, List.set_cons_zero, List.set_cons_succ, List.take_zero, List.take_nil, Bool.false_eq_true, if_false, if_true, eq_self, decide_true, decide_false, Bool.not_true, Bool.not_false, Nat.reduceAdd, Nat.reduceLeDiff, Nat.reduceLT, List.nil_append, List.cons_append, lam1 (vs := [some (.d x), some (.d (.bl b)), none]) (i := 0) rfl hw]
  rw [seq_nx i1]
  rw [seq_nx (app_m (k := 0) rfl rfl (lam1 (i := 0) rfl hw2) (by simp))]
  simp only [List.set_cons_zero, List.cons_append, List.nil_append]
  have i3 : lstE [(ifE (varE 1) (tupE [(cE (.str "told")), (varE 0)]) (tupE [(cE (.str "BadFraction")), (cE (.int 0))])), (tupE [(cE (.str "told")), (varE 1)])] ⟨[some (.d x), some (.d (.bl b)), some (.c 0)], [.own [w, tld (.bl b)]]⟩ =
      .ok (.c 1) ⟨[some (.d x), some (.d (.bl b)), some (.c 0)], [.own [w, tld (.bl b)], .own [w, tld (.bl b)]]⟩ := by
    rw [e_lst, e_cons, kw, bind_ok]
    simp only [e_par, e_parK, e_asg, toD_d, e_nameT, e_consT, e_nilT, Option.bind_some, n_nx, n_ct, n_bk, n_ret, e_for, e_itE, e_itA, e_meth, ty_s, e_run1, e_run2, e_run3, e_run4, s_d1, s_d2, s_od, s_oo, s_o1, s_odd, s_t1, s_td, ic_d, ic_o, ic_t, ic_nil, e_argD, e_argDD, List.replicate, Nat.reduceSub, List.length_cons, List.length_nil, bind_ok, bind_exc, bind_bad, e_seq, th_nx, th_ret, th_exc, th_bk, th_ct, e_set, e_setK, e_ret, e_retK, e_drop, e_dropK, e_retN, e_next, e_brk, e_cnt, e_if, e_ifE, e_and, e_or, e_not, onB_t, onB_f, onB_b, e_var, e_varK, e_c, e_bin, e_un, e_call, e_nil, e_cons, e_tup, e_tupK, e_lst, e_lstK, e_newLst, toDs_nil, toDs_d, Option.map_some, e_callV, e_callVT, ar_nil, ar_cons, ar_d, ar_t, e_argKT, af_d, af_new, af_exc, up_nil, up_cons, end_ret, end_exc, end_nx, out_d, v_add, v_sub, v_neg, v_lt, v_le, v_gt, v_ge, v_eqI, v_neI, v_gcd, v_abs, v_max, v_int, v_lenT, v_lenL, List.getElem?_cons_zero, List.getElem?_cons_succ, List.set_cons_zero, List.set_cons_succ, List.take_zero, List.take_nil, Bool.false_eq_true, if_false, if_true, eq_self, decide_true, decide_false, Bool.not_true, Bool.not_false, Nat.reduceAdd, Nat.reduceLeDiff, Nat.reduceLT, List.nil_append, List.cons_append]
  have i2 := same_cc (fa := varE 2) (k := 0) (j := 1) (L := [w, tld (.bl b)]) (st := ⟨[some (.d x), some (.d (.bl b)), some (.c 0)], [.own [w, tld (.bl b)]]⟩) rfl i3 rfl rfl (by decide) G Z
  rw [e_ret, i2, bind_ok]
  rfl
/-! ### refusals -/
theorem bad_plus {l r : D} (hl : Pl l = true) (hr : Pl r = true) (h : (isFr l && isFr r) = false) : hrd (d_plus [.d l, .d r]) = some bad := by
  rw [d_plus]; unfold m_plus
  cases a : isFr l
  · simp only [e_par, e_parK, e_asg, toD_d, e_nameT, e_consT, e_nilT, Option.bind_some, n_nx, n_ct, n_bk, n_ret, e_for, e_itE, e_itA, e_meth, ty_s, e_run1, e_run2, e_run3, e_run4, s_d1, s_d2, s_od, s_oo, s_o1, s_odd, s_t1, s_td, ic_d, ic_o, ic_t, ic_nil, e_argD, e_argDD, List.replicate, Nat.reduceSub, List.length_cons, List.length_nil, bind_ok, bind_exc, bind_bad, e_seq, th_nx, th_ret, th_exc, th_bk, th_ct, e_set, e_setK, e_ret, e_retK, e_drop, e_dropK, e_retN, e_next, e_brk, e_cnt, e_if, e_ifE, e_and, e_or, e_not, onB_t, onB_f, onB_b, e_var, e_varK, e_c, e_bin, e_un, e_call, e_nil, e_cons, e_tup, e_tupK, e_lst, e_lstK, e_newLst, toDs_nil, toDs_d, Option.map_some, e_callV, e_callVT, ar_nil, ar_cons, ar_d, ar_t, e_argKT, af_d, af_new, af_exc, up_nil, up_cons, end_ret, end_exc, end_nx, out_d, v_add, v_sub, v_neg, v_lt, v_le, v_gt, v_ge, v_eqI, v_neI, v_gcd, v_abs, v_max, v_int, v_lenT, v_lenL, List.getElem?_cons_zero, List.getElem?_cons_succ, List.set_cons_zero, List.set_cons_succ, List.take_zero, List.take_nil, Bool.false_eq_true, if_false, if_true, eq_self, decide_true, decide_false, Bool.not_true, Bool.not_false, Nat.reduceAdd, Nat.reduceLeDiff, Nat.reduceLT, List.nil_append, List.cons_append, made_ok hl, a]; rfl
  · rw [a, Bool.true_and] at h
    simp only [e_par, e_parK, e_asg, toD_d, e_nameT, e_consT, e_nilT, Option.bind_some, n_nx, n_ct, n_bk, n_ret, e_for, e_itE, e_itA, e_meth, ty_s, e_run1, e_run2, e_run3, e_run4, s_d1, s_d2, s_od, s_oo, s_o1, s_odd, s_t1, s_td, ic_d, ic_o, ic_t, ic_nil, e_argD, e_argDD, List.replicate, Nat.reduceSub, List.length_cons, List.length_nil, bind_ok, bind_exc, bind_bad, e_seq, th_nx, th_ret, th_exc, th_bk, th_ct, e_set, e_setK, e_ret, e_retK, e_drop, e_dropK, e_retN, e_next, e_brk, e_cnt, e_if, e_ifE, e_and, e_or, e_not, onB_t, onB_f, onB_b, e_var, e_varK, e_c, e_bin, e_un, e_call, e_nil, e_cons, e_tup, e_tupK, e_lst, e_lstK, e_newLst, toDs_nil, toDs_d, Option.map_some, e_callV, e_callVT, ar_nil, ar_cons, ar_d, ar_t, e_argKT, af_d, af_new, af_exc, up_nil, up_cons, end_ret, end_exc, end_nx, out_d, v_add, v_sub, v_neg, v_lt, v_le, v_gt, v_ge, v_eqI, v_neI, v_gcd, v_abs, v_max, v_int, v_lenT, v_lenL, List.getElem?_cons_zero, List.getElem?_cons_succ, List.set_cons_zero, List.set_cons_succ, List.take_zero, List.take_nil, Bool.false_eq_true, if_false, if_true, eq_self, decide_true, decide_false, Bool.not_true, Bool.not_false, Nat.reduceAdd, Nat.reduceLeDiff, Nat.reduceLT, List.nil_append, List.cons_append, made_ok hl, made_ok hr, a, h]; rfl
theorem bad_minus {l r : D} (hl : Pl l = true) (hr : Pl r = true) (h : (isFr l && isFr r) = false) : hrd (d_minus [.d l, .d r]) = some bad := by
  rw [d_minus]; unfold m_minus
  cases a : isFr l
  · simp only [e_par, e_parK, e_asg, toD_d, e_nameT, e_consT, e_nilT, Option.bind_some, n_nx, n_ct, n_bk, n_ret, e_for, e_itE, e_itA, e_meth, ty_s, e_run1, e_run2, e_run3, e_run4, s_d1, s_d2, s_od, s_oo, s_o1, s_odd, s_t1, s_td, ic_d, ic_o, ic_t, ic_nil, e_argD, e_argDD, List.replicate, Nat.reduceSub, List.length_cons, List.length_nil, bind_ok, bind_exc, bind_bad, e_seq, th_nx, th_ret, th_exc, th_bk, th_ct, e_set, e_setK, e_ret, e_retK, e_drop, e_dropK, e_retN, e_next, e_brk, e_cnt, e_if, e_ifE, e_and, e_or, e_not, onB_t, onB_f, onB_b, e_var, e_varK, e_c, e_bin, e_un, e_call, e_nil, e_cons, e_tup, e_tupK, e_lst, e_lstK, e_newLst, toDs_nil, toDs_d, Option.map_some, e_callV, e_callVT, ar_nil, ar_cons, ar_d, ar_t, e_argKT, af_d, af_new, af_exc, up_nil, up_cons, end_ret, end_exc, end_nx, out_d, v_add, v_sub, v_neg, v_lt, v_le, v_gt, v_ge, v_eqI, v_neI, v_gcd, v_abs, v_max, v_int, v_lenT, v_lenL, List.getElem?_cons_zero, List.getElem?_cons_succ, List.set_cons_zero, List.set_cons_succ, List.take_zero, List.take_nil, Bool.false_eq_true, if_false, if_true, eq_self, decide_true, decide_false, Bool.not_true, Bool.not_false, Nat.reduceAdd, Nat.reduceLeDiff, Nat.reduceLT, List.nil_append, List.cons_append, made_ok hl, a]; rfl
  · rw [a, Bool.true_and] at h
    simp only [e_par, e_parK, e_asg, toD_d, e_nameT, e_consT, e_nilT, Option.bind_some, n_nx, n_ct, n_bk, n_ret, e_for, e_itE, e_itA, e_meth, ty_s, e_run1, e_run2, e_run3, e_run4, s_d1, s_d2, s_od, s_oo, s_o1, s_odd, s_t1, s_td, ic_d, ic_o, ic_t, ic_nil, e_argD, e_argDD, List.replicate, Nat.reduceSub, List.length_cons, List.length_nil, bind_ok, bind_exc, bind_bad, e_seq, th_nx, th_ret, th_exc, th_bk, th_ct, e_set, e_setK, e_ret, e_retK, e_drop, e_dropK, e_retN, e_next, e_brk, e_cnt, e_if, e_ifE, e_and, e_or, e_not, onB_t, onB_f, onB_b, e_var, e_varK, e_c, e_bin, e_un, e_call, e_nil, e_cons, e_tup, e_tupK, e_lst, e_lstK, e_newLst, toDs_nil, toDs_d, Option.map_some, e_callV, e_callVT, ar_nil, ar_cons, ar_d, ar_t, e_argKT, af_d, af_new, af_exc, up_nil, up_cons, end_ret, end_exc, end_nx, out_d, v_add, v_sub, v_neg, v_lt, v_le, v_gt, v_ge, v_eqI, v_neI, v_gcd, v_abs, v_max, v_int, v_lenT, v_lenL, List.getElem?_cons_zero, List.getElem?_cons_succ, List.set_cons_zero, List.set_cons_succ, List.take_zero, List.take_nil, Bool.false_eq_true, if_false, if_true, eq_self, decide_true, decide_false, Bool.not_true, Bool.not_false, Nat.reduceAdd, Nat.reduceLeDiff, Nat.reduceLT, List.nil_append, List.cons_append, made_ok hl, made_ok hr, a, h]; rfl
theorem bad_times {l r : D} (hl : Pl l = true) (hr : Pl r = true) (h : (isFr l && isFr r) = false) : hrd (d_times [.d l, .d r]) = some bad := by
  rw [d_times]; unfold m_times
  cases a : isFr l
  · simp only [e_par, e_parK, e_asg, toD_d, e_nameT, e_consT, e_nilT, Option.bind_some, n_nx, n_ct, n_bk, n_ret, e_for, e_itE, e_itA, e_meth, ty_s, e_run1, e_run2, e_run3, e_run4, s_d1, s_d2, s_od, s_oo, s_o1, s_odd, s_t1, s_td, ic_d, ic_o, ic_t, ic_nil, e_argD, e_argDD, List.replicate, Nat.reduceSub, List.length_cons, List.length_nil, bind_ok, bind_exc, bind_bad, e_seq, th_nx, th_ret, th_exc, th_bk, th_ct, e_set, e_setK, e_ret, e_retK, e_drop, e_dropK, e_retN, e_next, e_brk, e_cnt, e_if, e_ifE, e_and, e_or, e_not, onB_t, onB_f, onB_b, e_var, e_varK, e_c, e_bin, e_un, e_call, e_nil, e_cons, e_tup, e_tupK, e_lst, e_lstK, e_newLst, toDs_nil, toDs_d, Option.map_some, e_callV, e_callVT, ar_nil, ar_cons, ar_d, ar_t, e_argKT, af_d, af_new, af_exc, up_nil, up_cons, end_ret, end_exc, end_nx, out_d, v_add, v_sub, v_neg, v_lt, v_le, v_gt, v_ge, v_eqI, v_neI, v_gcd, v_abs, v_max, v_int, v_lenT, v_lenL, List.getElem?_cons_zero, List.getElem?_cons_succ, List.set_cons_zero, List.set_cons_succ, List.take_zero, List.take_nil, Bool.false_eq_true, if_false, if_true, eq_self, decide_true, decide_false, Bool.not_true, Bool.not_false, Nat.reduceAdd, Nat.reduceLeDiff, Nat.reduceLT, List.nil_append, List.cons_append, made_ok hl, a]; rfl
  · rw [a, Bool.true_and] at h
    simp only [e_par, e_parK, e_asg, toD_d, e_nameT, e_consT, e_nilT, Option.bind_some, n_nx, n_ct, n_bk, n_ret, e_for, e_itE, e_itA, e_meth, ty_s, e_run1, e_run2, e_run3, e_run4, s_d1, s_d2, s_od, s_oo, s_o1, s_odd, s_t1, s_td, ic_d, ic_o, ic_t, ic_nil, e_argD, e_argDD, List.replicate, Nat.reduceSub, List.length_cons, List.length_nil, bind_ok, bind_exc, bind_bad, e_seq, th_nx, th_ret, th_exc, th_bk, th_ct, e_set, e_setK, e_ret, e_retK, e_drop, e_dropK, e_retN, e_next, e_brk, e_cnt, e_if, e_ifE, e_and, e_or, e_not, onB_t, onB_f, onB_b, e_var, e_varK, e_c, e_bin, e_un, e_call, e_nil, e_cons, e_tup, e_tupK, e_lst, e_lstK, e_newLst, toDs_nil, toDs_d, Option.map_some, e_callV, e_callVT, ar_nil, ar_cons, ar_d, ar_t, e_argKT, af_d, af_new, af_exc, up_nil, up_cons, end_ret, end_exc, end_nx, out_d, v_add, v_sub, v_neg, v_lt, v_le, v_gt, v_ge, v_eqI, v_neI, v_gcd, v_abs, v_max, v_int, v_lenT, v_lenL, List.getElem?_cons_zero, List.getElem?_cons_succ, List.set_cons_zero, List.set_cons_succ, List.take_zero, List.take_nil, Bool.false_eq_true, if_false, if_true, eq_self, decide_true, decide_false, Bool.not_true, Bool.not_false, Nat.reduceAdd, Nat.reduceLeDiff, Nat.reduceLT, List.nil_append, List.cons_append, made_ok hl, made_ok hr, a, h]; rfl
theorem bad_over {l r : D} (hl : Pl l = true) (hr : Pl r = true) (h : (isFr l && isFr r) = false) : hrd (d_over [.d l, .d r]) = some bad := by
  rw [d_over]; unfold m_over
  cases a : isFr l
  · simp only [e_par, e_parK, e_asg, toD_d, e_nameT, e_consT, e_nilT, Option.bind_some, n_nx, n_ct, n_bk, n_ret, e_for, e_itE, e_itA, e_meth, ty_s, e_run1, e_run2, e_run3, e_run4, s_d1, s_d2, s_od, s_oo, s_o1, s_odd, s_t1, s_td, ic_d, ic_o, ic_t, ic_nil, e_argD, e_argDD, List.replicate, Nat.reduceSub, List.length_cons, List.length_nil, bind_ok, bind_exc, bind_bad, e_seq, th_nx, th_ret, th_exc, th_bk, th_ct, e_set, e_setK, e_ret, e_retK, e_drop, e_dropK, e_retN, e_next, e_brk, e_cnt, e_if, e_ifE, e_and, e_or, e_not, onB_t, onB_f, onB_b, e_var, e_varK, e_c, e_bin, e_un, e_call, e_nil, e_cons, e_tup, e_tupK, e_lst, e_lstK, e_newLst, toDs_nil, toDs_d, Option.map_some, e_callV, e_callVT, ar_nil, ar_cons, ar_d, ar_t, e_argKT, af_d, af_new, af_exc, up_nil, up_cons, end_ret, end_exc, end_nx, out_d, v_add, v_sub, v_neg, v_lt, v_le, v_gt, v_ge, v_eqI, v_neI, v_gcd, v_abs, v_max, v_int, v_lenT, v_lenL, List.getElem?_cons_zero, List.getElem?_cons_succ, List.set_cons_zero, List.set_cons_succ, List.take_zero, List.take_nil, Bool.false_eq_true, if_false, if_true, eq_self, decide_true, decide_false, Bool.not_true, Bool.not_false, Nat.reduceAdd, Nat.reduceLeDiff, Nat.reduceLT, List.nil_append, List.cons_append, made_ok hl, a]; rfl
  · rw [a, Bool.true_and] at h
    simp only [e_par, e_parK, e_asg, toD_d, e_nameT, e_consT, e_nilT, Option.bind_some, n_nx, n_ct, n_bk, n_ret, e_for, e_itE, e_itA, e_meth, ty_s, e_run1, e_run2, e_run3, e_run4, s_d1, s_d2, s_od, s_oo, s_o1, s_odd, s_t1, s_td, ic_d, ic_o, ic_t, ic_nil, e_argD, e_argDD, List.replicate, Nat.reduceSub, List.length_cons, List.length_nil, bind_ok, bind_exc, bind_bad, e_seq, th_nx, th_ret, th_exc, th_bk, th_ct, e_set, e_setK, e_ret, e_retK, e_drop, e_dropK, e_retN, e_next, e_brk, e_cnt, e_if, e_ifE, e_and, e_or, e_not, onB_t, onB_f, onB_b, e_var, e_varK, e_c, e_bin, e_un, e_call, e_nil, e_cons, e_tup, e_tupK, e_lst, e_lstK, e_newLst, toDs_nil, toDs_d, Option.map_some, e_callV, e_callVT, ar_nil, ar_cons, ar_d, ar_t, e_argKT, af_d, af_new, af_exc, up_nil, up_cons, end_ret, end_exc, end_nx, out_d, v_add, v_sub, v_neg, v_lt, v_le, v_gt, v_ge, v_eqI, v_neI, v_gcd, v_abs, v_max, v_int, v_lenT, v_lenL, List.getElem?_cons_zero, List.getElem?_cons_succ, List.set_cons_zero, List.set_cons_succ, List.take_zero, List.take_nil, Bool.false_eq_true, if_false, if_true, eq_self, decide_true, decide_false, Bool.not_true, Bool.not_false, Nat.reduceAdd, Nat.reduceLeDiff, Nat.reduceLT, List.nil_append, List.cons_append, made_ok hl, made_ok hr, a, h]; rfl
theorem bad_below {l r : D} (hl : Pl l = true) (hr : Pl r = true) (h : (isFr l && isFr r) = false) : hrd (d_below [.d l, .d r]) = some bad := by
  rw [d_below]; unfold m_below
  cases a : isFr l
  · simp only [e_par, e_parK, e_asg, toD_d, e_nameT, e_consT, e_nilT, Option.bind_some, n_nx, n_ct, n_bk, n_ret, e_for, e_itE, e_itA, e_meth, ty_s, e_run1, e_run2, e_run3, e_run4, s_d1, s_d2, s_od, s_oo, s_o1, s_odd, s_t1, s_td, ic_d, ic_o, ic_t, ic_nil, e_argD, e_argDD, List.replicate, Nat.reduceSub, List.length_cons, List.length_nil, bind_ok, bind_exc, bind_bad, e_seq, th_nx, th_ret, th_exc, th_bk, th_ct, e_set, e_setK, e_ret, e_retK, e_drop, e_dropK, e_retN, e_next, e_brk, e_cnt, e_if, e_ifE, e_and, e_or, e_not, onB_t, onB_f, onB_b, e_var, e_varK, e_c, e_bin, e_un, e_call, e_nil, e_cons, e_tup, e_tupK, e_lst, e_lstK, e_newLst, toDs_nil, toDs_d, Option.map_some, e_callV, e_callVT, ar_nil, ar_cons, ar_d, ar_t, e_argKT, af_d, af_new, af_exc, up_nil, up_cons, end_ret, end_exc, end_nx, out_d, v_add, v_sub, v_neg, v_lt, v_le, v_gt, v_ge, v_eqI, v_neI, v_gcd, v_abs, v_max, v_int, v_lenT, v_lenL, List.getElem?_cons_zero, List.getElem?_cons_succ, List.set_cons_zero, List.set_cons_succ, List.take_zero, List.take_nil, Bool.false_eq_true, if_false, if_true, eq_self, decide_true, decide_false, Bool.not_true, Bool.not_false, Nat.reduceAdd, Nat.reduceLeDiff, Nat.reduceLT, List.nil_append, List.cons_append, made_ok hl, a]; rfl
  · rw [a, Bool.true_and] at h
    simp only [e_par, e_parK, e_asg, toD_d, e_nameT, e_consT, e_nilT, Option.bind_some, n_nx, n_ct, n_bk, n_ret, e_for, e_itE, e_itA, e_meth, ty_s, e_run1, e_run2, e_run3, e_run4, s_d1, s_d2, s_od, s_oo, s_o1, s_odd, s_t1, s_td, ic_d, ic_o, ic_t, ic_nil, e_argD, e_argDD, List.replicate, Nat.reduceSub, List.length_cons, List.length_nil, bind_ok, bind_exc, bind_bad, e_seq, th_nx, th_ret, th_exc, th_bk, th_ct, e_set, e_setK, e_ret, e_retK, e_drop, e_dropK, e_retN, e_next, e_brk, e_cnt, e_if, e_ifE, e_and, e_or, e_not, onB_t, onB_f, onB_b, e_var, e_varK, e_c, e_bin, e_un, e_call, e_nil, e_cons, e_tup, e_tupK, e_lst, e_lstK, e_newLst, toDs_nil, toDs_d, Option.map_some, e_callV, e_callVT, ar_nil, ar_cons, ar_d, ar_t, e_argKT, af_d, af_new, af_exc, up_nil, up_cons, end_ret, end_exc, end_nx, out_d, v_add, v_sub, v_neg, v_lt, v_le, v_gt, v_ge, v_eqI, v_neI, v_gcd, v_abs, v_max, v_int, v_lenT, v_lenL, List.getElem?_cons_zero, List.getElem?_cons_succ, List.set_cons_zero, List.set_cons_succ, List.take_zero, List.take_nil, Bool.false_eq_true, if_false, if_true, eq_self, decide_true, decide_false, Bool.not_true, Bool.not_false, Nat.reduceAdd, Nat.reduceLeDiff, Nat.reduceLT, List.nil_append, List.cons_append, made_ok hl, made_ok hr, a, h]; rfl
/-! ### the way back -/
theorem tells_ok {a : D} (h : Lt a) : d__law_a2_tells [.t true "" a, .d a] = .ok (.d (.bl true)) [] := by
  have h1 := h.td
  have k := same_d (x := tld a) ⟨h1.1, by omega⟩ (by omega)
  rw [d__law_a2_tells, e_run2, s_td]
  unfold m__law_a2_tells
  have k2 := heard_t a
  simp only [e_par, e_parK, e_asg, toD_d, e_nameT, e_consT, e_nilT, Option.bind_some, n_nx, n_ct, n_bk, n_ret, e_for, e_itE, e_itA, e_meth, ty_s, e_run1, e_run2, e_run3, e_run4, s_d1, s_d2, s_od, s_oo, s_o1, s_odd, s_t1, s_td, ic_d, ic_o, ic_t, ic_nil, e_argD, e_argDD, List.replicate, Nat.reduceSub, List.length_cons, List.length_nil, bind_ok, bind_exc, bind_bad, e_seq, th_nx, th_ret, th_exc, th_bk, th_ct, e_set, e_setK, e_ret, e_retK, e_drop, e_dropK, e_retN, e_next, e_brk, e_cnt, e_if, e_ifE, e_and, e_or, e_not, onB_t, onB_f, onB_b, e_var, e_varK, e_c, e_bin, e_un, e_call, e_nil, e_cons, e_tup, e_tupK, e_lst, e_lstK, e_newLst, toDs_nil, toDs_d, Option.map_some, e_callV, e_callVT, ar_nil, ar_cons, ar_d, ar_t, e_argKT, af_d, af_new, af_exc, up_nil, up_cons, end_ret, end_exc, end_nx, out_d, v_add, v_sub, v_neg, v_lt, v_le, v_gt, v_ge, v_eqI, v_neI, v_gcd, v_abs, v_max, v_int, v_lenT, v_lenL, List.getElem?_cons_zero, List.getElem?_cons_succ, List.set_cons_zero, List.set_cons_succ, List.take_zero, List.take_nil, Bool.false_eq_true, if_false, if_true, eq_self, decide_true, decide_false, Bool.not_true, Bool.not_false, Nat.reduceAdd, Nat.reduceLeDiff, Nat.reduceLT, List.nil_append, List.cons_append, k2]
  rw [k]
  rfl
theorem lamT {i j : Nat} {d : List Ar → RD} {a b y z : D} {vs : List (Option Val)} {cs : List Cell} (ha : vs[i]? = some (some (.d a))) (hb : vs[j]? = some (some (.d b))) (ij : i ≠ j) (hz : vs[0]? = some (some (.d z))) (h : d [.d b, .d a] = .ok (.d z) []) (hz2 : Lt z) :
    lamE d__law_a2_tells [i, j] (callE (callV d) [varE j, varE i]) [varE 0] ⟨vs, cs⟩ = .ok (.d (.bl true)) ⟨vs, cs⟩ := by
  have c := cap2 (a := a) (b := b) (lt_of_some ha) (lt_of_some hb) ij
  have c2 := call2 (d := d) (cs := []) c.2 c.1
  rw [h, af_d, up_nil] at c2
  rw [e_lam, frz2 ha hb]
  simp only [thkOf, c2, toD_d]
  rw [e_cons, e_var, hz, e_varK, bind_ok, e_nil, bind_ok, bind_ok, ar_cons, ar_nil, ar_d]
  simp only [nt_d, nt_nil, if_true]
  rw [tells_ok hz2, af_d, up_nil]
theorem told_ne (st : S) : eqV true (.d (.str "told")) (.d (.str "told")) st = .ok (.d (.bl false)) st := by
  have o : okD (.str "told") = true := by decide +kernel
  rw [v_eq dOf_d dOf_d o o]; try simp [eqD]
theorem mulB {a b : Int} (ha : a.natAbs < 2 ^ 900) (hb : b.natAbs < 2 ^ 900) : (a * b).natAbs < 2 ^ 1800 := by
  rw [Int.natAbs_mul, ← p2 900 900]
  exact Nat.mul_lt_mul'' ha hb
theorem addB {a b : Int} (ha : a.natAbs < 2 ^ 1800) (hb : b.natAbs < 2 ^ 1800) : (a + b).natAbs < 2 ^ 1900 := by
  have h1 : (a + b).natAbs ≤ a.natAbs + b.natAbs := Int.natAbs_add_le a b
  have h2 : (2 : Nat) ^ 1800 + 2 ^ 1800 = 2 ^ 1801 := by rw [show 1801 = 1800 + 1 from rfl, Nat.pow_succ, Nat.mul_two]
  have h3 : (2 : Nat) ^ 1801 ≤ 2 ^ 1900 := Nat.pow_le_pow_right (by decide) (by decide)
  generalize (2 : Nat) ^ 1800 = X at *
  generalize (2 : Nat) ^ 1801 = Y at *
  generalize (2 : Nat) ^ 1900 = Z at *
  omega
theorem upB {a : Int} (ha : a.natAbs < 2 ^ 1800) : a.natAbs < 2 ^ 1900 := Nat.lt_of_lt_of_le ha (Nat.pow_le_pow_right (by decide) (by decide))
theorem back_ok {p q r s : Int} (h1 : Fq 900 p q) (h2 : Fq 900 r s) : d__law_a2_back_right [.d (fr p q), .d (fr r s)] = .ok (.d (.bl true)) [] := by
  have q0 := h1.n0
  have s0 := h2.n0
  have qs := Int.mul_ne_zero q0 s0
  have u1 := h1.up (C := 1900) (by decide)
  have u2 := h2.up (C := 1900) (by decide)
  have b1 := mulB h1.bq h2.bq
  have fP := low_fq (B := 1900) (p := p * s + r * q) qs (addB (mulB h1.bp h2.bq) (mulB h2.bp h1.bq)) (upB b1)
  have fT := low_fq (B := 1900) (p := p * r) qs (upB (mulB h1.bp h2.bp)) (upB b1)
  have cP := low_cross (p := p * s + r * q) qs
  have cT := low_cross (p := p * r) qs
  have hw1 : hrd (d_plus [.d (fr p q), .d (fr r s)]) = some (tld (low (p * s + r * q) (q * s))) := by rw [plus_ok u1 u2]; rfl
  have hw3 : hrd (d_times [.d (fr p q), .d (fr r s)]) = some (tld (low (p * r) (q * s))) := by rw [times_ok u1 u2]; rfl
  have m1 : d_minus [.d (low (p * s + r * q) (q * s)), .d (fr r s)] = .ok (.d (fr p q)) [] := by
    unfold low
    rw [minus_ok fP u2]
    generalize lowN (p * s + r * q) (q * s) = N at *
    generalize lowD (p * s + r * q) (q * s) = E at *
    rw [low_eq (Int.mul_ne_zero fP.n0 s0) (by grind) h1.pos h1.g]
  have m2 : r ≠ 0 → d_over [.d (low (p * r) (q * s)), .d (fr r s)] = .ok (.d (fr p q)) [] := fun r0 => by
    unfold low
    rw [over_ok fT u2 r0]
    generalize lowN (p * r) (q * s) = N at *
    generalize lowD (p * r) (q * s) = E at *
    rw [low_eq (Int.mul_ne_zero fT.n0 r0) (by grind) h1.pos h1.g]
  have lt : Lt (fr p q) := Lt.fr u1.b1.sm u1.b2.sm
  have en := eq_nought u2
  generalize low (p * s + r * q) (q * s) = P at *
  generalize low (p * r) (q * s) = T at *
  rw [d__law_a2_back_right, e_run2, s_d2]
  unfold m__law_a2_back_right
  generalize fr p q = a at *
  generalize fr r s = b at *
  have i0 : asgS (tupT 2 (consT (nameT 2) (consT (nameT 3) nilT))) (lamE d__law_a2_heard [0, 1] (callE (callV d_plus) [(varE 0), (varE 1)]) []) ⟨some (.d a) :: some (.d b) :: List.replicate (5 - 2) none, []⟩ = .ok .nx ⟨[some (.d a), some (.d b), some (.d (.str "told")), some (.d P), none], []⟩ := by
    rw [e_asg, lam2 (vs := some (.d a) :: some (.d b) :: List.replicate (5 - 2) none) (i := 0) (j := 1) rfl rfl (by decide) hw1]; rfl
  rw [seq_nx i0]
  have l1 := lamT (i := 1) (j := 3) (d := d_minus) (a := b) (b := P) (y := a) (z := a) (vs := [some (.d a), some (.d b), some (.d (.str "told")), some (.d P), none]) (cs := []) rfl rfl (by decide) rfl m1 lt
  have i1 : ifS (orE (bin2 (eqV true) (varE 2) (cE (.str "told"))) (notE (lamE d__law_a2_tells [1, 3] (callE (callV d_minus) [(varE 3), (varE 1)]) [(varE 0)]))) (retS (cE (.bl false))) nextS ⟨[some (.d a), some (.d b), some (.d (.str "told")), some (.d P), none], []⟩ = .ok .nx ⟨[some (.d a), some (.d b), some (.d (.str "told")), some (.d P), none], []⟩ := by
    simp only [e_par, e_parK, e_asg, toD_d, e_nameT, e_consT, e_nilT, Option.bind_some, n_nx, n_ct, n_bk, n_ret, e_for, e_itE, e_itA, e_meth, ty_s, e_run1, e_run2, e_run3, e_run4, s_d1, s_d2, s_od, s_oo, s_o1, s_odd, s_t1, s_td, ic_d, ic_o, ic_t, ic_nil, e_argD, e_argDD, List.replicate, Nat.reduceSub, List.length_cons, List.length_nil, bind_ok, bind_exc, bind_bad, e_seq, th_nx, th_ret, th_exc, th_bk, th_ct, e_set, e_setK, e_ret, e_retK, e_drop, e_dropK, e_retN, e_next, e_brk, e_cnt, e_if, e_ifE, e_and, e_or, e_not, onB_t, onB_f, onB_b, e_var, e_varK, e_c, e_bin, e_un, e_call, e_nil, e_cons, e_tup, e_tupK, e_lst, e_lstK, e_newLst, toDs_nil, toDs_d, Option.map_some, e_callV, e_callVT, ar_nil, ar_cons, ar_d, ar_t, e_argKT, af_d, af_new, af_exc, up_nil, up_cons, end_ret, end_exc, end_nx, out_d, v_add, v_sub, v_neg, v_lt, v_le, v_gt, v_ge, v_eqI, v_neI, v_gcd, v_abs, v_max, v_int, v_lenT, v_lenL, List.getElem?_cons_zero, List.getElem?_cons_succ, List.set_cons_zero, List.set_cons_succ, List.take_zero, List.take_nil, Bool.false_eq_true, if_false, if_true, eq_self, decide_true, decide_false, Bool.not_true, Bool.not_false, Nat.reduceAdd, Nat.reduceLeDiff, Nat.reduceLT, List.nil_append, List.cons_append, told_ne, l1]
  rw [seq_nx i1]
  have i2 : asgS (tupT 2 (consT (nameT 2) (consT (nameT 4) nilT))) (lamE d__law_a2_heard [0, 1] (callE (callV d_times) [(varE 0), (varE 1)]) []) ⟨[some (.d a), some (.d b), some (.d (.str "told")), some (.d P), none], []⟩ = .ok .nx ⟨[some (.d a), some (.d b), some (.d (.str "told")), some (.d P), some (.d T)], []⟩ := by
    rw [e_asg, lam2 (vs := [some (.d a), some (.d b), some (.d (.str "told")), some (.d P), none]) (i := 0) (j := 1) rfl rfl (by decide) hw3]; rfl
  rw [seq_nx i2]
  have i3 : ifS (bin2 (eqV true) (varE 2) (cE (.str "told"))) (retS (cE (.bl false))) nextS ⟨[some (.d a), some (.d b), some (.d (.str "told")), some (.d P), some (.d T)], []⟩ = .ok .nx ⟨[some (.d a), some (.d b), some (.d (.str "told")), some (.d P), some (.d T)], []⟩ := by
    simp only [e_par, e_parK, e_asg, toD_d, e_nameT, e_consT, e_nilT, Option.bind_some, n_nx, n_ct, n_bk, n_ret, e_for, e_itE, e_itA, e_meth, ty_s, e_run1, e_run2, e_run3, e_run4, s_d1, s_d2, s_od, s_oo, s_o1, s_odd, s_t1, s_td, ic_d, ic_o, ic_t, ic_nil, e_argD, e_argDD, List.replicate, Nat.reduceSub, List.length_cons, List.length_nil, bind_ok, bind_exc, bind_bad, e_seq, th_nx, th_ret, th_exc, th_bk, th_ct, e_set, e_setK, e_ret, e_retK, e_drop, e_dropK, e_retN, e_next, e_brk, e_cnt, e_if, e_ifE, e_and, e_or, e_not, onB_t, onB_f, onB_b, e_var, e_varK, e_c, e_bin, e_un, e_call, e_nil, e_cons, e_tup, e_tupK, e_lst, e_lstK, e_newLst, toDs_nil, toDs_d, Option.map_some, e_callV, e_callVT, ar_nil, ar_cons, ar_d, ar_t, e_argKT, af_d, af_new, af_exc, up_nil, up_cons, end_ret, end_exc, end_nx, out_d, v_add, v_sub, v_neg, v_lt, v_le, v_gt, v_ge, v_eqI, v_neI, v_gcd, v_abs, v_max, v_int, v_lenT, v_lenL, List.getElem?_cons_zero, List.getElem?_cons_succ, List.set_cons_zero, List.set_cons_succ, List.take_zero, List.take_nil, Bool.false_eq_true, if_false, if_true, eq_self, decide_true, decide_false, Bool.not_true, Bool.not_false, Nat.reduceAdd, Nat.reduceLeDiff, Nat.reduceLT, List.nil_append, List.cons_append, told_ne]
  rw [seq_nx i3]
  have i4 : orE (bin2 (eqV false) (varE 1) (tupE [(cE (.int 0)), (cE (.int 1))])) (lamE d__law_a2_tells [1, 4] (callE (callV d_over) [(varE 4), (varE 1)]) [(varE 0)]) ⟨[some (.d a), some (.d b), some (.d (.str "told")), some (.d P), some (.d T)], []⟩ = .ok (.d (.bl true)) ⟨[some (.d a), some (.d b), some (.d (.str "told")), some (.d P), some (.d T)], []⟩ := by
    by_cases r0 : r = 0
    · have e : (r == 0) = true := by simpa using r0
      simp only [e_par, e_parK, e_asg, toD_d, e_nameT, e_consT, e_nilT, Option.bind_some, n_nx, n_ct, n_bk, n_ret, e_for, e_itE, e_itA, e_meth, ty_s, e_run1, e_run2, e_run3, e_run4, s_d1, s_d2, s_od, s_oo, s_o1, s_odd, s_t1, s_td, ic_d, ic_o, ic_t, ic_nil, e_argD, e_argDD, List.replicate, Nat.reduceSub, List.length_cons, List.length_nil, bind_ok, bind_exc, bind_bad, e_seq, th_nx, th_ret, th_exc, th_bk, th_ct, e_set, e_setK, e_ret, e_retK, e_drop, e_dropK, e_retN, e_next, e_brk, e_cnt, e_if, e_ifE, e_and, e_or, e_not, onB_t, onB_f, onB_b, e_var, e_varK, e_c, e_bin, e_un, e_call, e_nil, e_cons, e_tup, e_tupK, e_lst, e_lstK, e_newLst, toDs_nil, toDs_d, Option.map_some, e_callV, e_callVT, ar_nil, ar_cons, ar_d, ar_t, e_argKT, af_d, af_new, af_exc, up_nil, up_cons, end_ret, end_exc, end_nx, out_d, v_add, v_sub, v_neg, v_lt, v_le, v_gt, v_ge, v_eqI, v_neI, v_gcd, v_abs, v_max, v_int, v_lenT, v_lenL, List.getElem?_cons_zero, List.getElem?_cons_succ, List.set_cons_zero, List.set_cons_succ, List.take_zero, List.take_nil, Bool.false_eq_true, if_false, if_true, eq_self, decide_true, decide_false, Bool.not_true, Bool.not_false, Nat.reduceAdd, Nat.reduceLeDiff, Nat.reduceLT, List.nil_append, List.cons_append, en, e]
    · have e : (r == 0) = false := by simpa using r0
      have l2 := lamT (i := 1) (j := 4) (d := d_over) (a := b) (b := T) (y := a) (z := a) (vs := [some (.d a), some (.d b), some (.d (.str "told")), some (.d P), some (.d T)]) (cs := []) rfl rfl (by decide) rfl (m2 r0) lt
      simp only [e_par, e_parK, e_asg, toD_d, e_nameT, e_consT, e_nilT, Option.bind_some, n_nx, n_ct, n_bk, n_ret, e_for, e_itE, e_itA, e_meth, ty_s, e_run1, e_run2, e_run3, e_run4, s_d1, s_d2, s_od, s_oo, s_o1, s_odd, s_t1, s_td, ic_d, ic_o, ic_t, ic_nil, e_argD, e_argDD, List.replicate, Nat.reduceSub, List.length_cons, List.length_nil, bind_ok, bind_exc, bind_bad, e_seq, th_nx, th_ret, th_exc, th_bk, th_ct, e_set, e_setK, e_ret, e_retK, e_drop, e_dropK, e_retN, e_next, e_brk, e_cnt, e_if, e_ifE, e_and, e_or, e_not, onB_t, onB_f, onB_b, e_var, e_varK, e_c, e_bin, e_un, e_call, e_nil, e_cons, e_tup, e_tupK, e_lst, e_lstK, e_newLst, toDs_nil, toDs_d, Option.map_some, e_callV, e_callVT, ar_nil, ar_cons, ar_d, ar_t, e_argKT, af_d, af_new, af_exc, up_nil, up_cons, end_ret, end_exc, end_nx, out_d, v_add, v_sub, v_neg, v_lt, v_le, v_gt, v_ge, v_eqI, v_neI, v_gcd, v_abs, v_max, v_int, v_lenT, v_lenL, List.getElem?_cons_zero, List.getElem?_cons_succ, List.set_cons_zero, List.set_cons_succ, List.take_zero, List.take_nil, Bool.false_eq_true, if_false, if_true, eq_self, decide_true, decide_false, Bool.not_true, Bool.not_false, Nat.reduceAdd, Nat.reduceLeDiff, Nat.reduceLT, List.nil_append, List.cons_append, en, e, l2]
  rw [e_ret, i4, bind_ok]
  rfl
end Law
end
section
set_option Elab.async false
set_option linter.all false
set_option maxRecDepth 100000
set_option maxHeartbeats 4000000
set_option exponentiation.threshold 5000
namespace Law
open PySem Sh
/-- a jar from which n more may be drawn -/
def Jr (n : Nat) (J : List D) : Prop := ∃ a b c : Int, J = [.int a, .int b, .int c] ∧ 0 ≤ b ∧ b < 2147483647 ∧ 0 ≤ c ∧ c + n ≤ 1000000000000
theorem Jr.mono {n k : Nat} {J : List D} (h : Jr n J) (l : k ≤ n) : Jr k J := by
  obtain ⟨a, b, c, e, h1, h2, h3, h4⟩ := h
  exact ⟨a, b, c, e, h1, h2, h3, by omega⟩
theorem fmod_ge {a m : Int} (h : 0 < m) : 0 ≤ a.fmod m := Int.fmod_nonneg_of_pos a h
theorem fmod_lt {a m : Int} (h : 0 < m) : a.fmod m < m := Int.fmod_lt_of_pos a h
theorem log_lt {a : Int} {n : Nat} (h : a.natAbs < 2 ^ n) (hn : 0 < n) : a.natAbs.log2 < n := by
  by_cases z : a.natAbs = 0
  · rw [z]; simpa using hn
  · exact (Nat.log2_lt z).mpr h
theorem jc0 {x y z : D} {vs : List (Option Val)} {cs : List Cell} : ixV (.c 0) (.d (.int 0)) ⟨vs, .own [x, y, z] :: cs⟩ = .ok (.d x) ⟨vs, .own [x, y, z] :: cs⟩ := rfl
theorem jc1 {x y z : D} {vs : List (Option Val)} {cs : List Cell} : ixV (.c 0) (.d (.int 1)) ⟨vs, .own [x, y, z] :: cs⟩ = .ok (.d y) ⟨vs, .own [x, y, z] :: cs⟩ := rfl
theorem jc2 {x y z : D} {vs : List (Option Val)} {cs : List Cell} : ixV (.c 0) (.d (.int 2)) ⟨vs, .own [x, y, z] :: cs⟩ = .ok (.d z) ⟨vs, .own [x, y, z] :: cs⟩ := rfl
theorem js0 {x y z v : D} {vs : List (Option Val)} {cs : List Cell} : setIx (.d v) (.c 0) (.d (.int 0)) ⟨vs, .own [x, y, z] :: cs⟩ = .ok .nx ⟨vs, .own [v, y, z] :: cs⟩ := rfl
theorem js1 {x y z v : D} {vs : List (Option Val)} {cs : List Cell} : setIx (.d v) (.c 0) (.d (.int 1)) ⟨vs, .own [x, y, z] :: cs⟩ = .ok .nx ⟨vs, .own [x, v, z] :: cs⟩ := rfl
theorem js2 {x y z v : D} {vs : List (Option Val)} {cs : List Cell} : setIx (.d v) (.c 0) (.d (.int 2)) ⟨vs, .own [x, y, z] :: cs⟩ = .ok .nx ⟨vs, .own [x, y, v] :: cs⟩ := rfl
theorem setJ {fe : S → OE} {i : Int} {v : Val} {vs : List (Option Val)} {cs : List Cell} {st2 : S} (h1 : fe ⟨vs, cs⟩ = .ok v ⟨vs, cs⟩) (hv : vs[0]? = some (some (.c 0))) (h2 : setIx v (.c 0) (.d (.int i)) ⟨vs, cs⟩ = .ok .nx st2) : setIxS (varE 0) (cE (.int i)) fe ⟨vs, cs⟩ = .ok .nx st2 := by
  unfold setIxS
  rw [h1, bind_ok, e_var, hv, e_varK, bind_ok, e_c, bind_ok, h2]
theorem take_ok {n : Nat} {J : List D} (h : Jr (n + 1) J) {m : Int} (hm : 1 ≤ m) (hm2 : m < 1000000000000) :
    ∃ (r : Int) (J' : List D), d__law_take [.o J, .d (.int m)] = .ok (.d (.int r)) [.own J'] ∧ 0 ≤ r ∧ r < m ∧ Jr n J' := by
  obtain ⟨a, b, c, rfl, hb, hb2, hc, hc2⟩ := h
  have m0 : m ≠ 0 := by omega
  have ml : m.natAbs.log2 < 9000 := Nat.lt_trans (log_lt (n := 40) (by omega) (by decide)) (by decide)
  rw [d__law_take, e_run2, s_od]
  simp only [List.replicate, Nat.reduceSub]
  unfold m__law_take
  by_cases ha : 0 < a
  · have e0 : decide (0 < a) = true := decide_eq_true ha
    have i0 : ifS (bin2 gtV (bin2 ixV (varE 0) (cE (.int 0))) (cE (.int 0))) (seqS (setS 2 (bin2 modV (callE toIntV [(bin2 ixV (varE 0) (cE (.int 0)))]) (varE 1)))
  (seqS (setIxS (varE 0) (cE (.int 0)) (bin2 divV (bin2 ixV (varE 0) (cE (.int 0))) (varE 1)))
  (retS (varE 2)))) nextS ⟨[some (.c 0), some (.d (.int m)), none], [.own [.int a, .int b, .int c]]⟩ = .ok (.ret (.d (.int (a.fmod m)))) ⟨[some (.c 0), some (.d (.int m)), some (.d (.int (a.fmod m)))], [.own [.int (a.fdiv m), .int b, .int c]]⟩ := by
      rw [if_t (st1 := ⟨[some (.c 0), some (.d (.int m)), none], [.own [.int a, .int b, .int c]]⟩) (by simp only [e_par, e_parK, e_asg, toD_d, e_nameT, e_consT, e_nilT, Option.bind_some, n_nx, n_ct, n_bk, n_ret, e_for, e_itE, e_itA, e_meth, ty_s, e_run1, e_run2, e_run3, e_run4, s_d1, s_d2, s_od, s_oo, s_o1, s_odd, s_t1, s_td, ic_d, ic_o, ic_t, ic_nil, e_argD, e_argDD, List.replicate, Nat.reduceSub, List.length_cons, List.length_nil, bind_ok, bind_exc, bind_bad, e_seq, th_nx, th_ret, th_exc, th_bk, th_ct, e_set, e_setK, e_ret, e_retK, e_drop, e_dropK, e_retN, e_next, e_brk, e_cnt, e_if, e_ifE, e_and, e_or, e_not, onB_t, onB_f, onB_b, e_var, e_varK, e_c, e_bin, e_un, e_call, e_nil, e_cons, e_tup, e_tupK, e_lst, e_lstK, e_newLst, toDs_nil, toDs_d, Option.map_some, e_callV, e_callVT, ar_nil, ar_cons, ar_d, ar_t, e_argKT, af_d, af_new, af_exc, up_nil, up_cons, end_ret, end_exc, end_nx, out_d, v_add, v_sub, v_neg, v_lt, v_le, v_gt, v_ge, v_eqI, v_neI, v_gcd, v_abs, v_max, v_int, v_lenT, v_lenL, List.getElem?_cons_zero, List.getElem?_cons_succ, List.set_cons_zero, List.set_cons_succ, List.take_zero, List.take_nil, Bool.false_eq_true, if_false, if_true, eq_self, decide_true, decide_false, Bool.not_true, Bool.not_false, Nat.reduceAdd, Nat.reduceLeDiff, Nat.reduceLT, List.nil_append, List.cons_append, jc0, e0])]
      rw [seq_nx (st1 := ⟨[some (.c 0), some (.d (.int m)), some (.d (.int (a.fmod m)))], [.own [.int a, .int b, .int c]]⟩) (by simp only [e_par, e_parK, e_asg, toD_d, e_nameT, e_consT, e_nilT, Option.bind_some, n_nx, n_ct, n_bk, n_ret, e_for, e_itE, e_itA, e_meth, ty_s, e_run1, e_run2, e_run3, e_run4, s_d1, s_d2, s_od, s_oo, s_o1, s_odd, s_t1, s_td, ic_d, ic_o, ic_t, ic_nil, e_argD, e_argDD, List.replicate, Nat.reduceSub, List.length_cons, List.length_nil, bind_ok, bind_exc, bind_bad, e_seq, th_nx, th_ret, th_exc, th_bk, th_ct, e_set, e_setK, e_ret, e_retK, e_drop, e_dropK, e_retN, e_next, e_brk, e_cnt, e_if, e_ifE, e_and, e_or, e_not, onB_t, onB_f, onB_b, e_var, e_varK, e_c, e_bin, e_un, e_call, e_nil, e_cons, e_tup, e_tupK, e_lst, e_lstK, e_newLst, toDs_nil, toDs_d, Option.map_some, e_callV, e_callVT, ar_nil, ar_cons, ar_d, ar_t, e_argKT, af_d, af_new, af_exc, up_nil, up_cons, end_ret, end_exc, end_nx, out_d, v_add, v_sub, v_neg, v_lt, v_le, v_gt, v_ge, v_eqI, v_neI, v_gcd, v_abs, v_max, v_int, v_lenT, v_lenL, List.getElem?_cons_zero, List.getElem?_cons_succ, List.set_cons_zero, List.set_cons_succ, List.take_zero, List.take_nil, Bool.false_eq_true, if_false, if_true, eq_self, decide_true, decide_false, Bool.not_true, Bool.not_false, Nat.reduceAdd, Nat.reduceLeDiff, Nat.reduceLT, List.nil_append, List.cons_append, jc0]; rw [Sh.v_mod m0]; simp only [e_par, e_parK, e_asg, toD_d, e_nameT, e_consT, e_nilT, Option.bind_some, n_nx, n_ct, n_bk, n_ret, e_for, e_itE, e_itA, e_meth, ty_s, e_run1, e_run2, e_run3, e_run4, s_d1, s_d2, s_od, s_oo, s_o1, s_odd, s_t1, s_td, ic_d, ic_o, ic_t, ic_nil, e_argD, e_argDD, List.replicate, Nat.reduceSub, List.length_cons, List.length_nil, bind_ok, bind_exc, bind_bad, e_seq, th_nx, th_ret, th_exc, th_bk, th_ct, e_set, e_setK, e_ret, e_retK, e_drop, e_dropK, e_retN, e_next, e_brk, e_cnt, e_if, e_ifE, e_and, e_or, e_not, onB_t, onB_f, onB_b, e_var, e_varK, e_c, e_bin, e_un, e_call, e_nil, e_cons, e_tup, e_tupK, e_lst, e_lstK, e_newLst, toDs_nil, toDs_d, Option.map_some, e_callV, e_callVT, ar_nil, ar_cons, ar_d, ar_t, e_argKT, af_d, af_new, af_exc, up_nil, up_cons, end_ret, end_exc, end_nx, out_d, v_add, v_sub, v_neg, v_lt, v_le, v_gt, v_ge, v_eqI, v_neI, v_gcd, v_abs, v_max, v_int, v_lenT, v_lenL, List.getElem?_cons_zero, List.getElem?_cons_succ, List.set_cons_zero, List.set_cons_succ, List.take_zero, List.take_nil, Bool.false_eq_true, if_false, if_true, eq_self, decide_true, decide_false, Bool.not_true, Bool.not_false, Nat.reduceAdd, Nat.reduceLeDiff, Nat.reduceLT, List.nil_append, List.cons_append])]
      rw [seq_nx (setJ (i := 0) (v := .d (.int (a.fdiv m))) (by simp only [e_par, e_parK, e_asg, toD_d, e_nameT, e_consT, e_nilT, Option.bind_some, n_nx, n_ct, n_bk, n_ret, e_for, e_itE, e_itA, e_meth, ty_s, e_run1, e_run2, e_run3, e_run4, s_d1, s_d2, s_od, s_oo, s_o1, s_odd, s_t1, s_td, ic_d, ic_o, ic_t, ic_nil, e_argD, e_argDD, List.replicate, Nat.reduceSub, List.length_cons, List.length_nil, bind_ok, bind_exc, bind_bad, e_seq, th_nx, th_ret, th_exc, th_bk, th_ct, e_set, e_setK, e_ret, e_retK, e_drop, e_dropK, e_retN, e_next, e_brk, e_cnt, e_if, e_ifE, e_and, e_or, e_not, onB_t, onB_f, onB_b, e_var, e_varK, e_c, e_bin, e_un, e_call, e_nil, e_cons, e_tup, e_tupK, e_lst, e_lstK, e_newLst, toDs_nil, toDs_d, Option.map_some, e_callV, e_callVT, ar_nil, ar_cons, ar_d, ar_t, e_argKT, af_d, af_new, af_exc, up_nil, up_cons, end_ret, end_exc, end_nx, out_d, v_add, v_sub, v_neg, v_lt, v_le, v_gt, v_ge, v_eqI, v_neI, v_gcd, v_abs, v_max, v_int, v_lenT, v_lenL, List.getElem?_cons_zero, List.getElem?_cons_succ, List.set_cons_zero, List.set_cons_succ, List.take_zero, List.take_nil, Bool.false_eq_true, if_false, if_true, eq_self, decide_true, decide_false, Bool.not_true, Bool.not_false, Nat.reduceAdd, Nat.reduceLeDiff, Nat.reduceLT, List.nil_append, List.cons_append, jc0]; rw [Sh.v_div m0 ml]) rfl js0)]
      rfl
    refine ⟨a.fmod m, [.int (a.fdiv m), .int b, .int c], ?_, fmod_ge (by omega), fmod_lt (by omega), _, b, c, rfl, hb, hb2, hc, by omega⟩
    rw [e_seq, i0, th_ret]; rfl
  · have e0 : decide (0 < a) = false := decide_eq_false ha
    have i0 : ifS (bin2 gtV (bin2 ixV (varE 0) (cE (.int 0))) (cE (.int 0))) (seqS (setS 2 (bin2 modV (callE toIntV [(bin2 ixV (varE 0) (cE (.int 0)))]) (varE 1)))
  (seqS (setIxS (varE 0) (cE (.int 0)) (bin2 divV (bin2 ixV (varE 0) (cE (.int 0))) (varE 1)))
  (retS (varE 2)))) nextS ⟨[some (.c 0), some (.d (.int m)), none], [.own [.int a, .int b, .int c]]⟩ = .ok .nx ⟨[some (.c 0), some (.d (.int m)), none], [.own [.int a, .int b, .int c]]⟩ := by
      rw [if_f (st1 := ⟨[some (.c 0), some (.d (.int m)), none], [.own [.int a, .int b, .int c]]⟩) (by simp only [e_par, e_parK, e_asg, toD_d, e_nameT, e_consT, e_nilT, Option.bind_some, n_nx, n_ct, n_bk, n_ret, e_for, e_itE, e_itA, e_meth, ty_s, e_run1, e_run2, e_run3, e_run4, s_d1, s_d2, s_od, s_oo, s_o1, s_odd, s_t1, s_td, ic_d, ic_o, ic_t, ic_nil, e_argD, e_argDD, List.replicate, Nat.reduceSub, List.length_cons, List.length_nil, bind_ok, bind_exc, bind_bad, e_seq, th_nx, th_ret, th_exc, th_bk, th_ct, e_set, e_setK, e_ret, e_retK, e_drop, e_dropK, e_retN, e_next, e_brk, e_cnt, e_if, e_ifE, e_and, e_or, e_not, onB_t, onB_f, onB_b, e_var, e_varK, e_c, e_bin, e_un, e_call, e_nil, e_cons, e_tup, e_tupK, e_lst, e_lstK, e_newLst, toDs_nil, toDs_d, Option.map_some, e_callV, e_callVT, ar_nil, ar_cons, ar_d, ar_t, e_argKT, af_d, af_new, af_exc, up_nil, up_cons, end_ret, end_exc, end_nx, out_d, v_add, v_sub, v_neg, v_lt, v_le, v_gt, v_ge, v_eqI, v_neI, v_gcd, v_abs, v_max, v_int, v_lenT, v_lenL, List.getElem?_cons_zero, List.getElem?_cons_succ, List.set_cons_zero, List.set_cons_succ, List.take_zero, List.take_nil, Bool.false_eq_true, if_false, if_true, eq_self, decide_true, decide_false, Bool.not_true, Bool.not_false, Nat.reduceAdd, Nat.reduceLeDiff, Nat.reduceLT, List.nil_append, List.cons_append, jc0, e0])]
      rfl
    rw [seq_nx i0]
    rw [seq_nx (setJ (i := 2) (v := .d (.int (c + 1))) (by simp only [e_par, e_parK, e_asg, toD_d, e_nameT, e_consT, e_nilT, Option.bind_some, n_nx, n_ct, n_bk, n_ret, e_for, e_itE, e_itA, e_meth, ty_s, e_run1, e_run2, e_run3, e_run4, s_d1, s_d2, s_od, s_oo, s_o1, s_odd, s_t1, s_td, ic_d, ic_o, ic_t, ic_nil, e_argD, e_argDD, List.replicate, Nat.reduceSub, List.length_cons, List.length_nil, bind_ok, bind_exc, bind_bad, e_seq, th_nx, th_ret, th_exc, th_bk, th_ct, e_set, e_setK, e_ret, e_retK, e_drop, e_dropK, e_retN, e_next, e_brk, e_cnt, e_if, e_ifE, e_and, e_or, e_not, onB_t, onB_f, onB_b, e_var, e_varK, e_c, e_bin, e_un, e_call, e_nil, e_cons, e_tup, e_tupK, e_lst, e_lstK, e_newLst, toDs_nil, toDs_d, Option.map_some, e_callV, e_callVT, ar_nil, ar_cons, ar_d, ar_t, e_argKT, af_d, af_new, af_exc, up_nil, up_cons, end_ret, end_exc, end_nx, out_d, v_add, v_sub, v_neg, v_lt, v_le, v_gt, v_ge, v_eqI, v_neI, v_gcd, v_abs, v_max, v_int, v_lenT, v_lenL, List.getElem?_cons_zero, List.getElem?_cons_succ, List.set_cons_zero, List.set_cons_succ, List.take_zero, List.take_nil, Bool.false_eq_true, if_false, if_true, eq_self, decide_true, decide_false, Bool.not_true, Bool.not_false, Nat.reduceAdd, Nat.reduceLeDiff, Nat.reduceLT, List.nil_append, List.cons_append, jc2]) rfl js2)]
    have l1 : b.natAbs.log2 + (39373 : Int).natAbs.log2 < 1000000 := by
      have := log_lt (a := b) (n := 31) (by omega) (by decide)
      have := log_lt (a := 39373) (n := 31) (by decide) (by decide)
      omega
    have l2 : (7919 : Int).natAbs.log2 + (c + 1).natAbs.log2 < 1000000 := by
      have := log_lt (a := c + 1) (n := 50) (by omega) (by decide)
      have := log_lt (a := 7919) (n := 31) (by decide) (by decide)
      omega
    generalize hB : (b * 39373 + 7919 * (c + 1) + 7).fmod 2147483647 = B
    have B0 : 0 ≤ B := by rw [← hB]; exact fmod_ge (by decide)
    have B1 : B < 2147483647 := by rw [← hB]; exact fmod_lt (by decide)
    rw [seq_nx (setJ (i := 1) (v := .d (.int B)) (by
      simp only [e_par, e_parK, e_asg, toD_d, e_nameT, e_consT, e_nilT, Option.bind_some, n_nx, n_ct, n_bk, n_ret, e_for, e_itE, e_itA, e_meth, ty_s, e_run1, e_run2, e_run3, e_run4, s_d1, s_d2, s_od, s_oo, s_o1, s_odd, s_t1, s_td, ic_d, ic_o, ic_t, ic_nil, e_argD, e_argDD, List.replicate, Nat.reduceSub, List.length_cons, List.length_nil, bind_ok, bind_exc, bind_bad, e_seq, th_nx, th_ret, th_exc, th_bk, th_ct, e_set, e_setK, e_ret, e_retK, e_drop, e_dropK, e_retN, e_next, e_brk, e_cnt, e_if, e_ifE, e_and, e_or, e_not, onB_t, onB_f, onB_b, e_var, e_varK, e_c, e_bin, e_un, e_call, e_nil, e_cons, e_tup, e_tupK, e_lst, e_lstK, e_newLst, toDs_nil, toDs_d, Option.map_some, e_callV, e_callVT, ar_nil, ar_cons, ar_d, ar_t, e_argKT, af_d, af_new, af_exc, up_nil, up_cons, end_ret, end_exc, end_nx, out_d, v_add, v_sub, v_neg, v_lt, v_le, v_gt, v_ge, v_eqI, v_neI, v_gcd, v_abs, v_max, v_int, v_lenT, v_lenL, List.getElem?_cons_zero, List.getElem?_cons_succ, List.set_cons_zero, List.set_cons_succ, List.take_zero, List.take_nil, Bool.false_eq_true, if_false, if_true, eq_self, decide_true, decide_false, Bool.not_true, Bool.not_false, Nat.reduceAdd, Nat.reduceLeDiff, Nat.reduceLT, List.nil_append, List.cons_append, jc1, jc2]
      rw [Sh.v_mul l1]; simp only [e_par, e_parK, e_asg, toD_d, e_nameT, e_consT, e_nilT, Option.bind_some, n_nx, n_ct, n_bk, n_ret, e_for, e_itE, e_itA, e_meth, ty_s, e_run1, e_run2, e_run3, e_run4, s_d1, s_d2, s_od, s_oo, s_o1, s_odd, s_t1, s_td, ic_d, ic_o, ic_t, ic_nil, e_argD, e_argDD, List.replicate, Nat.reduceSub, List.length_cons, List.length_nil, bind_ok, bind_exc, bind_bad, e_seq, th_nx, th_ret, th_exc, th_bk, th_ct, e_set, e_setK, e_ret, e_retK, e_drop, e_dropK, e_retN, e_next, e_brk, e_cnt, e_if, e_ifE, e_and, e_or, e_not, onB_t, onB_f, onB_b, e_var, e_varK, e_c, e_bin, e_un, e_call, e_nil, e_cons, e_tup, e_tupK, e_lst, e_lstK, e_newLst, toDs_nil, toDs_d, Option.map_some, e_callV, e_callVT, ar_nil, ar_cons, ar_d, ar_t, e_argKT, af_d, af_new, af_exc, up_nil, up_cons, end_ret, end_exc, end_nx, out_d, v_add, v_sub, v_neg, v_lt, v_le, v_gt, v_ge, v_eqI, v_neI, v_gcd, v_abs, v_max, v_int, v_lenT, v_lenL, List.getElem?_cons_zero, List.getElem?_cons_succ, List.set_cons_zero, List.set_cons_succ, List.take_zero, List.take_nil, Bool.false_eq_true, if_false, if_true, eq_self, decide_true, decide_false, Bool.not_true, Bool.not_false, Nat.reduceAdd, Nat.reduceLeDiff, Nat.reduceLT, List.nil_append, List.cons_append, jc2]
      rw [Sh.v_mul l2]; simp only [e_par, e_parK, e_asg, toD_d, e_nameT, e_consT, e_nilT, Option.bind_some, n_nx, n_ct, n_bk, n_ret, e_for, e_itE, e_itA, e_meth, ty_s, e_run1, e_run2, e_run3, e_run4, s_d1, s_d2, s_od, s_oo, s_o1, s_odd, s_t1, s_td, ic_d, ic_o, ic_t, ic_nil, e_argD, e_argDD, List.replicate, Nat.reduceSub, List.length_cons, List.length_nil, bind_ok, bind_exc, bind_bad, e_seq, th_nx, th_ret, th_exc, th_bk, th_ct, e_set, e_setK, e_ret, e_retK, e_drop, e_dropK, e_retN, e_next, e_brk, e_cnt, e_if, e_ifE, e_and, e_or, e_not, onB_t, onB_f, onB_b, e_var, e_varK, e_c, e_bin, e_un, e_call, e_nil, e_cons, e_tup, e_tupK, e_lst, e_lstK, e_newLst, toDs_nil, toDs_d, Option.map_some, e_callV, e_callVT, ar_nil, ar_cons, ar_d, ar_t, e_argKT, af_d, af_new, af_exc, up_nil, up_cons, end_ret, end_exc, end_nx, out_d, v_add, v_sub, v_neg, v_lt, v_le, v_gt, v_ge, v_eqI, v_neI, v_gcd, v_abs, v_max, v_int, v_lenT, v_lenL, List.getElem?_cons_zero, List.getElem?_cons_succ, List.set_cons_zero, List.set_cons_succ, List.take_zero, List.take_nil, Bool.false_eq_true, if_false, if_true, eq_self, decide_true, decide_false, Bool.not_true, Bool.not_false, Nat.reduceAdd, Nat.reduceLeDiff, Nat.reduceLT, List.nil_append, List.cons_append]
      rw [Sh.v_mod (by decide), hB]) rfl js1)]
    have l3 : B.natAbs.log2 + B.natAbs.log2 < 1000000 := by
      have := log_lt (a := B) (n := 31) (by omega) (by decide)
      omega
    refine ⟨(((B * B).fmod 2147483629).fdiv 32).fmod m, [.int a, .int B, .int (c + 1)], ?_, fmod_ge (by omega), fmod_lt (by omega), a, B, c + 1, rfl, B0, B1, by omega, by omega⟩
    have i1 : bin2 modV (callE toIntV [(bin2 divV (bin2 modV (callE toIntV [(bin2 mulV (bin2 ixV (varE 0) (cE (.int 1))) (bin2 ixV (varE 0) (cE (.int 1))))]) (cE (.int 2147483629))) (cE (.int 32)))]) (varE 1) ⟨[some (.c 0), some (.d (.int m)), none], [.own [.int a, .int B, .int (c + 1)]]⟩ =
        .ok (.d (.int ((((B * B).fmod 2147483629).fdiv 32).fmod m))) ⟨[some (.c 0), some (.d (.int m)), none], [.own [.int a, .int B, .int (c + 1)]]⟩ := by
      simp only [e_par, e_parK, e_asg, toD_d, e_nameT, e_consT, e_nilT, Option.bind_some, n_nx, n_ct, n_bk, n_ret, e_for, e_itE, e_itA, e_meth, ty_s, e_run1, e_run2, e_run3, e_run4, s_d1, s_d2, s_od, s_oo, s_o1, s_odd, s_t1, s_td, ic_d, ic_o, ic_t, ic_nil, e_argD, e_argDD, List.replicate, Nat.reduceSub, List.length_cons, List.length_nil, bind_ok, bind_exc, bind_bad, e_seq, th_nx, th_ret, th_exc, th_bk, th_ct, e_set, e_setK, e_ret, e_retK, e_drop, e_dropK, e_retN, e_next, e_brk, e_cnt, e_if, e_ifE, e_and, e_or, e_not, onB_t, onB_f, onB_b, e_var, e_varK, e_c, e_bin, e_un, e_call, e_nil, e_cons, e_tup, e_tupK, e_lst, e_lstK, e_newLst, toDs_nil, toDs_d, Option.map_some, e_callV, e_callVT, ar_nil, ar_cons, ar_d, ar_t, e_argKT, af_d, af_new, af_exc, up_nil, up_cons, end_ret, end_exc, end_nx, out_d, v_add, v_sub, v_neg, v_lt, v_le, v_gt, v_ge, v_eqI, v_neI, v_gcd, v_abs, v_max, v_int, v_lenT, v_lenL, List.getElem?_cons_zero, List.getElem?_cons_succ, List.set_cons_zero, List.set_cons_succ, List.take_zero, List.take_nil, Bool.false_eq_true, if_false, if_true, eq_self, decide_true, decide_false, Bool.not_true, Bool.not_false, Nat.reduceAdd, Nat.reduceLeDiff, Nat.reduceLT, List.nil_append, List.cons_append, jc1]
      rw [Sh.v_mul l3]; simp only [e_par, e_parK, e_asg, toD_d, e_nameT, e_consT, e_nilT, Option.bind_some, n_nx, n_ct, n_bk, n_ret, e_for, e_itE, e_itA, e_meth, ty_s, e_run1, e_run2, e_run3, e_run4, s_d1, s_d2, s_od, s_oo, s_o1, s_odd, s_t1, s_td, ic_d, ic_o, ic_t, ic_nil, e_argD, e_argDD, List.replicate, Nat.reduceSub, List.length_cons, List.length_nil, bind_ok, bind_exc, bind_bad, e_seq, th_nx, th_ret, th_exc, th_bk, th_ct, e_set, e_setK, e_ret, e_retK, e_drop, e_dropK, e_retN, e_next, e_brk, e_cnt, e_if, e_ifE, e_and, e_or, e_not, onB_t, onB_f, onB_b, e_var, e_varK, e_c, e_bin, e_un, e_call, e_nil, e_cons, e_tup, e_tupK, e_lst, e_lstK, e_newLst, toDs_nil, toDs_d, Option.map_some, e_callV, e_callVT, ar_nil, ar_cons, ar_d, ar_t, e_argKT, af_d, af_new, af_exc, up_nil, up_cons, end_ret, end_exc, end_nx, out_d, v_add, v_sub, v_neg, v_lt, v_le, v_gt, v_ge, v_eqI, v_neI, v_gcd, v_abs, v_max, v_int, v_lenT, v_lenL, List.getElem?_cons_zero, List.getElem?_cons_succ, List.set_cons_zero, List.set_cons_succ, List.take_zero, List.take_nil, Bool.false_eq_true, if_false, if_true, eq_self, decide_true, decide_false, Bool.not_true, Bool.not_false, Nat.reduceAdd, Nat.reduceLeDiff, Nat.reduceLT, List.nil_append, List.cons_append]
      rw [Sh.v_mod (by decide)]; simp only [e_par, e_parK, e_asg, toD_d, e_nameT, e_consT, e_nilT, Option.bind_some, n_nx, n_ct, n_bk, n_ret, e_for, e_itE, e_itA, e_meth, ty_s, e_run1, e_run2, e_run3, e_run4, s_d1, s_d2, s_od, s_oo, s_o1, s_odd, s_t1, s_td, ic_d, ic_o, ic_t, ic_nil, e_argD, e_argDD, List.replicate, Nat.reduceSub, List.length_cons, List.length_nil, bind_ok, bind_exc, bind_bad, e_seq, th_nx, th_ret, th_exc, th_bk, th_ct, e_set, e_setK, e_ret, e_retK, e_drop, e_dropK, e_retN, e_next, e_brk, e_cnt, e_if, e_ifE, e_and, e_or, e_not, onB_t, onB_f, onB_b, e_var, e_varK, e_c, e_bin, e_un, e_call, e_nil, e_cons, e_tup, e_tupK, e_lst, e_lstK, e_newLst, toDs_nil, toDs_d, Option.map_some, e_callV, e_callVT, ar_nil, ar_cons, ar_d, ar_t, e_argKT, af_d, af_new, af_exc, up_nil, up_cons, end_ret, end_exc, end_nx, out_d, v_add, v_sub, v_neg, v_lt, v_le, v_gt, v_ge, v_eqI, v_neI, v_gcd, v_abs, v_max, v_int, v_lenT, v_lenL, List.getElem?_cons_zero, List.getElem?_cons_succ, List.set_cons_zero, List.set_cons_succ, List.take_zero, List.take_nil, Bool.false_eq_true, if_false, if_true, eq_self, decide_true, decide_false, Bool.not_true, Bool.not_false, Nat.reduceAdd, Nat.reduceLeDiff, Nat.reduceLT, List.nil_append, List.cons_append]
      rw [Sh.v_div (by decide) (by decide)]; simp only [e_par, e_parK, e_asg, toD_d, e_nameT, e_consT, e_nilT, Option.bind_some, n_nx, n_ct, n_bk, n_ret, e_for, e_itE, e_itA, e_meth, ty_s, e_run1, e_run2, e_run3, e_run4, s_d1, s_d2, s_od, s_oo, s_o1, s_odd, s_t1, s_td, ic_d, ic_o, ic_t, ic_nil, e_argD, e_argDD, List.replicate, Nat.reduceSub, List.length_cons, List.length_nil, bind_ok, bind_exc, bind_bad, e_seq, th_nx, th_ret, th_exc, th_bk, th_ct, e_set, e_setK, e_ret, e_retK, e_drop, e_dropK, e_retN, e_next, e_brk, e_cnt, e_if, e_ifE, e_and, e_or, e_not, onB_t, onB_f, onB_b, e_var, e_varK, e_c, e_bin, e_un, e_call, e_nil, e_cons, e_tup, e_tupK, e_lst, e_lstK, e_newLst, toDs_nil, toDs_d, Option.map_some, e_callV, e_callVT, ar_nil, ar_cons, ar_d, ar_t, e_argKT, af_d, af_new, af_exc, up_nil, up_cons, end_ret, end_exc, end_nx, out_d, v_add, v_sub, v_neg, v_lt, v_le, v_gt, v_ge, v_eqI, v_neI, v_gcd, v_abs, v_max, v_int, v_lenT, v_lenL, List.getElem?_cons_zero, List.getElem?_cons_succ, List.set_cons_zero, List.set_cons_succ, List.take_zero, List.take_nil, Bool.false_eq_true, if_false, if_true, eq_self, decide_true, decide_false, Bool.not_true, Bool.not_false, Nat.reduceAdd, Nat.reduceLeDiff, Nat.reduceLT, List.nil_append, List.cons_append]
      rw [Sh.v_mod m0]
    rw [e_ret, i1, bind_ok]
    rfl
theorem take_c {n i j : Nat} {J : List D} {m : Int} {fm : S → OE} {vs : List (Option Val)} {cs cs2 : List Cell} (hv : vs[i]? = some (some (.c j))) (hm0 : fm ⟨vs, cs⟩ = .ok (.d (.int m)) ⟨vs, cs2⟩) (hc : cs2[j]? = some (.own J)) (h : Jr (n + 1) J) (hm : 1 ≤ m) (hm2 : m < 1000000000000) :
    ∃ (r : Int) (J' : List D), callE (callV d__law_take) [varE i, fm] ⟨vs, cs⟩ = .ok (.d (.int r)) ⟨vs, cs2.set j (.own J')⟩ ∧ 0 ≤ r ∧ r < m ∧ Jr n J' := by
  obtain ⟨r, J', h1, h2, h3, h4⟩ := take_ok h hm hm2
  refine ⟨r, J', ?_, h2, h3, h4⟩
  have c2 : consA (.c j) ⟨vs, cs2⟩ (some ([.d (.int m)], [])) = some ([.o J, .d (.int m)], [j]) := by
    unfold consA; simp only [hc]; rfl
  rw [e_call, e_cons, e_var, hv, e_varK, bind_ok, e_cons, hm0, bind_ok, e_nil, bind_ok, bind_ok, bind_ok, e_callV, ar_cons, ar_cons, ar_nil, ar_d, c2, e_argK rfl, h1, af_d, up_cons, up_nil]
theorem one_ok {n : Nat} {J L : List D} (h : Jr (n + 1) J) (hL : 1 ≤ L.length) (hL2 : L.length ≤ 1000000) :
    ∃ (y : D) (J' : List D), d__law_one [.o J, .o L] = .ok (.d y) [.own J', .own L] ∧ y ∈ L ∧ Jr n J' := by
  have ln : callE lenV [varE 1] ⟨[some (.c 0), some (.c 1)], [.own J, .own L]⟩ = .ok (.d (.int L.length)) ⟨[some (.c 0), some (.c 1)], [.own J, .own L]⟩ := rfl
  obtain ⟨r, J', h1, h2, h3, h4⟩ := take_c (i := 0) (j := 0) (vs := [some (.c 0), some (.c 1)]) (cs := [.own J, .own L]) rfl ln rfl h (by omega) (by omega)
  obtain ⟨t, rfl⟩ := Int.eq_ofNat_of_zero_le h2
  have hr2 : t < L.length := by omega
  refine ⟨L[t], J', ?_, List.getElem_mem hr2, h4⟩
  rw [d__law_one, e_run2, s_oo]
  unfold m__law_one
  have i1 : bin2 ixV (varE 1) (callE (callV d__law_take) [(varE 0), (callE lenV [(varE 1)])]) ⟨[some (.c 0), some (.c 1)], [.own J, .own L]⟩ = .ok (.d L[t]) ⟨[some (.c 0), some (.c 1)], [.own J', .own L]⟩ := by
    rw [e_bin, e_var]
    simp only [List.getElem?_cons_succ, List.getElem?_cons_zero, e_varK, bind_ok]
    rw [h1, bind_ok]
    exact Sh.v_ixC (cl := .own L) rfl (atI_nat hr2)
  rw [e_ret]
  show endD _ ((bin2 ixV (varE 1) (callE (callV d__law_take) [(varE 0), (callE lenV [(varE 1)])]) ⟨[some (.c 0), some (.c 1)], [.own J, .own L]⟩).bind retK) = _
  rw [i1, bind_ok]
  rfl
theorem one_c {n i j k : Nat} {J L : List D} {fL : S → OE} {vs : List (Option Val)} {cs cs2 : List Cell} (hv : vs[i]? = some (some (.c j))) (hf : fL ⟨vs, cs⟩ = .ok (.c k) ⟨vs, cs2⟩) (hj : cs2[j]? = some (.own J)) (hk : cs2[k]? = some (.own L)) (jk : j ≠ k)
    (h : Jr (n + 1) J) (hL : 1 ≤ L.length) (hL2 : L.length ≤ 1000000) :
    ∃ (y : D) (J' : List D), callE (callV d__law_one) [varE i, fL] ⟨vs, cs⟩ = .ok (.d y) ⟨vs, (cs2.set j (.own J')).set k (.own L)⟩ ∧ y ∈ L ∧ Jr n J' := by
  obtain ⟨y, J', h1, h2, h3⟩ := one_ok h hL hL2
  refine ⟨y, J', ?_, h2, h3⟩
  have c1 : consA (.c k) ⟨vs, cs2⟩ (some ([], [])) = some ([.o L], [k]) := by
    unfold consA; simp only [hk]; rfl
  have c2 : consA (.c j) ⟨vs, cs2⟩ (some ([.o L], [k])) = some ([.o J, .o L], [j, k]) := by
    have : ¬ j ∈ [k] := by simpa using jk
    unfold consA; simp only [hj, this]; rfl
  rw [e_call, e_cons, e_var, hv, e_varK, bind_ok, e_cons, hf, bind_ok, e_nil, bind_ok, bind_ok, bind_ok, e_callV, ar_cons, ar_cons, ar_nil, c1, c2, e_argK rfl, h1, af_d, up_cons, up_cons, up_nil]
end Law
end
section
set_option Elab.async false
set_option linter.all false
set_option maxRecDepth 100000
set_option maxHeartbeats 4000000
set_option exponentiation.threshold 5000
namespace Law
open PySem Sh
theorem call_j {d : List Ar → RD} {i j : Nat} {y : D} {J J' : List D} {vs : List (Option Val)} {cs : List Cell} (hv : vs[i]? = some (some (.c j))) (hc : cs[j]? = some (.own J)) (h : d [.o J] = .ok (.d y) [.own J']) : callE (callV d) [varE i] ⟨vs, cs⟩ = .ok (.d y) ⟨vs, cs.set j (.own J')⟩ := by
  have c2 : consA (.c j) ⟨vs, cs⟩ (some ([], [])) = some ([.o J], [j]) := by
    unfold consA; simp only [hc]; rfl
  rw [e_call, e_cons, e_var, hv, e_varK, bind_ok, e_nil, bind_ok, bind_ok, e_callV, ar_cons, ar_nil, c2, e_argK rfl, h, af_d, up_cons, up_nil]
theorem call_jd {d : List Ar → RD} {i j : Nat} {x y : D} {J J' : List D} {f : S → OE} {vs : List (Option Val)} {cs cs2 : List Cell} (hv : vs[i]? = some (some (.c j))) (hf : f ⟨vs, cs⟩ = .ok (.d x) ⟨vs, cs2⟩) (hc : cs2[j]? = some (.own J)) (h : d [.o J, .d x] = .ok (.d y) [.own J']) : callE (callV d) [varE i, f] ⟨vs, cs⟩ = .ok (.d y) ⟨vs, cs2.set j (.own J')⟩ := by
  have c2 : consA (.c j) ⟨vs, cs2⟩ (some ([.d x], [])) = some ([.o J, .d x], [j]) := by
    unfold consA; simp only [hc]; rfl
  rw [e_call, e_cons, e_var, hv, e_varK, bind_ok, e_cons, hf, bind_ok, e_nil, bind_ok, bind_ok, bind_ok, e_callV, ar_cons, ar_cons, ar_nil, ar_d, c2, e_argK rfl, h, af_d, up_cons, up_nil]
theorem pw8 (st : S) : powV (.d (.int 10)) (.d (.int 8)) st = .ok (.d (.int 100000000)) st := rfl
theorem pw25 (st : S) : powV (.d (.int 10)) (.d (.int 25)) st = .ok (.d (.int 10000000000000000000000000)) st := rfl
theorem number_ok {n : Nat} {J : List D} (h : Jr (n + 3) J) : ∃ (z : Int) (J' : List D), d__law_wb_number [.o J] = .ok (.d (.int z)) [.own J'] ∧ z.natAbs < 2 ^ 30 ∧ Jr n J' := by
  rw [d__law_wb_number, e_run1, s_o1]
  unfold m__law_wb_number
  simp only [List.replicate, Nat.reduceSub]
  obtain ⟨r1, J1, h1, h2, h3, h4⟩ := take_c (n := n + 2) (i := 0) (j := 0) (m := 100000000) (fm := bin2 powV (cE (.int 10)) (cE (.int 8))) (vs := [some (.c 0), none]) (cs := [.own J]) (cs2 := [.own J]) rfl (by simp only [e_par, e_parK, e_asg, toD_d, e_nameT, e_consT, e_nilT, Option.bind_some, n_nx, n_ct, n_bk, n_ret, e_for, e_itE, e_itA, e_meth, ty_s, e_run1, e_run2, e_run3, e_run4, s_d1, s_d2, s_od, s_oo, s_o1, s_odd, s_t1, s_td, ic_d, ic_o, ic_t, ic_nil, e_argD, e_argDD, List.replicate, Nat.reduceSub, List.length_cons, List.length_nil, bind_ok, bind_exc, bind_bad, e_seq, th_nx, th_ret, th_exc, th_bk, th_ct, e_set, e_setK, e_ret, e_retK, e_drop, e_dropK, e_retN, e_next, e_brk, e_cnt, e_if, e_ifE, e_and, e_or, e_not, onB_t, onB_f, onB_b, e_var, e_varK, e_c, e_bin, e_un, e_call, e_nil, e_cons, e_tup, e_tupK, e_lst, e_lstK, e_newLst, toDs_nil, toDs_d, Option.map_some, e_callV, e_callVT, ar_nil, ar_cons, ar_d, ar_t, e_argKT, af_d, af_new, af_exc, up_nil, up_cons, end_ret, end_exc, end_nx, out_d, v_add, v_sub, v_neg, v_lt, v_le, v_gt, v_ge, v_eqI, v_neI, v_gcd, v_abs, v_max, v_int, v_lenT, v_lenL, List.getElem?_cons_zero, List.getElem?_cons_succ, List.set_cons_zero, List.set_cons_succ, List.take_zero, List.take_nil, Bool.false_eq_true, if_false, if_true, eq_self, decide_true, decide_false, Bool.not_true, Bool.not_false, Nat.reduceAdd, Nat.reduceLeDiff, Nat.reduceLT, List.nil_append, List.cons_append, pw8]) rfl h (by decide) (by decide)
  have i0 : setS 1 (bin2 addV (bin2 powV (cE (.int 10)) (cE (.int 8))) (callE (callV d__law_take) [(varE 0), (bin2 powV (cE (.int 10)) (cE (.int 8)))])) ⟨[some (.c 0), none], [.own J]⟩ = .ok .nx ⟨[some (.c 0), some (.d (.int (100000000 + r1)))], [.own J1]⟩ := by
    rw [e_set, e_bin]
    simp only [e_bin, e_c, bind_ok, pw8]
    rw [h1]
    rfl
  rw [seq_nx i0]
  generalize hz : 100000000 + r1 = z
  obtain ⟨r2, J2, k1, k2, k3, k4⟩ := take_c (n := n + 1) (i := 0) (j := 0) (m := 2001) (fm := cE (.int 2001)) (vs := [some (.c 0), some (.d (.int z))]) (cs := [.own J1]) (cs2 := [.own J1]) rfl (by simp only [e_par, e_parK, e_asg, toD_d, e_nameT, e_consT, e_nilT, Option.bind_some, n_nx, n_ct, n_bk, n_ret, e_for, e_itE, e_itA, e_meth, ty_s, e_run1, e_run2, e_run3, e_run4, s_d1, s_d2, s_od, s_oo, s_o1, s_odd, s_t1, s_td, ic_d, ic_o, ic_t, ic_nil, e_argD, e_argDD, List.replicate, Nat.reduceSub, List.length_cons, List.length_nil, bind_ok, bind_exc, bind_bad, e_seq, th_nx, th_ret, th_exc, th_bk, th_ct, e_set, e_setK, e_ret, e_retK, e_drop, e_dropK, e_retN, e_next, e_brk, e_cnt, e_if, e_ifE, e_and, e_or, e_not, onB_t, onB_f, onB_b, e_var, e_varK, e_c, e_bin, e_un, e_call, e_nil, e_cons, e_tup, e_tupK, e_lst, e_lstK, e_newLst, toDs_nil, toDs_d, Option.map_some, e_callV, e_callVT, ar_nil, ar_cons, ar_d, ar_t, e_argKT, af_d, af_new, af_exc, up_nil, up_cons, end_ret, end_exc, end_nx, out_d, v_add, v_sub, v_neg, v_lt, v_le, v_gt, v_ge, v_eqI, v_neI, v_gcd, v_abs, v_max, v_int, v_lenT, v_lenL, List.getElem?_cons_zero, List.getElem?_cons_succ, List.set_cons_zero, List.set_cons_succ, List.take_zero, List.take_nil, Bool.false_eq_true, if_false, if_true, eq_self, decide_true, decide_false, Bool.not_true, Bool.not_false, Nat.reduceAdd, Nat.reduceLeDiff, Nat.reduceLT, List.nil_append, List.cons_append]) rfl h4 (by decide) (by decide)
  have i1 : lstE [(cE (.int 0)), (cE (.int 0)), (cE (.int 1)), (cE (.int 1)), (un1 negV (cE (.int 1))), (cE (.int 2)), (un1 negV (cE (.int 3))), (cE (.int 5)), (bin2 subV (callE (callV d__law_take) [(varE 0), (cE (.int 2001))]) (cE (.int 1000))), (varE 1), (bin2 subV (cE (.int 0)) (varE 1))] ⟨[some (.c 0), some (.d (.int z))], [.own J1]⟩ =
      .ok (.c 1) ⟨[some (.c 0), some (.d (.int z))], [.own J2, .own [.int 0, .int 0, .int 1, .int 1, .int (-1), .int 2, .int (-3), .int 5, .int (r2 - 1000), .int z, .int (0 - z)]]⟩ := by
    have k1' : callE (callV d__law_take) [varE 0, cE (.int 2001)] ⟨[some (.c 0), some (.d (.int z))], [.own J1]⟩ = .ok (.d (.int r2)) ⟨[some (.c 0), some (.d (.int z))], [.own J2]⟩ := k1
    rw [e_lst]
    simp only [e_cons, e_c, bind_ok, e_un, v_neg, e_bin, k1', v_sub, e_var, List.getElem?_cons_succ, List.getElem?_cons_zero, e_varK, e_nil, toDs_d, toDs_nil, Option.map_some, e_lstK, e_newLst, List.cons_append, List.nil_append, List.length_cons, List.length_nil, Nat.reduceAdd]
  obtain ⟨y, J', m1, m2, m3⟩ := one_c (n := n) (i := 0) (j := 0) (k := 1) (vs := [some (.c 0), some (.d (.int z))]) rfl i1 rfl rfl (by decide) k4 (by simp) (by simp)
  have hy : ∃ w : Int, y = .int w ∧ w.natAbs < 2 ^ 30 := by
    simp only [List.mem_cons, List.not_mem_nil, or_false] at m2
    rcases m2 with rfl | rfl | rfl | rfl | rfl | rfl | rfl | rfl | rfl | rfl | rfl
    all_goals exact ⟨_, rfl, by omega⟩
  obtain ⟨w, rfl, hw⟩ := hy
  refine ⟨w, J', ?_, hw, m3⟩
  rw [e_ret, m1, bind_ok]
  rfl
theorem fraction_ok {n : Nat} {J : List D} (h : Jr (n + 5) J) : ∃ (p q : Int) (J' : List D), d__law_wb_fraction [.o J] = .ok (.d (fr p q)) [.own J'] ∧ Fq 30 p q ∧ Jr n J' := by
  rw [d__law_wb_fraction, e_run1, s_o1]
  unfold m__law_wb_fraction
  simp only [List.replicate, Nat.reduceSub]
  obtain ⟨r1, J1, h1, h2, h3, h4⟩ := take_c (n := n + 4) (i := 0) (j := 0) (m := 1000) (fm := cE (.int 1000)) (vs := [some (.c 0), none]) (cs := [.own J]) (cs2 := [.own J]) rfl (by simp only [e_par, e_parK, e_asg, toD_d, e_nameT, e_consT, e_nilT, Option.bind_some, n_nx, n_ct, n_bk, n_ret, e_for, e_itE, e_itA, e_meth, ty_s, e_run1, e_run2, e_run3, e_run4, s_d1, s_d2, s_od, s_oo, s_o1, s_odd, s_t1, s_td, ic_d, ic_o, ic_t, ic_nil, e_argD, e_argDD, List.replicate, Nat.reduceSub, List.length_cons, List.length_nil, bind_ok, bind_exc, bind_bad, e_seq, th_nx, th_ret, th_exc, th_bk, th_ct, e_set, e_setK, e_ret, e_retK, e_drop, e_dropK, e_retN, e_next, e_brk, e_cnt, e_if, e_ifE, e_and, e_or, e_not, onB_t, onB_f, onB_b, e_var, e_varK, e_c, e_bin, e_un, e_call, e_nil, e_cons, e_tup, e_tupK, e_lst, e_lstK, e_newLst, toDs_nil, toDs_d, Option.map_some, e_callV, e_callVT, ar_nil, ar_cons, ar_d, ar_t, e_argKT, af_d, af_new, af_exc, up_nil, up_cons, end_ret, end_exc, end_nx, out_d, v_add, v_sub, v_neg, v_lt, v_le, v_gt, v_ge, v_eqI, v_neI, v_gcd, v_abs, v_max, v_int, v_lenT, v_lenL, List.getElem?_cons_zero, List.getElem?_cons_succ, List.set_cons_zero, List.set_cons_succ, List.take_zero, List.take_nil, Bool.false_eq_true, if_false, if_true, eq_self, decide_true, decide_false, Bool.not_true, Bool.not_false, Nat.reduceAdd, Nat.reduceLeDiff, Nat.reduceLT, List.nil_append, List.cons_append]) rfl h (by decide) (by decide)
  have i1 : lstE [(cE (.int 1)), (cE (.int 1)), (cE (.int 1)), (cE (.int 2)), (cE (.int 3)), (cE (.int 4)), (cE (.int 7)), (bin2 addV (cE (.int 1)) (callE (callV d__law_take) [(varE 0), (cE (.int 1000))])), (bin2 addV (bin2 powV (cE (.int 10)) (cE (.int 8))) (cE (.int 7)))] ⟨[some (.c 0), none], [.own J]⟩ =
      .ok (.c 1) ⟨[some (.c 0), none], [.own J1, .own [.int 1, .int 1, .int 1, .int 2, .int 3, .int 4, .int 7, .int (1 + r1), .int (100000000 + 7)]]⟩ := by
    have k1' : callE (callV d__law_take) [varE 0, cE (.int 1000)] ⟨[some (.c 0), none], [.own J]⟩ = .ok (.d (.int r1)) ⟨[some (.c 0), none], [.own J1]⟩ := h1
    rw [e_lst]
    simp only [e_cons, e_c, bind_ok, e_un, v_neg, e_bin, k1', v_add, pw8, e_nil, toDs_d, toDs_nil, Option.map_some, e_lstK, e_newLst, List.cons_append, List.nil_append, List.length_cons, List.length_nil, Nat.reduceAdd]
  obtain ⟨y, J2, m1, m2, m3⟩ := one_c (n := n + 3) (i := 0) (j := 0) (k := 1) (vs := [some (.c 0), none]) rfl i1 rfl rfl (by decide) h4 (by simp) (by simp)
  have hy : ∃ w : Int, y = .int w ∧ 1 ≤ w ∧ w.natAbs < 2 ^ 30 := by
    simp only [List.mem_cons, List.not_mem_nil, or_false] at m2
    rcases m2 with rfl | rfl | rfl | rfl | rfl | rfl | rfl | rfl | rfl
    all_goals exact ⟨_, rfl, by omega, by omega⟩
  obtain ⟨w, rfl, hw1, hw⟩ := hy
  obtain ⟨z, J3, z1, z2, z3⟩ := number_ok m3
  have f := low_fq (B := 30) (p := z) (q := w) (by omega) z2 hw
  refine ⟨lowN z w, lowD z w, J3, ?_, f, z3⟩
  have b30 : ∀ {a : Int}, a.natAbs < 2 ^ 30 → Sm a := fun h => Nat.lt_of_lt_of_le h (Nat.pow_le_pow_right (by decide) (by decide))
  have lo := low_ok (p := z) (q := w) (by omega) (b30 z2) (b30 hw)
  have i2 : setS 1 (callE (callV d__law_one) [(varE 0), (lstE [(cE (.int 1)), (cE (.int 1)), (cE (.int 1)), (cE (.int 2)), (cE (.int 3)), (cE (.int 4)), (cE (.int 7)), (bin2 addV (cE (.int 1)) (callE (callV d__law_take) [(varE 0), (cE (.int 1000))])), (bin2 addV (bin2 powV (cE (.int 10)) (cE (.int 8))) (cE (.int 7)))])]) ⟨[some (.c 0), none], [.own J]⟩ = .ok .nx ⟨[some (.c 0), some (.d (.int w))], [.own J2, .own [.int 1, .int 1, .int 1, .int 2, .int 3, .int 4, .int 7, .int (1 + r1), .int (100000000 + 7)]]⟩ := by
    rw [e_set, m1]; rfl
  rw [seq_nx i2]
  have i3 := call_j (i := 0) (j := 0) (vs := [some (.c 0), some (.d (.int w))]) (cs := [.own J2, .own [.int 1, .int 1, .int 1, .int 2, .int 3, .int 4, .int 7, .int (1 + r1), .int (100000000 + 7)]]) rfl rfl z1
  rw [e_ret, e_call, e_cons, i3, bind_ok]
  simp only [e_par, e_parK, e_asg, toD_d, e_nameT, e_consT, e_nilT, Option.bind_some, n_nx, n_ct, n_bk, n_ret, e_for, e_itE, e_itA, e_meth, ty_s, e_run1, e_run2, e_run3, e_run4, s_d1, s_d2, s_od, s_oo, s_o1, s_odd, s_t1, s_td, ic_d, ic_o, ic_t, ic_nil, e_argD, e_argDD, List.replicate, Nat.reduceSub, List.length_cons, List.length_nil, bind_ok, bind_exc, bind_bad, e_seq, th_nx, th_ret, th_exc, th_bk, th_ct, e_set, e_setK, e_ret, e_retK, e_drop, e_dropK, e_retN, e_next, e_brk, e_cnt, e_if, e_ifE, e_and, e_or, e_not, onB_t, onB_f, onB_b, e_var, e_varK, e_c, e_bin, e_un, e_call, e_nil, e_cons, e_tup, e_tupK, e_lst, e_lstK, e_newLst, toDs_nil, toDs_d, Option.map_some, e_callV, e_callVT, ar_nil, ar_cons, ar_d, ar_t, e_argKT, af_d, af_new, af_exc, up_nil, up_cons, end_ret, end_exc, end_nx, out_d, v_add, v_sub, v_neg, v_lt, v_le, v_gt, v_ge, v_eqI, v_neI, v_gcd, v_abs, v_max, v_int, v_lenT, v_lenL, List.getElem?_cons_zero, List.getElem?_cons_succ, List.set_cons_zero, List.set_cons_succ, List.take_zero, List.take_nil, Bool.false_eq_true, if_false, if_true, eq_self, decide_true, decide_false, Bool.not_true, Bool.not_false, Nat.reduceAdd, Nat.reduceLeDiff, Nat.reduceLT, List.nil_append, List.cons_append, lo]
  rfl
theorem small_ok {n : Nat} {J : List D} (h : Jr (n + 2) J) : ∃ (p q : Int) (J' : List D), d__law_wb_small [.o J] = .ok (.d (fr p q)) [.own J'] ∧ Fq 30 p q ∧ Jr n J' := by
  rw [d__law_wb_small, e_run1, s_o1]
  unfold m__law_wb_small
  simp only [List.replicate, Nat.reduceSub]
  have i1 : lstE [(cE (.int 0)), (cE (.int 0)), (cE (.int 0)), (cE (.int 1)), (cE (.int 1)), (un1 negV (cE (.int 1))), (cE (.int 2)), (un1 negV (cE (.int 2))), (cE (.int 3)), (un1 negV (cE (.int 5)))] ⟨[some (.c 0)], [.own J]⟩ = .ok (.c 1) ⟨[some (.c 0)], [.own J, .own [.int 0, .int 0, .int 0, .int 1, .int 1, .int (-1), .int 2, .int (-2), .int 3, .int (-5)]]⟩ := rfl
  obtain ⟨y, J1, m1, m2, m3⟩ := one_c (n := n + 1) (i := 0) (j := 0) (k := 1) (vs := [some (.c 0)]) rfl i1 rfl rfl (by decide) h (by simp) (by simp)
  have hy : ∃ w : Int, y = .int w ∧ w.natAbs < 2 ^ 30 := by
    simp only [List.mem_cons, List.not_mem_nil, or_false] at m2
    rcases m2 with rfl | rfl | rfl | rfl | rfl | rfl | rfl | rfl | rfl | rfl
    all_goals exact ⟨_, rfl, by decide⟩
  obtain ⟨z, rfl, z2⟩ := hy
  have i2 : lstE [(cE (.int 1)), (cE (.int 1)), (cE (.int 1)), (cE (.int 2)), (cE (.int 3))] ⟨[some (.c 0)], [.own J1, .own [.int 0, .int 0, .int 0, .int 1, .int 1, .int (-1), .int 2, .int (-2), .int 3, .int (-5)]]⟩ = .ok (.c 2) ⟨[some (.c 0)], [.own J1, .own [.int 0, .int 0, .int 0, .int 1, .int 1, .int (-1), .int 2, .int (-2), .int 3, .int (-5)], .own [.int 1, .int 1, .int 1, .int 2, .int 3]]⟩ := rfl
  obtain ⟨y, J2, k1, k2, k3⟩ := one_c (n := n) (i := 0) (j := 0) (k := 2) (vs := [some (.c 0)]) rfl i2 rfl rfl (by decide) m3 (by simp) (by simp)
  have hy : ∃ w : Int, y = .int w ∧ 1 ≤ w ∧ w.natAbs < 2 ^ 30 := by
    simp only [List.mem_cons, List.not_mem_nil, or_false] at k2
    rcases k2 with rfl | rfl | rfl | rfl | rfl
    all_goals exact ⟨_, rfl, by decide, by decide⟩
  obtain ⟨w, rfl, hw1, hw⟩ := hy
  have f := low_fq (B := 30) (p := z) (q := w) (by omega) z2 hw
  refine ⟨lowN z w, lowD z w, J2, ?_, f, k3⟩
  have b30 : ∀ {a : Int}, a.natAbs < 2 ^ 30 → Sm a := fun h => Nat.lt_of_lt_of_le h (Nat.pow_le_pow_right (by decide) (by decide))
  have lo := low_ok (p := z) (q := w) (by omega) (b30 z2) (b30 hw)
  rw [e_ret, e_call, e_cons, m1, bind_ok, e_cons]
  simp only [List.set_cons_zero, List.set_cons_succ]
  rw [k1, bind_ok]
  simp only [e_par, e_parK, e_asg, toD_d, e_nameT, e_consT, e_nilT, Option.bind_some, n_nx, n_ct, n_bk, n_ret, e_for, e_itE, e_itA, e_meth, ty_s, e_run1, e_run2, e_run3, e_run4, s_d1, s_d2, s_od, s_oo, s_o1, s_odd, s_t1, s_td, ic_d, ic_o, ic_t, ic_nil, e_argD, e_argDD, List.replicate, Nat.reduceSub, List.length_cons, List.length_nil, bind_ok, bind_exc, bind_bad, e_seq, th_nx, th_ret, th_exc, th_bk, th_ct, e_set, e_setK, e_ret, e_retK, e_drop, e_dropK, e_retN, e_next, e_brk, e_cnt, e_if, e_ifE, e_and, e_or, e_not, onB_t, onB_f, onB_b, e_var, e_varK, e_c, e_bin, e_un, e_call, e_nil, e_cons, e_tup, e_tupK, e_lst, e_lstK, e_newLst, toDs_nil, toDs_d, Option.map_some, e_callV, e_callVT, ar_nil, ar_cons, ar_d, ar_t, e_argKT, af_d, af_new, af_exc, up_nil, up_cons, end_ret, end_exc, end_nx, out_d, v_add, v_sub, v_neg, v_lt, v_le, v_gt, v_ge, v_eqI, v_neI, v_gcd, v_abs, v_max, v_int, v_lenT, v_lenL, List.getElem?_cons_zero, List.getElem?_cons_succ, List.set_cons_zero, List.set_cons_succ, List.take_zero, List.take_nil, Bool.false_eq_true, if_false, if_true, eq_self, decide_true, decide_false, Bool.not_true, Bool.not_false, Nat.reduceAdd, Nat.reduceLeDiff, Nat.reduceLT, List.nil_append, List.cons_append, lo]
  rfl
end Law
end
section
set_option Elab.async false
set_option linter.all false
set_option maxRecDepth 100000
set_option maxHeartbeats 4000000
set_option exponentiation.threshold 5000
namespace Law
open PySem Sh
def Sn (y : D) : Prop := Pl y = true ∧ dep y ≤ 30 ∧ szD y ≤ 100
theorem Sn.lt {y : D} (h : Sn y) : Lt y := ⟨h.1, by have := h.2.1; omega, by have := h.2.2; omega⟩
theorem sn_sz : ∀ L : List D, (∀ y ∈ L, Sn y) → szDs L ≤ 100 * L.length
  | [], _ => by simp [szDs]
  | x :: r, h => by
    have h1 := (h x List.mem_cons_self).2.2
    have h2 := sn_sz r fun y hy => h y (List.mem_cons_of_mem _ hy)
    simp only [szDs, List.length_cons]; omega
theorem lt_tup {xs : List D} (h : ∀ y ∈ xs, Sn y) (hl : xs.length ≤ 10) : Lt (.tup xs) := by
  have h1 : deps xs ≤ 30 := deps_le fun y hy => (h y hy).2.1
  have h2 := sn_sz xs h
  refine ⟨Pls_of fun y hy => (h y hy).1, ?_, ?_⟩
  · simp only [dep]; omega
  · simp only [szD]; omega
theorem lt_lst {xs : List D} (h : ∀ y ∈ xs, Sn y) (hl : xs.length ≤ 10) : Lt (.lst xs) := by
  have h1 : deps xs ≤ 30 := deps_le fun y hy => (h y hy).2.1
  have h2 := sn_sz xs h
  refine ⟨Pls_of fun y hy => (h y hy).1, ?_, ?_⟩
  · simp only [dep]; omega
  · simp only [szD]; omega
theorem sn_int {p : Int} (h : Sm p) : Sn (.int p) := ⟨h.pl, by simp [dep], by simp [szD]⟩
theorem sn_fr {p q : Int} (hp : Sm p) (hq : Sm q) : Sn (fr p q) := ⟨pl_fr hp hq, by simp [dep, deps], by simp [szD, szDs]⟩
def OL : List D := [.non, .str "0", .bl true, .bl false, .int (-1), .int 0, .int 10000000000000000000000000, .tup [], .tup [.int 0], .lst [.int 0], .str "firm"]
theorem ol_sn {y : D} (h : y ∈ OL) : Sn y := by
  unfold OL at h
  simp only [List.mem_cons, List.not_mem_nil, or_false] at h
  rcases h with rfl | rfl | rfl | rfl | rfl | rfl | rfl | rfl | rfl | rfl | rfl
  all_goals exact ⟨by decide +kernel, by decide +kernel, by decide +kernel⟩
def oddE : S → OE := lstE [(cE .non), (cE (.str "0")), (cE (.bl true)), (cE (.bl false)), (un1 negV (cE (.int 1))), (cE (.int 0)), (bin2 powV (cE (.int 10)) (cE (.int 25))), (tupE []), (tupE [(cE (.int 0))]), (lstE [(cE (.int 0))]), (cE (.str "firm"))]
theorem odd_ok {x : D} {J : List D} : oddE ⟨[some (.c 0), some (.d x), none, none, none, none], [.own J]⟩ = .ok (.c 2) ⟨[some (.c 0), some (.d x), none, none, none, none], [.own J, .frz [.int 0], .own OL]⟩ := rfl
theorem odd_step {n : Nat} {x : D} {J : List D} (h : Jr (n + 1) J) : ∃ (o : D) (J' : List D), setS 2 (callE (callV d__law_one) [(varE 0), oddE]) ⟨[some (.c 0), some (.d x), none, none, none, none], [.own J]⟩ = .ok .nx ⟨[some (.c 0), some (.d x), some (.d o), none, none, none], [.own J', .frz [.int 0], .own OL]⟩ ∧ Sn o ∧ Jr n J' := by
  obtain ⟨y, J1, m1, m2, m3⟩ := one_c (n := n) (i := 0) (j := 0) (k := 2) (vs := [some (.c 0), some (.d x), none, none, none, none]) rfl (odd_ok (x := x) (J := J)) rfl rfl (by decide) h (by decide) (by decide)
  exact ⟨y, J1, by rw [e_set, m1]; rfl, ol_sn m2, m3⟩
theorem bent_int {n k : Nat} {z : Int} {J : List D} (h : Jr (n + 1) J) : ∃ (o : D) (J' : List D), d__law_wb_bent (k + 1) [.o J, .d (.int z)] = .ok (.d o) [.own J'] ∧ Sn o ∧ Jr n J' := by
  obtain ⟨o, J', h1, h2, h3⟩ := odd_step (x := .int z) h
  refine ⟨o, J', ?_, h2, h3⟩
  rw [d__law_wb_bent, e_run2, s_od]
  unfold m__law_wb_bent
  simp only [List.replicate, Nat.reduceSub]
  unfold oddE at h1
  rw [seq_nx h1]
  have q1 : ∀ st, isiV [.d (.int z), .d (.ty "tuple")] st = .ok (.d (.bl false)) st := fun _ => rfl
  rw [e_seq, if_t (st1 := ⟨[some (.c 0), some (.d (.int z)), some (.d o), none, none, none], [.own J', .frz [.int 0], .own OL]⟩) (by simp only [e_par, e_parK, e_asg, toD_d, e_nameT, e_consT, e_nilT, Option.bind_some, n_nx, n_ct, n_bk, n_ret, e_for, e_itE, e_itA, e_meth, ty_s, e_run1, e_run2, e_run3, e_run4, s_d1, s_d2, s_od, s_oo, s_o1, s_odd, s_t1, s_td, ic_d, ic_o, ic_t, ic_nil, e_argD, e_argDD, List.replicate, Nat.reduceSub, List.length_cons, List.length_nil, bind_ok, bind_exc, bind_bad, e_seq, th_nx, th_ret, th_exc, th_bk, th_ct, e_set, e_setK, e_ret, e_retK, e_drop, e_dropK, e_retN, e_next, e_brk, e_cnt, e_if, e_ifE, e_and, e_or, e_not, onB_t, onB_f, onB_b, e_var, e_varK, e_c, e_bin, e_un, e_call, e_nil, e_cons, e_tup, e_tupK, e_lst, e_lstK, e_newLst, toDs_nil, toDs_d, Option.map_some, e_callV, e_callVT, ar_nil, ar_cons, ar_d, ar_t, e_argKT, af_d, af_new, af_exc, up_nil, up_cons, end_ret, end_exc, end_nx, out_d, v_add, v_sub, v_neg, v_lt, v_le, v_gt, v_ge, v_eqI, v_neI, v_gcd, v_abs, v_max, v_int, v_lenT, v_lenL, List.getElem?_cons_zero, List.getElem?_cons_succ, List.set_cons_zero, List.set_cons_succ, List.take_zero, List.take_nil, Bool.false_eq_true, if_false, if_true, eq_self, decide_true, decide_false, Bool.not_true, Bool.not_false, Nat.reduceAdd, Nat.reduceLeDiff, Nat.reduceLT, List.nil_append, List.cons_append, q1])]
  simp only [e_par, e_parK, e_asg, toD_d, e_nameT, e_consT, e_nilT, Option.bind_some, n_nx, n_ct, n_bk, n_ret, e_for, e_itE, e_itA, e_meth, ty_s, e_run1, e_run2, e_run3, e_run4, s_d1, s_d2, s_od, s_oo, s_o1, s_odd, s_t1, s_td, ic_d, ic_o, ic_t, ic_nil, e_argD, e_argDD, List.replicate, Nat.reduceSub, List.length_cons, List.length_nil, bind_ok, bind_exc, bind_bad, e_seq, th_nx, th_ret, th_exc, th_bk, th_ct, e_set, e_setK, e_ret, e_retK, e_drop, e_dropK, e_retN, e_next, e_brk, e_cnt, e_if, e_ifE, e_and, e_or, e_not, onB_t, onB_f, onB_b, e_var, e_varK, e_c, e_bin, e_un, e_call, e_nil, e_cons, e_tup, e_tupK, e_lst, e_lstK, e_newLst, toDs_nil, toDs_d, Option.map_some, e_callV, e_callVT, ar_nil, ar_cons, ar_d, ar_t, e_argKT, af_d, af_new, af_exc, up_nil, up_cons, end_ret, end_exc, end_nx, out_d, v_add, v_sub, v_neg, v_lt, v_le, v_gt, v_ge, v_eqI, v_neI, v_gcd, v_abs, v_max, v_int, v_lenT, v_lenL, List.getElem?_cons_zero, List.getElem?_cons_succ, List.set_cons_zero, List.set_cons_succ, List.take_zero, List.take_nil, Bool.false_eq_true, if_false, if_true, eq_self, decide_true, decide_false, Bool.not_true, Bool.not_false, Nat.reduceAdd, Nat.reduceLeDiff, Nat.reduceLT, List.nil_append, List.cons_append]
  rfl
def form6 (p q : Int) (o : D) : Int → List D
  | 0 => [.tup [o, .int q], .tup [.int q], .tup [.int p, .int p, .int q], .tup [.int q, .int p], .lst [.int p, .int q], .tup [.int p, .int q, o]]
  | _ => [.tup [.int p, o], .tup [.int p], .tup [.int p, .int q, .int q], .tup [.int p, .int q], .lst [.int p, .int q], .tup [.int p, .int q, o]]
theorem form6_lt {p q : Int} {o y : D} {a : Int} (hp : Sn (.int p)) (hq : Sn (.int q)) (ho : Sn o) (h : y ∈ form6 p q o a) : Lt y := by
  unfold form6 at h
  split at h
  all_goals
    simp only [List.mem_cons, List.not_mem_nil, or_false] at h
    rcases h with rfl | rfl | rfl | rfl | rfl | rfl
    all_goals
      first | apply lt_tup | apply lt_lst
      · intro y hy
        simp only [List.mem_cons, List.not_mem_nil, or_false] at hy
        first
          | (rcases hy with rfl | rfl | rfl <;> assumption)
          | (rcases hy with rfl | rfl <;> assumption)
          | (rcases hy with rfl; assumption)
      · simp
theorem form6_len {p q : Int} {o : D} {a : Int} : (form6 p q o a).length = 6 := by
  unfold form6; split <;> rfl
end Law
end
section
set_option Elab.async false
set_option linter.all false
set_option maxRecDepth 100000
set_option maxHeartbeats 4000000
set_option exponentiation.threshold 5000
namespace Law
open PySem Sh
def bSome : S → OS := setS 5 (lstE [(bin2 addV (bin2 addV (sliceE (varE 1) noP (atP (varE 3))) (tupE [(varE 2)])) (sliceE (varE 1) (atP (bin2 addV (varE 3) (cE (.int 1)))) noP)), (bin2 addV (sliceE (varE 1) noP (atP (varE 3))) (sliceE (varE 1) (atP (bin2 addV (varE 3) (cE (.int 1)))) noP)), (bin2 addV (sliceE (varE 1) noP (atP (bin2 addV (varE 3) (cE (.int 1))))) (sliceE (varE 1) (atP (varE 3)) noP))])
def bExt : S → OS := dropS (methE "list" extV (varE 5) [(lstE [(bin2 addV (sliceE (varE 1) noP (atP (varE 3))) (revAE (sliceE (varE 1) (atP (varE 3)) noP))), (callE listV [(varE 1)]), (bin2 addV (varE 1) (tupE [(varE 2)]))])])
theorem some_ok {p q a : Int} {o : D} {b : Int} {J : List D} {c1 c2 : Cell} (ha : a = 0 ∨ a = 1) :
    ∃ c5 c6, seqS bSome (seqS bExt (retS (bin2 ixV (varE 5) (bin2 subV (varE 4) (cE (.int 3)))))) ⟨[some (.c 0), some (.d (fr p q)), some (.d o), some (.d (.int a)), some (.d (.int b)), none], [.own J, c1, c2]⟩ =
      retS (bin2 ixV (varE 5) (bin2 subV (varE 4) (cE (.int 3)))) ⟨[some (.c 0), some (.d (fr p q)), some (.d o), some (.d (.int a)), some (.d (.int b)), some (.c 3)], [.own J, c1, c2, .own (form6 p q o a), c5, c6]⟩ := by
  rcases ha with rfl | rfl
  · have i1 : bSome ⟨[some (.c 0), some (.d (fr p q)), some (.d o), some (.d (.int 0)), some (.d (.int b)), none], [.own J, c1, c2]⟩ = .ok .nx ⟨[some (.c 0), some (.d (fr p q)), some (.d o), some (.d (.int 0)), some (.d (.int b)), some (.c 3)], [.own J, c1, c2, .own [.tup [o, .int q], .tup [.int q], .tup [.int p, .int p, .int q]]]⟩ := rfl
    have i2 : bExt ⟨[some (.c 0), some (.d (fr p q)), some (.d o), some (.d (.int 0)), some (.d (.int b)), some (.c 3)], [.own J, c1, c2, .own [.tup [o, .int q], .tup [.int q], .tup [.int p, .int p, .int q]]]⟩ = .ok .nx ⟨[some (.c 0), some (.d (fr p q)), some (.d o), some (.d (.int 0)), some (.d (.int b)), some (.c 3)], [.own J, c1, c2, .own (form6 p q o 0), .frz [.int p, .int q], .own [.tup [.int q, .int p], .lst [.int p, .int q], .tup [.int p, .int q, o]]]⟩ := rfl
    exact ⟨_, _, by rw [seq_nx i1, seq_nx i2]⟩
  · have i1 : bSome ⟨[some (.c 0), some (.d (fr p q)), some (.d o), some (.d (.int 1)), some (.d (.int b)), none], [.own J, c1, c2]⟩ = .ok .nx ⟨[some (.c 0), some (.d (fr p q)), some (.d o), some (.d (.int 1)), some (.d (.int b)), some (.c 3)], [.own J, c1, c2, .own [.tup [.int p, o], .tup [.int p], .tup [.int p, .int q, .int q]]]⟩ := rfl
    have i2 : bExt ⟨[some (.c 0), some (.d (fr p q)), some (.d o), some (.d (.int 1)), some (.d (.int b)), some (.c 3)], [.own J, c1, c2, .own [.tup [.int p, o], .tup [.int p], .tup [.int p, .int q, .int q]]]⟩ = .ok .nx ⟨[some (.c 0), some (.d (fr p q)), some (.d o), some (.d (.int 1)), some (.d (.int b)), some (.c 3)], [.own J, c1, c2, .own (form6 p q o 1), .frz [.int p, .int q], .own [.tup [.int p, .int q], .lst [.int p, .int q], .tup [.int p, .int q, o]]]⟩ := rfl
    exact ⟨_, _, by rw [seq_nx i1, seq_nx i2]⟩
theorem bent_fr {n k : Nat} {p q : Int} {J : List D} (h : Jr (n + 4) J) (hp : Sm p) (hq : Sm q) : ∃ (y : D) (J' : List D), d__law_wb_bent (k + 2) [.o J, .d (fr p q)] = .ok (.d y) [.own J'] ∧ Lt y ∧ Jr n J' := by
  obtain ⟨o, J1, h1, h2, h3⟩ := odd_step (n := n + 3) (x := fr p q) h
  have sp := sn_int hp
  have sq := sn_int hq
  rw [d__law_wb_bent, e_run2, s_od]
  unfold m__law_wb_bent
  simp only [List.replicate, Nat.reduceSub]
  unfold oddE at h1
  rw [seq_nx h1]
  have q1 : ∀ st, isiV [.d (fr p q), .d (.ty "tuple")] st = .ok (.d (.bl true)) st := fun _ => rfl
  have q2 : ∀ st, eqV false (.d (fr p q)) (.d (.tup [])) st = .ok (.d (.bl false)) st := fun _ => by
    rw [v_eq dOf_d dOf_d (okD_of (pl_fr hp hq) (by simp [dep, deps])) rfl]; rfl
  rw [seq_nx (st1 := ⟨[some (.c 0), some (.d (fr p q)), some (.d o), none, none, none], [.own J1, .frz [.int 0], .own OL]⟩) (by rw [if_f (st1 := ⟨[some (.c 0), some (.d (fr p q)), some (.d o), none, none, none], [.own J1, .frz [.int 0], .own OL]⟩) (by simp only [e_par, e_parK, e_asg, toD_d, e_nameT, e_consT, e_nilT, Option.bind_some, n_nx, n_ct, n_bk, n_ret, e_for, e_itE, e_itA, e_meth, ty_s, e_run1, e_run2, e_run3, e_run4, s_d1, s_d2, s_od, s_oo, s_o1, s_odd, s_t1, s_td, ic_d, ic_o, ic_t, ic_nil, e_argD, e_argDD, List.replicate, Nat.reduceSub, List.length_cons, List.length_nil, bind_ok, bind_exc, bind_bad, e_seq, th_nx, th_ret, th_exc, th_bk, th_ct, e_set, e_setK, e_ret, e_retK, e_drop, e_dropK, e_retN, e_next, e_brk, e_cnt, e_if, e_ifE, e_and, e_or, e_not, onB_t, onB_f, onB_b, e_var, e_varK, e_c, e_bin, e_un, e_call, e_nil, e_cons, e_tup, e_tupK, e_lst, e_lstK, e_newLst, toDs_nil, toDs_d, Option.map_some, e_callV, e_callVT, ar_nil, ar_cons, ar_d, ar_t, e_argKT, af_d, af_new, af_exc, up_nil, up_cons, end_ret, end_exc, end_nx, out_d, v_add, v_sub, v_neg, v_lt, v_le, v_gt, v_ge, v_eqI, v_neI, v_gcd, v_abs, v_max, v_int, v_lenT, v_lenL, List.getElem?_cons_zero, List.getElem?_cons_succ, List.set_cons_zero, List.set_cons_succ, List.take_zero, List.take_nil, Bool.false_eq_true, if_false, if_true, eq_self, decide_true, decide_false, Bool.not_true, Bool.not_false, Nat.reduceAdd, Nat.reduceLeDiff, Nat.reduceLT, List.nil_append, List.cons_append, q1, q2])]; rfl)]
  obtain ⟨a, J2, t1, t2, t3, t4⟩ := take_c (n := n + 2) (i := 0) (j := 0) (m := 2) (fm := callE lenV [varE 1]) (vs := [some (.c 0), some (.d (fr p q)), some (.d o), none, none, none]) (cs := [.own J1, .frz [.int 0], .own OL]) (cs2 := [.own J1, .frz [.int 0], .own OL]) rfl rfl rfl h3 (by decide) (by decide)
  obtain ⟨b, J3, u1, u2, u3, u4⟩ := take_c (n := n + 1) (i := 0) (j := 0) (m := 9) (fm := cE (.int 9)) (vs := [some (.c 0), some (.d (fr p q)), some (.d o), none, none, none]) (cs := [.own J2, .frz [.int 0], .own OL]) (cs2 := [.own J2, .frz [.int 0], .own OL]) rfl rfl rfl t4 (by decide) (by decide)
  have i2 : parS 3 4 (callE (callV d__law_take) [(varE 0), (callE lenV [(varE 1)])]) (callE (callV d__law_take) [(varE 0), (cE (.int 9))]) ⟨[some (.c 0), some (.d (fr p q)), some (.d o), none, none, none], [.own J1, .frz [.int 0], .own OL]⟩ = .ok .nx ⟨[some (.c 0), some (.d (fr p q)), some (.d o), some (.d (.int a)), some (.d (.int b)), none], [.own J3, .frz [.int 0], .own OL]⟩ := by
    rw [e_par, e_cons, t1, bind_ok, e_cons]
    simp only [List.set_cons_zero]
    rw [u1]; rfl
  rw [seq_nx i2]
  have ha : a = 0 ∨ a = 1 := by omega
  by_cases c : b < 3
  · have e0 : decide (b < 3) = true := decide_eq_true c
    obtain ⟨o2, J4, w1, w2, w3⟩ : ∃ (o2 : D) (J4 : List D), callE (callV (d__law_wb_bent (k + 1))) [(varE 0), (bin2 ixV (varE 1) (varE 3))] ⟨[some (.c 0), some (.d (fr p q)), some (.d o), some (.d (.int a)), some (.d (.int b)), none], [.own J3, .frz [.int 0], .own OL]⟩ = .ok (.d o2) ⟨[some (.c 0), some (.d (fr p q)), some (.d o), some (.d (.int a)), some (.d (.int b)), none], [.own J4, .frz [.int 0], .own OL]⟩ ∧ Sn o2 ∧ Jr n J4 := by
      rcases ha with rfl | rfl
      · obtain ⟨o2, J4, w1, w2, w3⟩ := bent_int (n := n) (k := k) (z := p) u4
        exact ⟨o2, J4, call_jd (f := bin2 ixV (varE 1) (varE 3)) (i := 0) (x := .int p) (j := 0) (vs := [some (.c 0), some (.d (fr p q)), some (.d o), some (.d (.int 0)), some (.d (.int b)), none]) (cs := [.own J3, .frz [.int 0], .own OL]) (cs2 := [.own J3, .frz [.int 0], .own OL]) rfl rfl rfl w1, w2, w3⟩
      · obtain ⟨o2, J4, w1, w2, w3⟩ := bent_int (n := n) (k := k) (z := q) u4
        exact ⟨o2, J4, call_jd (f := bin2 ixV (varE 1) (varE 3)) (i := 0) (x := .int q) (j := 0) (vs := [some (.c 0), some (.d (fr p q)), some (.d o), some (.d (.int 1)), some (.d (.int b)), none]) (cs := [.own J3, .frz [.int 0], .own OL]) (cs2 := [.own J3, .frz [.int 0], .own OL]) rfl rfl rfl w1, w2, w3⟩
    rw [e_seq, if_t (st1 := ⟨[some (.c 0), some (.d (fr p q)), some (.d o), some (.d (.int a)), some (.d (.int b)), none], [.own J3, .frz [.int 0], .own OL]⟩) (by simp only [e_par, e_parK, e_asg, toD_d, e_nameT, e_consT, e_nilT, Option.bind_some, n_nx, n_ct, n_bk, n_ret, e_for, e_itE, e_itA, e_meth, ty_s, e_run1, e_run2, e_run3, e_run4, s_d1, s_d2, s_od, s_oo, s_o1, s_odd, s_t1, s_td, ic_d, ic_o, ic_t, ic_nil, e_argD, e_argDD, List.replicate, Nat.reduceSub, List.length_cons, List.length_nil, bind_ok, bind_exc, bind_bad, e_seq, th_nx, th_ret, th_exc, th_bk, th_ct, e_set, e_setK, e_ret, e_retK, e_drop, e_dropK, e_retN, e_next, e_brk, e_cnt, e_if, e_ifE, e_and, e_or, e_not, onB_t, onB_f, onB_b, e_var, e_varK, e_c, e_bin, e_un, e_call, e_nil, e_cons, e_tup, e_tupK, e_lst, e_lstK, e_newLst, toDs_nil, toDs_d, Option.map_some, e_callV, e_callVT, ar_nil, ar_cons, ar_d, ar_t, e_argKT, af_d, af_new, af_exc, up_nil, up_cons, end_ret, end_exc, end_nx, out_d, v_add, v_sub, v_neg, v_lt, v_le, v_gt, v_ge, v_eqI, v_neI, v_gcd, v_abs, v_max, v_int, v_lenT, v_lenL, List.getElem?_cons_zero, List.getElem?_cons_succ, List.set_cons_zero, List.set_cons_succ, List.take_zero, List.take_nil, Bool.false_eq_true, if_false, if_true, eq_self, decide_true, decide_false, Bool.not_true, Bool.not_false, Nat.reduceAdd, Nat.reduceLeDiff, Nat.reduceLT, List.nil_append, List.cons_append, e0])]
    rcases ha with rfl | rfl
    · refine ⟨.tup [o2, .int q], J4, ?_, lt_tup (fun y hy => ?_) (by simp), w3⟩
      · have s1 : sliceE (varE 1) noP (atP (varE 3)) ⟨[some (.c 0), some (.d (fr p q)), some (.d o), some (.d (.int 0)), some (.d (.int b)), none], [.own J3, .frz [.int 0], .own OL]⟩ = .ok (.d (.tup [])) ⟨[some (.c 0), some (.d (fr p q)), some (.d o), some (.d (.int 0)), some (.d (.int b)), none], [.own J3, .frz [.int 0], .own OL]⟩ := rfl
        rw [e_ret, e_bin, e_bin, s1, bind_ok, e_tup, e_cons, w1]
        rfl
      · simp only [List.mem_cons, List.not_mem_nil, or_false] at hy
        rcases hy with rfl | rfl <;> assumption
    · refine ⟨.tup [.int p, o2], J4, ?_, lt_tup (fun y hy => ?_) (by simp), w3⟩
      · have s1 : sliceE (varE 1) noP (atP (varE 3)) ⟨[some (.c 0), some (.d (fr p q)), some (.d o), some (.d (.int 1)), some (.d (.int b)), none], [.own J3, .frz [.int 0], .own OL]⟩ = .ok (.d (.tup [.int p])) ⟨[some (.c 0), some (.d (fr p q)), some (.d o), some (.d (.int 1)), some (.d (.int b)), none], [.own J3, .frz [.int 0], .own OL]⟩ := rfl
        rw [e_ret, e_bin, e_bin, s1, bind_ok, e_tup, e_cons, w1]
        rfl
      · simp only [List.mem_cons, List.not_mem_nil, or_false] at hy
        rcases hy with rfl | rfl <;> assumption
  · have e0 : decide (b < 3) = false := decide_eq_false c
    rw [seq_nx (st1 := ⟨[some (.c 0), some (.d (fr p q)), some (.d o), some (.d (.int a)), some (.d (.int b)), none], [.own J3, .frz [.int 0], .own OL]⟩) (by rw [if_f (st1 := ⟨[some (.c 0), some (.d (fr p q)), some (.d o), some (.d (.int a)), some (.d (.int b)), none], [.own J3, .frz [.int 0], .own OL]⟩) (by simp only [e_par, e_parK, e_asg, toD_d, e_nameT, e_consT, e_nilT, Option.bind_some, n_nx, n_ct, n_bk, n_ret, e_for, e_itE, e_itA, e_meth, ty_s, e_run1, e_run2, e_run3, e_run4, s_d1, s_d2, s_od, s_oo, s_o1, s_odd, s_t1, s_td, ic_d, ic_o, ic_t, ic_nil, e_argD, e_argDD, List.replicate, Nat.reduceSub, List.length_cons, List.length_nil, bind_ok, bind_exc, bind_bad, e_seq, th_nx, th_ret, th_exc, th_bk, th_ct, e_set, e_setK, e_ret, e_retK, e_drop, e_dropK, e_retN, e_next, e_brk, e_cnt, e_if, e_ifE, e_and, e_or, e_not, onB_t, onB_f, onB_b, e_var, e_varK, e_c, e_bin, e_un, e_call, e_nil, e_cons, e_tup, e_tupK, e_lst, e_lstK, e_newLst, toDs_nil, toDs_d, Option.map_some, e_callV, e_callVT, ar_nil, ar_cons, ar_d, ar_t, e_argKT, af_d, af_new, af_exc, up_nil, up_cons, end_ret, end_exc, end_nx, out_d, v_add, v_sub, v_neg, v_lt, v_le, v_gt, v_ge, v_eqI, v_neI, v_gcd, v_abs, v_max, v_int, v_lenT, v_lenL, List.getElem?_cons_zero, List.getElem?_cons_succ, List.set_cons_zero, List.set_cons_succ, List.take_zero, List.take_nil, Bool.false_eq_true, if_false, if_true, eq_self, decide_true, decide_false, Bool.not_true, Bool.not_false, Nat.reduceAdd, Nat.reduceLeDiff, Nat.reduceLT, List.nil_append, List.cons_append, e0])]; rfl)]
    obtain ⟨c5, c6, z1⟩ := some_ok (p := p) (q := q) (o := o) (b := b) (J := J3) (c1 := .frz [.int 0]) (c2 := .own OL) ha
    unfold bSome bExt at z1
    rw [z1]
    obtain ⟨t, ht⟩ := Int.eq_ofNat_of_zero_le (show 0 ≤ b - 3 by omega)
    have tl : t < (form6 p q o a).length := by rw [form6_len]; omega
    refine ⟨(form6 p q o a)[t], J3, ?_, form6_lt sp sq h2 (List.getElem_mem tl), u4.mono (by omega)⟩
    have i9 : bin2 ixV (varE 5) (bin2 subV (varE 4) (cE (.int 3))) ⟨[some (.c 0), some (.d (fr p q)), some (.d o), some (.d (.int a)), some (.d (.int b)), some (.c 3)], [.own J3, .frz [.int 0], .own OL, .own (form6 p q o a), c5, c6]⟩ = .ok (.d (form6 p q o a)[t]) ⟨[some (.c 0), some (.d (fr p q)), some (.d o), some (.d (.int a)), some (.d (.int b)), some (.c 3)], [.own J3, .frz [.int 0], .own OL, .own (form6 p q o a), c5, c6]⟩ := by
      simp only [e_par, e_parK, e_asg, toD_d, e_nameT, e_consT, e_nilT, Option.bind_some, n_nx, n_ct, n_bk, n_ret, e_for, e_itE, e_itA, e_meth, ty_s, e_run1, e_run2, e_run3, e_run4, s_d1, s_d2, s_od, s_oo, s_o1, s_odd, s_t1, s_td, ic_d, ic_o, ic_t, ic_nil, e_argD, e_argDD, List.replicate, Nat.reduceSub, List.length_cons, List.length_nil, bind_ok, bind_exc, bind_bad, e_seq, th_nx, th_ret, th_exc, th_bk, th_ct, e_set, e_setK, e_ret, e_retK, e_drop, e_dropK, e_retN, e_next, e_brk, e_cnt, e_if, e_ifE, e_and, e_or, e_not, onB_t, onB_f, onB_b, e_var, e_varK, e_c, e_bin, e_un, e_call, e_nil, e_cons, e_tup, e_tupK, e_lst, e_lstK, e_newLst, toDs_nil, toDs_d, Option.map_some, e_callV, e_callVT, ar_nil, ar_cons, ar_d, ar_t, e_argKT, af_d, af_new, af_exc, up_nil, up_cons, end_ret, end_exc, end_nx, out_d, v_add, v_sub, v_neg, v_lt, v_le, v_gt, v_ge, v_eqI, v_neI, v_gcd, v_abs, v_max, v_int, v_lenT, v_lenL, List.getElem?_cons_zero, List.getElem?_cons_succ, List.set_cons_zero, List.set_cons_succ, List.take_zero, List.take_nil, Bool.false_eq_true, if_false, if_true, eq_self, decide_true, decide_false, Bool.not_true, Bool.not_false, Nat.reduceAdd, Nat.reduceLeDiff, Nat.reduceLT, List.nil_append, List.cons_append, ht]
      exact Sh.v_ixC (cl := .own (form6 p q o a)) rfl (atI_nat tl)
    rw [e_ret, i9, bind_ok]
    rfl
end Law
end
section
set_option Elab.async false
set_option linter.all false
set_option maxRecDepth 100000
set_option maxHeartbeats 4000000
set_option exponentiation.threshold 5000
namespace Law
open PySem Sh
theorem ext_m {f : S → OE} {i k : Nat} {xs ys : List D} {vs : List (Option Val)} {cs : List Cell} (hv : vs[i]? = some (some (.c k))) (hc : cs[k]? = some (.own xs)) (hf : f ⟨vs, cs⟩ = .ok (.c cs.length) ⟨vs, cs ++ [.own ys]⟩) (hl : xs.length + ys.length ≤ 1000000) :
    dropS (methE "list" extV (varE i) [f]) ⟨vs, cs⟩ = .ok .nx ⟨vs, (cs ++ [Cell.own ys]).set k (.own (xs ++ ys))⟩ := by
  have hk := lt_of_some hc
  have c1 : (cs ++ [Cell.own ys])[k]? = some (.own xs) := by rw [List.getElem?_append_left hk]; exact hc
  have c2 : (cs ++ [Cell.own ys])[cs.length]? = some (.own ys) := by rw [List.getElem?_append_right (Nat.le_refl _), Nat.sub_self]; rfl
  exact drop_m (st1 := ⟨vs, cs⟩) (by rw [e_var, hv, e_varK]) (by show (cs[k]?).isSome = true; rw [hc]; rfl) hf (v_extC c1 c2 hl)
theorem v_addL {k j : Nat} {X Y : List D} {vs : List (Option Val)} {cs : List Cell} (h : cs[k]? = some (.own X)) (h2 : cs[j]? = some (.own Y)) (hl : X.length + Y.length ≤ 1000000) : addV (.c k) (.c j) ⟨vs, cs⟩ = .ok (.c cs.length) ⟨vs, cs ++ [.own (X ++ Y)]⟩ := by
  unfold addV lstOf
  simp only [h, h2, Option.map_some, Cell.xs, hl, if_true]
  rfl
def tl1 (p q m : Int) : List D := [fr p q, .lst [.int p, .int q], .tup [.int p], .tup [.int p, .int q, .int 1], .tup [], .non, .int 0, .int p, .str "1", fr (p * m) (q * m), fr p 0]
def te1 (p q : Int) : List D := [fr (0 - p) (0 - q), .tup [.bl true, .int q], .tup [.int p, .bl true], .tup [.non, .int q], .tup [.int p, .non], .tup [.int p, .str "1"], .tup [fr p q, fr p q]]
def te2 (p q : Int) : List D := [fr 0 q, fr 0 2, fr 0 1, fr 1 1, fr (2 * p) (2 * q), fr (p + q) q, fr q p]
def te3 (y : D) (p q : Int) : List D := [y, .tup [fr p q], fr (-1) (-1), .tup [.bl false, .int 1]]
def tAll (y : D) (p q m : Int) : List D := tl1 p q m ++ [fr p (0 - q)] ++ te1 p q ++ te2 p q ++ te3 y p q
theorem things_ok {n : Nat} {p q : Int} {J : List D} (h : Jr (n + 5) J) (hp : Bd p) (hq : Bd q) : ∃ (L : List D) (J' : List D), d__law_a2_things [.o J, .d (fr p q)] = .ok (.new L) [.own J'] ∧ (∃ y m, L = tAll y p q m ∧ Lt y ∧ (m = 2 ∨ m = 3 ∨ m = 7)) ∧ Jr n J' := by
  rw [d__law_a2_things, e_run2, s_od]
  unfold m__law_a2_things
  simp only [List.replicate, Nat.reduceSub]
  have i0 : asgS (tupT 2 (consT (nameT 2) (consT (nameT 3) nilT))) (varE 1) ⟨[some (.c 0), some (.d (fr p q)), none, none, none, none], [.own J]⟩ = .ok .nx ⟨[some (.c 0), some (.d (fr p q)), some (.d (.int p)), some (.d (.int q)), none, none], [.own J]⟩ := rfl
  rw [seq_nx i0]
  have i1 : lstE [(cE (.int 2)), (cE (.int 3)), (cE (.int 7))] ⟨[some (.c 0), some (.d (fr p q)), some (.d (.int p)), some (.d (.int q)), none, none], [.own J]⟩ = .ok (.c 1) ⟨[some (.c 0), some (.d (fr p q)), some (.d (.int p)), some (.d (.int q)), none, none], [.own J, .own [.int 2, .int 3, .int 7]]⟩ := rfl
  obtain ⟨y, J1, m1, m2, m3⟩ := one_c (n := n + 4) (i := 0) (j := 0) (k := 1) (vs := [some (.c 0), some (.d (fr p q)), some (.d (.int p)), some (.d (.int q)), none, none]) rfl i1 rfl rfl (by decide) h (by simp) (by simp)
  have hy : ∃ m : Int, y = .int m ∧ (m = 2 ∨ m = 3 ∨ m = 7) := by
    simp only [List.mem_cons, List.not_mem_nil, or_false] at m2
    rcases m2 with rfl | rfl | rfl
    · exact ⟨2, rfl, .inl rfl⟩
    · exact ⟨3, rfl, .inr (.inl rfl)⟩
    · exact ⟨7, rfl, .inr (.inr rfl)⟩
  obtain ⟨m, rfl, hm⟩ := hy
  have i2 : setS 4 (callE (callV d__law_one) [(varE 0), (lstE [(cE (.int 2)), (cE (.int 3)), (cE (.int 7))])]) ⟨[some (.c 0), some (.d (fr p q)), some (.d (.int p)), some (.d (.int q)), none, none], [.own J]⟩ = .ok .nx ⟨[some (.c 0), some (.d (fr p q)), some (.d (.int p)), some (.d (.int q)), some (.d (.int m)), none], [.own J1, .own [.int 2, .int 3, .int 7]]⟩ := by
    rw [e_set, m1]; rfl
  rw [seq_nx i2]
  have bm : Bd m := Nat.lt_of_lt_of_le (show m.natAbs < 2 ^ 3 by rcases hm with rfl | rfl | rfl <;> decide) (Nat.pow_le_pow_right (by decide) (by decide))
  have b2 : Bd 2 := Nat.lt_of_lt_of_le (show (2 : Int).natAbs < 2 ^ 3 by decide) (Nat.pow_le_pow_right (by decide) (by decide))
  have ml := fun st => mv hp bm st
  have ml2 := fun st => mv hq bm st
  have ml3 := fun st => mv b2 hp st
  have ml4 := fun st => mv b2 hq st
  have lv : ∀ vs cs, listV [.d (fr p q)] ⟨vs, cs⟩ = .ok (.c cs.length) ⟨vs, cs ++ [.own [.int p, .int q]]⟩ := fun _ _ => rfl
  have i3 : setS 5 (lstE [(varE 1), (callE listV [(varE 1)]), (tupE [(varE 2)]), (bin2 addV (varE 1) (tupE [(cE (.int 1))])), (tupE []), (cE .non), (cE (.int 0)), (varE 2), (cE (.str "1")), (tupE [(bin2 mulV (varE 2) (varE 4)), (bin2 mulV (varE 3) (varE 4))]), (tupE [(varE 2), (cE (.int 0))])])
      ⟨[some (.c 0), some (.d (fr p q)), some (.d (.int p)), some (.d (.int q)), some (.d (.int m)), none], [.own J1, .own [.int 2, .int 3, .int 7]]⟩ = .ok .nx ⟨[some (.c 0), some (.d (fr p q)), some (.d (.int p)), some (.d (.int q)), some (.d (.int m)), some (.c 3)], [.own J1, .own [.int 2, .int 3, .int 7], .frz [.int p, .int q], .own (tl1 p q m)]⟩ := by
    have ad : ∀ st, addV (.d (fr p q)) (.d (.tup [.int 1])) st = .ok (.d (.tup [.int p, .int q, .int 1])) st := fun _ => rfl
    simp only [e_par, e_parK, e_asg, toD_d, e_nameT, e_consT, e_nilT, Option.bind_some, n_nx, n_ct, n_bk, n_ret, e_for, e_itE, e_itA, e_meth, ty_s, e_run1, e_run2, e_run3, e_run4, s_d1, s_d2, s_od, s_oo, s_o1, s_odd, s_t1, s_td, ic_d, ic_o, ic_t, ic_nil, e_argD, e_argDD, List.replicate, Nat.reduceSub, List.length_cons, List.length_nil, bind_ok, bind_exc, bind_bad, e_seq, th_nx, th_ret, th_exc, th_bk, th_ct, e_set, e_setK, e_ret, e_retK, e_drop, e_dropK, e_retN, e_next, e_brk, e_cnt, e_if, e_ifE, e_and, e_or, e_not, onB_t, onB_f, onB_b, e_var, e_varK, e_c, e_bin, e_un, e_call, e_nil, e_cons, e_tup, e_tupK, e_lst, e_lstK, e_newLst, toDs_nil, toDs_d, Option.map_some, e_callV, e_callVT, ar_nil, ar_cons, ar_d, ar_t, e_argKT, af_d, af_new, af_exc, up_nil, up_cons, end_ret, end_exc, end_nx, out_d, v_add, v_sub, v_neg, v_lt, v_le, v_gt, v_ge, v_eqI, v_neI, v_gcd, v_abs, v_max, v_int, v_lenT, v_lenL, List.getElem?_cons_zero, List.getElem?_cons_succ, List.set_cons_zero, List.set_cons_succ, List.take_zero, List.take_nil, Bool.false_eq_true, if_false, if_true, eq_self, decide_true, decide_false, Bool.not_true, Bool.not_false, Nat.reduceAdd, Nat.reduceLeDiff, Nat.reduceLT, List.nil_append, List.cons_append, lv, ad, ml, ml2]
    rfl
  rw [seq_nx i3]
  have jA : ∀ (v4 v5 : Option Val) (cs : List Cell), tupE [(varE 2), (bin2 subV (cE (.int 0)) (varE 3))] ⟨[some (.c 0), some (.d (fr p q)), some (.d (.int p)), some (.d (.int q)), v4, v5], cs⟩ = .ok (.d (fr p (0 - q))) ⟨[some (.c 0), some (.d (fr p q)), some (.d (.int p)), some (.d (.int q)), v4, v5], cs⟩ := fun _ _ _ => rfl
  have jB : ∀ (v4 v5 : Option Val) (cs : List Cell), lstE [(tupE [(bin2 subV (cE (.int 0)) (varE 2)), (bin2 subV (cE (.int 0)) (varE 3))]), (tupE [(cE (.bl true)), (varE 3)]), (tupE [(varE 2), (cE (.bl true))]), (tupE [(cE .non), (varE 3)]), (tupE [(varE 2), (cE .non)]), (tupE [(varE 2), (cE (.str "1"))]), (tupE [(varE 1), (varE 1)])] ⟨[some (.c 0), some (.d (fr p q)), some (.d (.int p)), some (.d (.int q)), v4, v5], cs⟩ =
      .ok (.c cs.length) ⟨[some (.c 0), some (.d (fr p q)), some (.d (.int p)), some (.d (.int q)), v4, v5], cs ++ [.own (te1 p q)]⟩ := fun _ _ _ => rfl
  rw [seq_nx (app_m (i := 5) (k := 3) (y := fr p (0 - q)) (xs := tl1 p q m) rfl rfl (jA _ _ _) (by simp [tl1]))]
  rw [seq_nx (ext_m (i := 5) (k := 3) (ys := te1 p q) (xs := tl1 p q m ++ [fr p (0 - q)]) rfl rfl (jB _ _ _) (by simp [tl1, te1]))]
  have j1 : ∀ (v4 v5 : Option Val) (cs : List Cell), lstE [(tupE [(cE (.int 0)), (varE 3)]), (tupE [(cE (.int 0)), (cE (.int 2))]), (tupE [(cE (.int 0)), (cE (.int 1))]), (tupE [(cE (.int 1)), (cE (.int 1))]), (tupE [(bin2 mulV (cE (.int 2)) (varE 2)), (bin2 mulV (cE (.int 2)) (varE 3))]), (tupE [(bin2 addV (varE 2) (varE 3)), (varE 3)]), (tupE [(varE 3), (varE 2)])] ⟨[some (.c 0), some (.d (fr p q)), some (.d (.int p)), some (.d (.int q)), v4, v5], cs⟩ =
      .ok (.c cs.length) ⟨[some (.c 0), some (.d (fr p q)), some (.d (.int p)), some (.d (.int q)), v4, v5], cs ++ [.own (te2 p q)]⟩ := fun v4 v5 cs => by
    simp only [e_par, e_parK, e_asg, toD_d, e_nameT, e_consT, e_nilT, Option.bind_some, n_nx, n_ct, n_bk, n_ret, e_for, e_itE, e_itA, e_meth, ty_s, e_run1, e_run2, e_run3, e_run4, s_d1, s_d2, s_od, s_oo, s_o1, s_odd, s_t1, s_td, ic_d, ic_o, ic_t, ic_nil, e_argD, e_argDD, List.replicate, Nat.reduceSub, List.length_cons, List.length_nil, bind_ok, bind_exc, bind_bad, e_seq, th_nx, th_ret, th_exc, th_bk, th_ct, e_set, e_setK, e_ret, e_retK, e_drop, e_dropK, e_retN, e_next, e_brk, e_cnt, e_if, e_ifE, e_and, e_or, e_not, onB_t, onB_f, onB_b, e_var, e_varK, e_c, e_bin, e_un, e_call, e_nil, e_cons, e_tup, e_tupK, e_lst, e_lstK, e_newLst, toDs_nil, toDs_d, Option.map_some, e_callV, e_callVT, ar_nil, ar_cons, ar_d, ar_t, e_argKT, af_d, af_new, af_exc, up_nil, up_cons, end_ret, end_exc, end_nx, out_d, v_add, v_sub, v_neg, v_lt, v_le, v_gt, v_ge, v_eqI, v_neI, v_gcd, v_abs, v_max, v_int, v_lenT, v_lenL, List.getElem?_cons_zero, List.getElem?_cons_succ, List.set_cons_zero, List.set_cons_succ, List.take_zero, List.take_nil, Bool.false_eq_true, if_false, if_true, eq_self, decide_true, decide_false, Bool.not_true, Bool.not_false, Nat.reduceAdd, Nat.reduceLeDiff, Nat.reduceLT, List.nil_append, List.cons_append, ml3, ml4]
    rfl
  rw [seq_nx (ext_m (i := 5) (k := 3) (ys := te2 p q) (xs := tl1 p q m ++ [fr p (0 - q)] ++ te1 p q) rfl rfl (j1 _ _ _) (by simp [tl1, te1, te2]))]
  obtain ⟨y, J2, w1, w2, w3⟩ := bent_fr (n := n) (k := 10) m3 hp.sm hq.sm
  refine ⟨tAll y p q m, J2, ?_, ⟨y, m, rfl, w2, hm⟩, w3⟩
  have ta : tAll y p q m = (tl1 p q m ++ [fr p (0 - q)] ++ te1 p q ++ te2 p q) ++ te3 y p q := rfl
  have hXl : (tl1 p q m ++ [fr p (0 - q)] ++ te1 p q ++ te2 p q).length + (te3 y p q).length ≤ 1000000 := by simp [tl1, te1, te2, te3]
  rw [ta]
  show endD 1 (retS (bin2 addV (varE 5) (lstE [(callE (callV (d__law_wb_bent 12)) [(varE 0), (varE 1)]), (tupE [(tupE [(varE 2), (varE 3)])]), (tupE [(un1 negV (cE (.int 1))), (un1 negV (cE (.int 1)))]), (tupE [(cE (.bl false)), (cE (.int 1))])]))
    ⟨[some (.c 0), some (.d (fr p q)), some (.d (.int p)), some (.d (.int q)), some (.d (.int m)), some (.c 3)], [.own J1, .own [.int 2, .int 3, .int 7], .frz [.int p, .int q], .own (tl1 p q m ++ [fr p (0 - q)] ++ te1 p q ++ te2 p q), .own (te1 p q), .own (te2 p q)]⟩) = _
  generalize tl1 p q m ++ [fr p (0 - q)] ++ te1 p q ++ te2 p q = X at *
  have w1' := call_jd (f := varE 1) (i := 0) (j := 0) (x := fr p q) (vs := [some (.c 0), some (.d (fr p q)), some (.d (.int p)), some (.d (.int q)), some (.d (.int m)), some (.c 3)]) (cs := [.own J1, .own [.int 2, .int 3, .int 7], .frz [.int p, .int q], .own X, .own (te1 p q), .own (te2 p q)]) rfl rfl rfl w1
  have i8 : lstE [(callE (callV (d__law_wb_bent 12)) [(varE 0), (varE 1)]), (tupE [(tupE [(varE 2), (varE 3)])]), (tupE [(un1 negV (cE (.int 1))), (un1 negV (cE (.int 1)))]), (tupE [(cE (.bl false)), (cE (.int 1))])] ⟨[some (.c 0), some (.d (fr p q)), some (.d (.int p)), some (.d (.int q)), some (.d (.int m)), some (.c 3)], [.own J1, .own [.int 2, .int 3, .int 7], .frz [.int p, .int q], .own X, .own (te1 p q), .own (te2 p q)]⟩ =
      .ok (.c 6) ⟨[some (.c 0), some (.d (fr p q)), some (.d (.int p)), some (.d (.int q)), some (.d (.int m)), some (.c 3)], [.own J2, .own [.int 2, .int 3, .int 7], .frz [.int p, .int q], .own X, .own (te1 p q), .own (te2 p q), .own (te3 y p q)]⟩ := by
    rw [e_lst, e_cons, w1', bind_ok]
    rfl
  have i9 : bin2 addV (varE 5) (lstE [(callE (callV (d__law_wb_bent 12)) [(varE 0), (varE 1)]), (tupE [(tupE [(varE 2), (varE 3)])]), (tupE [(un1 negV (cE (.int 1))), (un1 negV (cE (.int 1)))]), (tupE [(cE (.bl false)), (cE (.int 1))])]) ⟨[some (.c 0), some (.d (fr p q)), some (.d (.int p)), some (.d (.int q)), some (.d (.int m)), some (.c 3)], [.own J1, .own [.int 2, .int 3, .int 7], .frz [.int p, .int q], .own X, .own (te1 p q), .own (te2 p q)]⟩ =
      .ok (.c 7) ⟨[some (.c 0), some (.d (fr p q)), some (.d (.int p)), some (.d (.int q)), some (.d (.int m)), some (.c 3)], [.own J2, .own [.int 2, .int 3, .int 7], .frz [.int p, .int q], .own X, .own (te1 p q), .own (te2 p q), .own (te3 y p q), .own (X ++ te3 y p q)]⟩ := by
    have e5 : varE 5 ⟨[some (.c 0), some (.d (fr p q)), some (.d (.int p)), some (.d (.int q)), some (.d (.int m)), some (.c 3)], [.own J1, .own [.int 2, .int 3, .int 7], .frz [.int p, .int q], .own X, .own (te1 p q), .own (te2 p q)]⟩ = .ok (.c 3) ⟨[some (.c 0), some (.d (fr p q)), some (.d (.int p)), some (.d (.int q)), some (.d (.int m)), some (.c 3)], [.own J1, .own [.int 2, .int 3, .int 7], .frz [.int p, .int q], .own X, .own (te1 p q), .own (te2 p q)]⟩ := rfl
    rw [e_bin, e5, bind_ok, i8, bind_ok]
    exact v_addL rfl rfl hXl
  rw [e_ret, i9, bind_ok]
  rfl
theorem tall_lt {y : D} {p q m : Int} (hy : Lt y) (hm : m = 2 ∨ m = 3 ∨ m = 7) (hp : Bd p) (hq : Bd q) : ∀ z ∈ tAll y p q m, Lt z := by
  have bm : Bd m := Nat.lt_of_lt_of_le (show m.natAbs < 2 ^ 3 by rcases hm with rfl | rfl | rfl <;> decide) (Nat.pow_le_pow_right (by decide) (by decide))
  have b2 : Bd 2 := Nat.lt_of_lt_of_le (show (2 : Int).natAbs < 2 ^ 3 by decide) (Nat.pow_le_pow_right (by decide) (by decide))
  have b1 : Bd 1 := Nat.lt_of_lt_of_le (show (1 : Int).natAbs < 2 ^ 3 by decide) (Nat.pow_le_pow_right (by decide) (by decide))
  have b0 : Bd 0 := Nat.lt_of_lt_of_le (show (0 : Int).natAbs < 2 ^ 3 by decide) (Nat.pow_le_pow_right (by decide) (by decide))
  have p0 : Sn (.int 0) := sn_int b0.sm
  have p1 : Sn (.int 1) := sn_int b1.sm
  have pp : Sn (.int p) := sn_int hp.sm
  have pq : Sn (.int q) := sn_int hq.sm
  have pf : Sn (fr p q) := sn_fr hp.sm hq.sm
  have pt : Sn (.bl true) := ⟨rfl, by decide, by decide⟩
  have pfa : Sn (.bl false) := ⟨rfl, by decide, by decide⟩
  have pn : Sn .non := ⟨rfl, by decide, by decide⟩
  have ps : Sn (.str "1") := ⟨by decide +kernel, by decide +kernel, by decide +kernel⟩
  have sp : Sm (p + q) := by
    have h1 : (p + q).natAbs ≤ p.natAbs + q.natAbs := Int.natAbs_add_le p q
    have h2 : (2 : Nat) ^ 1900 + 2 ^ 1900 = 2 ^ 1901 := by rw [show 1901 = 1900 + 1 from rfl, Nat.pow_succ, Nat.mul_two]
    have h3 : (2 : Nat) ^ 1901 ≤ 2 ^ 4000 := Nat.pow_le_pow_right (by decide) (by decide)
    unfold Bd at hp hq
    unfold Sm
    generalize (2 : Nat) ^ 1900 = X at *
    generalize (2 : Nat) ^ 1901 = Y at *
    generalize (2 : Nat) ^ 4000 = Z at *
    omega
  have n0 : ∀ {a : Int}, Bd a → Sm (0 - a) := fun h => by rw [Int.zero_sub]; exact h.neg.sm
  have n1 : Bd (-1) := b1.neg
  have T : ∀ {xs : List D}, (∀ y ∈ xs, Sn y) → xs.length ≤ 10 → Lt (.tup xs) := fun h l => lt_tup h l
  unfold tAll tl1 te1 te2 te3
  simp only [List.cons_append, List.nil_append, List.forall_mem_cons, List.not_mem_nil, false_implies, implies_true, and_true]
  refine ⟨Lt.fr hp.sm hq.sm, lt_lst ?_ ?_, lt_tup ?_ ?_, lt_tup ?_ ?_, lt_tup ?_ ?_, pn.lt, p0.lt, pp.lt, ps.lt, Lt.fr (hp.mul bm) (hq.mul bm), Lt.fr hp.sm b0.sm, Lt.fr hp.sm (n0 hq), Lt.fr (n0 hp) (n0 hq), lt_tup ?_ ?_, lt_tup ?_ ?_, lt_tup ?_ ?_, lt_tup ?_ ?_, lt_tup ?_ ?_, lt_tup ?_ ?_,
    Lt.fr b0.sm hq.sm, Lt.fr b0.sm b2.sm, Lt.fr b0.sm b1.sm, Lt.fr b1.sm b1.sm, Lt.fr (b2.mul hp) (b2.mul hq), Lt.fr sp hq.sm, Lt.fr hq.sm hp.sm, hy, lt_tup ?_ ?_, Lt.fr n1.sm n1.sm, lt_tup ?_ ?_⟩
  all_goals
    first
      | (simp only [List.forall_mem_cons, List.not_mem_nil, false_implies, implies_true, and_true]; simp only [*, and_self])
      | simp
end Law
end
section
set_option Elab.async false
set_option linter.all false
set_option maxRecDepth 100000
set_option maxHeartbeats 4000000
set_option exponentiation.threshold 5000
namespace Law
open PySem Sh
def rBody : S → OS := (seqS (setS 8 (andE (callE (callV d__law_wb_is_fraction) [(varE 6)]) (callE (callV d__law_wb_is_fraction) [(varE 7)])))
  (ifS (notE (varE 8)) (seqS (dropS (methE "list" appV (varE 4) [(lamE d__law_a2_heard [6, 7] (callE (callV d_plus) [(varE 6), (varE 7)]) [])]))
  (seqS (dropS (methE "list" appV (varE 4) [(lamE d__law_a2_heard [6, 7] (callE (callV d_minus) [(varE 6), (varE 7)]) [])]))
  (seqS (dropS (methE "list" appV (varE 4) [(lamE d__law_a2_heard [6, 7] (callE (callV d_times) [(varE 6), (varE 7)]) [])]))
  (seqS (dropS (methE "list" appV (varE 4) [(lamE d__law_a2_heard [6, 7] (callE (callV d_over) [(varE 6), (varE 7)]) [])]))
  (seqS (dropS (methE "list" appV (varE 4) [(lamE d__law_a2_heard [6, 7] (callE (callV d_below) [(varE 6), (varE 7)]) [])]))
  (dropS (methE "list" extV (varE 5) [(bin2 mulV (lstE [(tupE [(cE (.str "BadFraction")), (cE (.int 0))])]) (cE (.int 5)))]))))))) nextS))
abbrev rV (a x o : D) (l r f : Option Val) : List (Option Val) := [some (.c 0), some (.d a), some (.d x), some (.d o), some (.c 3), some (.c 4), l, r, f]
theorem app_s {a x o u w : D} {f : Option Val} {g : S → OE} {L : List D} {cs : List Cell} (h3 : cs[3]? = some (.own L)) (hl : L.length < 1000000) (hg : g ⟨rV a x o (some (.d u)) (some (.d w)) f, cs⟩ = .ok (.d bad) ⟨rV a x o (some (.d u)) (some (.d w)) f, cs⟩) :
    ∃ cs', dropS (methE "list" appV (varE 4) [g]) ⟨rV a x o (some (.d u)) (some (.d w)) f, cs⟩ = .ok .nx ⟨rV a x o (some (.d u)) (some (.d w)) f, cs'⟩ ∧ cs'[3]? = some (.own (L ++ [bad])) ∧ (∀ i, i ≠ 3 → cs'[i]? = cs[i]?) := by
  refine ⟨_, app_m (i := 4) (k := 3) rfl h3 hg hl, ?_, fun i hi => ?_⟩
  · rw [List.getElem?_set_self (lt_of_some h3)]
  · rw [List.getElem?_set_ne (Ne.symm hi)]
theorem r_body {a x o u w : D} {f : Option Val} {L : List D} {cs : List Cell} (hu : Lt u) (hw : Lt w) (h3 : cs[3]? = some (.own L)) (h4 : cs[4]? = some (.own L)) (hl : L.length ≤ 100) :
    ∃ b cs' L', rBody ⟨rV a x o (some (.d u)) (some (.d w)) f, cs⟩ = .ok .nx ⟨rV a x o (some (.d u)) (some (.d w)) (some (.d (.bl b))), cs'⟩ ∧ cs'[3]? = some (.own L') ∧ cs'[4]? = some (.own L') ∧ cs'[0]? = cs[0]? ∧ (cs[5]?.isSome → cs'[5]? = cs[5]?) ∧ (∀ y ∈ L', y ∈ L ∨ y = bad) ∧ L'.length ≤ L.length + 5 := by
  have k1 := wbfr_lt hu
  have k2 := wbfr_lt hw
  have i0 : setS 8 (andE (callE (callV d__law_wb_is_fraction) [(varE 6)]) (callE (callV d__law_wb_is_fraction) [(varE 7)])) ⟨rV a x o (some (.d u)) (some (.d w)) f, cs⟩ = .ok .nx ⟨rV a x o (some (.d u)) (some (.d w)) (some (.d (.bl (isFr u && isFr w)))), cs⟩ := by
    cases e : isFr u
    · simp only [e_par, e_parK, e_asg, toD_d, e_nameT, e_consT, e_nilT, Option.bind_some, n_nx, n_ct, n_bk, n_ret, e_for, e_itE, e_itA, e_meth, ty_s, e_run1, e_run2, e_run3, e_run4, s_d1, s_d2, s_od, s_oo, s_o1, s_odd, s_t1, s_td, ic_d, ic_o, ic_t, ic_nil, e_argD, e_argDD, List.replicate, Nat.reduceSub, List.length_cons, List.length_nil, bind_ok, bind_exc, bind_bad, e_seq, th_nx, th_ret, th_exc, th_bk, th_ct, e_set, e_setK, e_ret, e_retK, e_drop, e_dropK, e_retN, e_next, e_brk, e_cnt, e_if, e_ifE, e_and, e_or, e_not, onB_t, onB_f, onB_b, e_var, e_varK, e_c, e_bin, e_un, e_call, e_nil, e_cons, e_tup, e_tupK, e_lst, e_lstK, e_newLst, toDs_nil, toDs_d, Option.map_some, e_callV, e_callVT, ar_nil, ar_cons, ar_d, ar_t, e_argKT, af_d, af_new, af_exc, up_nil, up_cons, end_ret, end_exc, end_nx, out_d, v_add, v_sub, v_neg, v_lt, v_le, v_gt, v_ge, v_eqI, v_neI, v_gcd, v_abs, v_max, v_int, v_lenT, v_lenL, List.getElem?_cons_zero, List.getElem?_cons_succ, List.set_cons_zero, List.set_cons_succ, List.take_zero, List.take_nil, Bool.false_eq_true, if_false, if_true, eq_self, decide_true, decide_false, Bool.not_true, Bool.not_false, Nat.reduceAdd, Nat.reduceLeDiff, Nat.reduceLT, List.nil_append, List.cons_append, rV, k1, e, Bool.false_and]
    · simp only [e_par, e_parK, e_asg, toD_d, e_nameT, e_consT, e_nilT, Option.bind_some, n_nx, n_ct, n_bk, n_ret, e_for, e_itE, e_itA, e_meth, ty_s, e_run1, e_run2, e_run3, e_run4, s_d1, s_d2, s_od, s_oo, s_o1, s_odd, s_t1, s_td, ic_d, ic_o, ic_t, ic_nil, e_argD, e_argDD, List.replicate, Nat.reduceSub, List.length_cons, List.length_nil, bind_ok, bind_exc, bind_bad, e_seq, th_nx, th_ret, th_exc, th_bk, th_ct, e_set, e_setK, e_ret, e_retK, e_drop, e_dropK, e_retN, e_next, e_brk, e_cnt, e_if, e_ifE, e_and, e_or, e_not, onB_t, onB_f, onB_b, e_var, e_varK, e_c, e_bin, e_un, e_call, e_nil, e_cons, e_tup, e_tupK, e_lst, e_lstK, e_newLst, toDs_nil, toDs_d, Option.map_some, e_callV, e_callVT, ar_nil, ar_cons, ar_d, ar_t, e_argKT, af_d, af_new, af_exc, up_nil, up_cons, end_ret, end_exc, end_nx, out_d, v_add, v_sub, v_neg, v_lt, v_le, v_gt, v_ge, v_eqI, v_neI, v_gcd, v_abs, v_max, v_int, v_lenT, v_lenL, List.getElem?_cons_zero, List.getElem?_cons_succ, List.set_cons_zero, List.set_cons_succ, List.take_zero, List.take_nil, Bool.false_eq_true, if_false, if_true, eq_self, decide_true, decide_false, Bool.not_true, Bool.not_false, Nat.reduceAdd, Nat.reduceLeDiff, Nat.reduceLT, List.nil_append, List.cons_append, rV, k1, k2, e, Bool.true_and]
  cases hb : (isFr u && isFr w)
  · rw [hb] at i0
    obtain ⟨c1, a1, b1, d1⟩ := app_s (a := a) (x := x) (o := o) (u := u) (w := w) (f := some (.d (.bl false))) h3 (by omega) (lam2 (i := 6) (j := 7) rfl rfl (by decide) (bad_plus hu.1 hw.1 hb))
    obtain ⟨c2, a2, b2, d2⟩ := app_s (a := a) (x := x) (o := o) (u := u) (w := w) (f := some (.d (.bl false))) b1 (by simp only [List.length_append, List.length_cons, List.length_nil]; omega) (lam2 (i := 6) (j := 7) rfl rfl (by decide) (bad_minus hu.1 hw.1 hb))
    obtain ⟨c3, a3, b3, d3⟩ := app_s (a := a) (x := x) (o := o) (u := u) (w := w) (f := some (.d (.bl false))) b2 (by simp only [List.length_append, List.length_cons, List.length_nil]; omega) (lam2 (i := 6) (j := 7) rfl rfl (by decide) (bad_times hu.1 hw.1 hb))
    obtain ⟨c4, a4, b4, d4⟩ := app_s (a := a) (x := x) (o := o) (u := u) (w := w) (f := some (.d (.bl false))) b3 (by simp only [List.length_append, List.length_cons, List.length_nil]; omega) (lam2 (i := 6) (j := 7) rfl rfl (by decide) (bad_over hu.1 hw.1 hb))
    obtain ⟨c5, a5, b5, d5⟩ := app_s (a := a) (x := x) (o := o) (u := u) (w := w) (f := some (.d (.bl false))) b4 (by simp only [List.length_append, List.length_cons, List.length_nil]; omega) (lam2 (i := 6) (j := 7) rfl rfl (by decide) (bad_below hu.1 hw.1 hb))
    have e : ∀ i, i ≠ 3 → c5[i]? = cs[i]? := fun i hi => by rw [d5 i hi, d4 i hi, d3 i hi, d2 i hi, d1 i hi]
    have h5 : c5[4]? = some (.own L) := by rw [e 4 (by decide), h4]
    have k5 := lt_of_some h5
    have fe : bin2 mulV (lstE [(tupE [(cE (.str "BadFraction")), (cE (.int 0))])]) (cE (.int 5)) ⟨rV a x o (some (.d u)) (some (.d w)) (some (.d (.bl false))), c5⟩ = .ok (.c (c5 ++ [Cell.own [bad]]).length) ⟨rV a x o (some (.d u)) (some (.d w)) (some (.d (.bl false))), c5 ++ [.own [bad]] ++ [.own [bad, bad, bad, bad, bad]]⟩ := by
      have e1 : lstE [(tupE [(cE (.str "BadFraction")), (cE (.int 0))])] ⟨rV a x o (some (.d u)) (some (.d w)) (some (.d (.bl false))), c5⟩ = .ok (.c c5.length) ⟨rV a x o (some (.d u)) (some (.d w)) (some (.d (.bl false))), c5 ++ [.own [bad]]⟩ := rfl
      have e2 : (c5 ++ [Cell.own [bad]])[c5.length]? = some (.own [bad]) := by rw [List.getElem?_append_right (Nat.le_refl _), Nat.sub_self]; rfl
      rw [e_bin, e1, bind_ok, e_c, bind_ok]
      unfold mulV lstOf
      simp only [e2, Option.map_some]
      rfl
    have e3 : (c5 ++ [Cell.own [bad]] ++ [Cell.own [bad, bad, bad, bad, bad]])[4]? = some (.own L) := by
      rw [List.getElem?_append_left (by rw [List.length_append]; omega), List.getElem?_append_left k5]; exact h5
    have e4 : (c5 ++ [Cell.own [bad]] ++ [Cell.own [bad, bad, bad, bad, bad]])[(c5 ++ [Cell.own [bad]]).length]? = some (.own [bad, bad, bad, bad, bad]) := by
      rw [List.getElem?_append_right (Nat.le_refl _), Nat.sub_self]; rfl
    have i6 := drop_m (st := ⟨rV a x o (some (.d u)) (some (.d w)) (some (.d (.bl false))), c5⟩) (st1 := ⟨rV a x o (some (.d u)) (some (.d w)) (some (.d (.bl false))), c5⟩) (fo := varE 5) (k := 4) (g := extV) rfl (by show (c5[4]?).isSome = true; rw [h5]; rfl) fe (v_extC e3 e4 (by show L.length + 5 ≤ _; omega))
    refine ⟨false, (c5 ++ [Cell.own [bad]] ++ [Cell.own [bad, bad, bad, bad, bad]]).set 4 (.own (L ++ [bad, bad, bad, bad, bad])), L ++ [bad, bad, bad, bad, bad], ?_, ?_, ?_, ?_, ?_, ?_, ?_⟩
    · unfold rBody
      rw [seq_nx i0, if_t (t := notE (varE 8)) (st1 := ⟨rV a x o (some (.d u)) (some (.d w)) (some (.d (.bl false))), cs⟩) rfl]
      rw [seq_nx a1, seq_nx a2, seq_nx a3, seq_nx a4, seq_nx a5, i6]
      rfl
    · rw [List.getElem?_set_ne (by decide), List.getElem?_append_left (by rw [List.length_append]; omega), List.getElem?_append_left (by omega), b5]
      simp
    · rw [List.getElem?_set_self (by rw [List.length_append, List.length_append]; omega)]
    · rw [List.getElem?_set_ne (by decide), List.getElem?_append_left (by rw [List.length_append]; omega), List.getElem?_append_left (by omega), e 0 (by decide)]
    · intro hs
      rw [← e 5 (by decide)] at hs
      have k6 : 5 < c5.length := by
        obtain ⟨z, hz⟩ := Option.isSome_iff_exists.mp hs
        exact lt_of_some hz
      rw [List.getElem?_set_ne (by decide), List.getElem?_append_left (by rw [List.length_append]; omega), List.getElem?_append_left k6, e 5 (by decide)]
    · intro y hy
      simp only [List.mem_append, List.mem_cons, List.not_mem_nil, or_false] at hy
      rcases hy with hy | hy
      · exact .inl hy
      · exact .inr (by rcases hy with h | h | h | h | h <;> exact h)
    · simp
  · rw [hb] at i0
    refine ⟨true, cs, L, ?_, h3, h4, rfl, fun _ => rfl, fun y hy => .inl hy, by omega⟩
    unfold rBody
    rw [seq_nx i0, if_f (t := notE (varE 8)) (st1 := ⟨rV a x o (some (.d u)) (some (.d w)) (some (.d (.bl true))), cs⟩) rfl]
    rfl
mutual
theorem beqD_rfl : ∀ x : D, beqD x x = true
  | .non => by simp [beqD]
  | .bl b => by simp [beqD]
  | .int i => by simp [beqD]
  | .str s => by simp [beqD]
  | .obj k => by simp [beqD]
  | .ty n => by simp [beqD]
  | .tup xs => by rw [beqD]; exact beqDs_rfl xs
  | .lst xs => by rw [beqD]; exact beqDs_rfl xs
  | .klst xs => by rw [beqD]; exact beqDs_rfl xs
theorem beqDs_rfl : ∀ xs : List D, beqDs xs xs = true
  | [] => by simp [beqDs]
  | x :: xs => by rw [beqDs, beqD_rfl x, beqDs_rfl xs]; rfl
end
theorem gd_own {n : Nat} {xs : List D} {vs : List (Option Val)} {cs : List Cell} (h : cs[n]? = some (.own xs)) : gdOk (some n) xs ⟨vs, cs⟩ = true := by
  unfold gdOk
  simp only [h]
  exact beqDs_rfl xs
theorem r_loop {a x o : D} (all : List D) : ∀ (its : List D) (l r f : Option Val) (L : List D) (cs : List Cell), (∀ y ∈ its, ∃ u w, y = .tup [u, w] ∧ Lt u ∧ Lt w) → cs[3]? = some (.own L) → cs[4]? = some (.own L) → cs[5]? = some (.own all) → L.length + 5 * its.length ≤ 40 →
    ∃ l' r' f' cs' L', forL (tupT 2 (consT (nameT 6) (consT (nameT 7) nilT))) rBody (some 5) all its ⟨rV a x o l r f, cs⟩ = .ok .nx ⟨rV a x o l' r' f', cs'⟩ ∧ cs'[3]? = some (.own L') ∧ cs'[4]? = some (.own L') ∧ cs'[0]? = cs[0]? ∧ (∀ y ∈ L', y ∈ L ∨ y = bad) ∧ L'.length ≤ 40
  | [], l, r, f, L, cs, _, h3, h4, h5, hl => ⟨l, r, f, cs, L, f_nil (gd_own h5), h3, h4, rfl, fun y hy => .inl hy, by simpa using hl⟩
  | y :: its, l, r, f, L, cs, hi, h3, h4, h5, hl => by
    obtain ⟨u, w, rfl, hu, hw⟩ := hi _ List.mem_cons_self
    simp only [List.length_cons] at hl
    obtain ⟨b, cs1, L1, e1, e2, e3, e4, e5, e6, e7⟩ := r_body (a := a) (x := x) (o := o) (f := f) hu hw h3 h4 (by omega)
    have h5' : cs1[5]? = some (.own all) := by rw [e5 (by rw [h5]; rfl), h5]
    obtain ⟨l', r', f', cs', L', g1, g2, g3, g4, g5, g6⟩ := r_loop (a := a) (x := x) (o := o) all its (some (.d u)) (some (.d w)) (some (.d (.bl b))) L1 cs1 (fun y hy => hi y (List.mem_cons_of_mem _ hy)) e2 e3 h5' (by omega)
    refine ⟨l', r', f', cs', L', ?_, g2, g3, by rw [g4, e4], fun y hy => ?_, g6⟩
    · rw [f_cons (st1 := ⟨rV a x o (some (.d u)) (some (.d w)) f, cs⟩) (gd_own h5) rfl, e1, n_nx, g1]
    · rcases g5 y hy with h | h
      · exact e6 y h
      · exact .inr h
def RL : List D := [.non, .tup [.int 2, .int 4], .tup [.int 1, .int 0], .lst [.int 1, .int 2], .tup [.bl true, .int 1]]
theorem rl_lt {y : D} (h : y ∈ RL) : Lt y := by
  unfold RL at h
  simp only [List.mem_cons, List.not_mem_nil, or_false] at h
  rcases h with rfl | rfl | rfl | rfl | rfl
  all_goals exact ⟨by decide +kernel, by decide +kernel, by decide +kernel⟩
theorem refused_ok {n : Nat} {J : List D} {a x : D} (h : Jr (n + 1) J) (ha : Lt a) (hx : Lt x) : ∃ J', d__law_a2_refused_right [.o J, .d a, .d x] = .ok (.d (.bl true)) [.own J'] ∧ Jr n J' := by
  have i1 : lstE [(cE .non), (tupE [(cE (.int 2)), (cE (.int 4))]), (tupE [(cE (.int 1)), (cE (.int 0))]), (lstE [(cE (.int 1)), (cE (.int 2))]), (tupE [(cE (.bl true)), (cE (.int 1))])] ⟨[some (.c 0), some (.d a), some (.d x), none, none, none, none, none, none], [.own J]⟩ = .ok (.c 2) ⟨[some (.c 0), some (.d a), some (.d x), none, none, none, none, none, none], [.own J, .frz [.int 1, .int 2], .own RL]⟩ := rfl
  obtain ⟨o, J1, m1, m2, m3⟩ := one_c (n := n) (i := 0) (j := 0) (k := 2) (vs := [some (.c 0), some (.d a), some (.d x), none, none, none, none, none, none]) rfl i1 rfl rfl (by decide) h (by decide) (by decide)
  have ho := rl_lt m2
  have l0 : Lt (.tup [.int 0, .int 1]) := ⟨by decide +kernel, by decide +kernel, by decide +kernel⟩
  rw [d__law_a2_refused_right, e_run3, s_odd]
  unfold m__law_a2_refused_right
  simp only [List.replicate, Nat.reduceSub]
  have i2 : setS 3 (callE (callV d__law_one) [(varE 0), (lstE [(cE .non), (tupE [(cE (.int 2)), (cE (.int 4))]), (tupE [(cE (.int 1)), (cE (.int 0))]), (lstE [(cE (.int 1)), (cE (.int 2))]), (tupE [(cE (.bl true)), (cE (.int 1))])])]) ⟨[some (.c 0), some (.d a), some (.d x), none, none, none, none, none, none], [.own J]⟩ = .ok .nx ⟨[some (.c 0), some (.d a), some (.d x), some (.d o), none, none, none, none, none], [.own J1, .frz [.int 1, .int 2], .own RL]⟩ := by
    rw [e_set, m1]; rfl
  rw [seq_nx i2]
  have i3 : parS 4 5 (lstE []) (lstE []) ⟨[some (.c 0), some (.d a), some (.d x), some (.d o), none, none, none, none, none], [.own J1, .frz [.int 1, .int 2], .own RL]⟩ = .ok .nx ⟨rV a x o none none none, [.own J1, .frz [.int 1, .int 2], .own RL, .own [], .own []]⟩ := rfl
  rw [seq_nx i3]
  have i4 : itE (lstE [(tupE [(varE 2), (varE 1)]), (tupE [(varE 1), (varE 2)]), (tupE [(varE 2), (varE 3)]), (tupE [(varE 2), (tupE [(cE (.int 0)), (cE (.int 1))])])]) ⟨rV a x o none none none, [.own J1, .frz [.int 1, .int 2], .own RL, .own [], .own []]⟩ =
      .ok ([.tup [x, a], .tup [a, x], .tup [x, o], .tup [x, .tup [.int 0, .int 1]]], some 5) ⟨rV a x o none none none, [.own J1, .frz [.int 1, .int 2], .own RL, .own [], .own [], .own [.tup [x, a], .tup [a, x], .tup [x, o], .tup [x, .tup [.int 0, .int 1]]]]⟩ := rfl
  have hi : ∀ y ∈ ([.tup [x, a], .tup [a, x], .tup [x, o], .tup [x, .tup [.int 0, .int 1]]] : List D), ∃ u w, y = .tup [u, w] ∧ Lt u ∧ Lt w := fun y hy => by
    simp only [List.mem_cons, List.not_mem_nil, or_false] at hy
    rcases hy with rfl | rfl | rfl | rfl
    · exact ⟨_, _, rfl, hx, ha⟩
    · exact ⟨_, _, rfl, ha, hx⟩
    · exact ⟨_, _, rfl, hx, ho⟩
    · exact ⟨_, _, rfl, hx, l0⟩
  obtain ⟨l', r', f', cs', L', g1, g2, g3, g4, g5, g6⟩ := r_loop (a := a) (x := x) (o := o) [.tup [x, a], .tup [a, x], .tup [x, o], .tup [x, .tup [.int 0, .int 1]]] _ none none none [] [.own J1, .frz [.int 1, .int 2], .own RL, .own [], .own [], .own [.tup [x, a], .tup [a, x], .tup [x, o], .tup [x, .tup [.int 0, .int 1]]]] hi rfl rfl rfl (by simp)
  have hL : ∀ y ∈ L', Hd y := fun y hy => by
    rcases g5 y hy with h | rfl
    · cases h
    · exact hd_b
  obtain ⟨G, Z⟩ := hds hL g6
  refine ⟨J1, ?_, m3⟩
  have i5 : forS (itE (lstE [(tupE [(varE 2), (varE 1)]), (tupE [(varE 1), (varE 2)]), (tupE [(varE 2), (varE 3)]), (tupE [(varE 2), (tupE [(cE (.int 0)), (cE (.int 1))])])])) (tupT 2 (consT (nameT 6) (consT (nameT 7) nilT))) rBody ⟨rV a x o none none none, [.own J1, .frz [.int 1, .int 2], .own RL, .own [], .own []]⟩ = .ok .nx ⟨rV a x o l' r' f', cs'⟩ := by
    rw [e_for, i4, bind_ok, g1]
  unfold rBody at i5
  rw [seq_nx i5]
  have i6 := same_cc (fa := varE 4) (fb := varE 5) (st := ⟨rV a x o l' r' f', cs'⟩) (vs := rV a x o l' r' f') (cs := cs') (k := 3) (j := 4) rfl rfl g2 g3 (by decide) G Z
  rw [e_ret, i6, bind_ok]
  have g7 : cs'[0]? = some (.own J1) := g4
  show RD.ok _ (((cs'.set 3 _).set 4 _).take 1) = _
  match cs', g7 with
  | c :: r, g7 =>
    have : c = .own J1 := by simpa using g7
    subst this; rfl
end Law
end
section
set_option Elab.async false
set_option linter.all false
set_option maxRecDepth 100000
set_option maxHeartbeats 4000000
set_option exponentiation.threshold 5000
namespace Law
open PySem Sh
def pBody : S → OS := (seqS (setS 4 (callE toIntV [(callE maxV [(bin2 ixV (varE 0) (varE 3)), (bin2 subV (un1 negV (cE (.int 1))) (bin2 ixV (varE 0) (varE 3)))])]))
  (seqS (setS 2 (bin2 modV (callE toIntV [(bin2 addV (bin2 addV (bin2 mulV (varE 2) (cE (.int 48271))) (bin2 modV (varE 4) (cE (.int 2147483629)))) (cE (.int 11)))]) (cE (.int 2147483647))))
  (setS 1 (ifE (andE (bin2 geV (varE 4) (bin2 powV (cE (.int 10)) (cE (.int 12)))) (bin2 ltV (varE 1) (bin2 powV (cE (.int 10)) (cE (.int 60))))) (callE toIntV [(bin2 addV (bin2 mulV (varE 1) (bin2 powV (cE (.int 10)) (cE (.int 60)))) (bin2 modV (varE 4) (bin2 powV (cE (.int 10)) (cE (.int 60)))))]) (varE 1)))))
theorem pw12 (st : S) : powV (.d (.int 10)) (.d (.int 12)) st = .ok (.d (.int 1000000000000)) st := rfl
theorem pw60 (st : S) : powV (.d (.int 10)) (.d (.int 60)) st = .ok (.d (.int 1000000000000000000000000000000000000000000000000000000000000)) st := rfl
theorem p_body {y0 : D} {j z a b : Int} {s4 : Option Val} (hz : ∀ st, ixV (.d y0) (.d (.int j)) st = .ok (.d (.int z)) st) (ha : 0 ≤ a) (hb : 0 ≤ b) (hb2 : b < 2147483647) :
    ∃ a' b' s4', pBody ⟨[some (.d y0), some (.d (.int a)), some (.d (.int b)), some (.d (.int j)), s4], []⟩ = .ok .nx ⟨[some (.d y0), some (.d (.int a')), some (.d (.int b')), some (.d (.int j)), s4'], []⟩ ∧ 0 ≤ a' ∧ 0 ≤ b' ∧ b' < 2147483647 := by
  generalize hc : (if -1 - z > z then -1 - z else z) = c
  have i1 : setS 4 (callE toIntV [(callE maxV [(bin2 ixV (varE 0) (varE 3)), (bin2 subV (un1 negV (cE (.int 1))) (bin2 ixV (varE 0) (varE 3)))])]) ⟨[some (.d y0), some (.d (.int a)), some (.d (.int b)), some (.d (.int j)), s4], []⟩ = .ok .nx ⟨[some (.d y0), some (.d (.int a)), some (.d (.int b)), some (.d (.int j)), some (.d (.int c))], []⟩ := by
    simp only [e_par, e_parK, e_asg, toD_d, e_nameT, e_consT, e_nilT, Option.bind_some, n_nx, n_ct, n_bk, n_ret, e_for, e_itE, e_itA, e_meth, ty_s, e_run1, e_run2, e_run3, e_run4, s_d1, s_d2, s_od, s_oo, s_o1, s_odd, s_t1, s_td, ic_d, ic_o, ic_t, ic_nil, e_argD, e_argDD, List.replicate, Nat.reduceSub, List.length_cons, List.length_nil, bind_ok, bind_exc, bind_bad, e_seq, th_nx, th_ret, th_exc, th_bk, th_ct, e_set, e_setK, e_ret, e_retK, e_drop, e_dropK, e_retN, e_next, e_brk, e_cnt, e_if, e_ifE, e_and, e_or, e_not, onB_t, onB_f, onB_b, e_var, e_varK, e_c, e_bin, e_un, e_call, e_nil, e_cons, e_tup, e_tupK, e_lst, e_lstK, e_newLst, toDs_nil, toDs_d, Option.map_some, e_callV, e_callVT, ar_nil, ar_cons, ar_d, ar_t, e_argKT, af_d, af_new, af_exc, up_nil, up_cons, end_ret, end_exc, end_nx, out_d, v_add, v_sub, v_neg, v_lt, v_le, v_gt, v_ge, v_eqI, v_neI, v_gcd, v_abs, v_max, v_int, v_lenT, v_lenL, List.getElem?_cons_zero, List.getElem?_cons_succ, List.set_cons_zero, List.set_cons_succ, List.take_zero, List.take_nil, Bool.false_eq_true, if_false, if_true, eq_self, decide_true, decide_false, Bool.not_true, Bool.not_false, Nat.reduceAdd, Nat.reduceLeDiff, Nat.reduceLT, List.nil_append, List.cons_append, hz]
    rw [← hc]
  have l1 : b.natAbs.log2 + (48271 : Int).natAbs.log2 < 1000000 := by
    have := log_lt (a := b) (n := 31) (by omega) (by decide)
    have := log_lt (a := 48271) (n := 31) (by decide) (by decide)
    omega
  generalize hB : (b * 48271 + c.fmod 2147483629 + 11).fmod 2147483647 = B
  have B0 : 0 ≤ B := by rw [← hB]; exact fmod_ge (by decide)
  have B1 : B < 2147483647 := by rw [← hB]; exact fmod_lt (by decide)
  have i2 : setS 2 (bin2 modV (callE toIntV [(bin2 addV (bin2 addV (bin2 mulV (varE 2) (cE (.int 48271))) (bin2 modV (varE 4) (cE (.int 2147483629)))) (cE (.int 11)))]) (cE (.int 2147483647))) ⟨[some (.d y0), some (.d (.int a)), some (.d (.int b)), some (.d (.int j)), some (.d (.int c))], []⟩ = .ok .nx ⟨[some (.d y0), some (.d (.int a)), some (.d (.int B)), some (.d (.int j)), some (.d (.int c))], []⟩ := by
    simp only [e_par, e_parK, e_asg, toD_d, e_nameT, e_consT, e_nilT, Option.bind_some, n_nx, n_ct, n_bk, n_ret, e_for, e_itE, e_itA, e_meth, ty_s, e_run1, e_run2, e_run3, e_run4, s_d1, s_d2, s_od, s_oo, s_o1, s_odd, s_t1, s_td, ic_d, ic_o, ic_t, ic_nil, e_argD, e_argDD, List.replicate, Nat.reduceSub, List.length_cons, List.length_nil, bind_ok, bind_exc, bind_bad, e_seq, th_nx, th_ret, th_exc, th_bk, th_ct, e_set, e_setK, e_ret, e_retK, e_drop, e_dropK, e_retN, e_next, e_brk, e_cnt, e_if, e_ifE, e_and, e_or, e_not, onB_t, onB_f, onB_b, e_var, e_varK, e_c, e_bin, e_un, e_call, e_nil, e_cons, e_tup, e_tupK, e_lst, e_lstK, e_newLst, toDs_nil, toDs_d, Option.map_some, e_callV, e_callVT, ar_nil, ar_cons, ar_d, ar_t, e_argKT, af_d, af_new, af_exc, up_nil, up_cons, end_ret, end_exc, end_nx, out_d, v_add, v_sub, v_neg, v_lt, v_le, v_gt, v_ge, v_eqI, v_neI, v_gcd, v_abs, v_max, v_int, v_lenT, v_lenL, List.getElem?_cons_zero, List.getElem?_cons_succ, List.set_cons_zero, List.set_cons_succ, List.take_zero, List.take_nil, Bool.false_eq_true, if_false, if_true, eq_self, decide_true, decide_false, Bool.not_true, Bool.not_false, Nat.reduceAdd, Nat.reduceLeDiff, Nat.reduceLT, List.nil_append, List.cons_append]
    rw [Sh.v_mul l1]; simp only [e_par, e_parK, e_asg, toD_d, e_nameT, e_consT, e_nilT, Option.bind_some, n_nx, n_ct, n_bk, n_ret, e_for, e_itE, e_itA, e_meth, ty_s, e_run1, e_run2, e_run3, e_run4, s_d1, s_d2, s_od, s_oo, s_o1, s_odd, s_t1, s_td, ic_d, ic_o, ic_t, ic_nil, e_argD, e_argDD, List.replicate, Nat.reduceSub, List.length_cons, List.length_nil, bind_ok, bind_exc, bind_bad, e_seq, th_nx, th_ret, th_exc, th_bk, th_ct, e_set, e_setK, e_ret, e_retK, e_drop, e_dropK, e_retN, e_next, e_brk, e_cnt, e_if, e_ifE, e_and, e_or, e_not, onB_t, onB_f, onB_b, e_var, e_varK, e_c, e_bin, e_un, e_call, e_nil, e_cons, e_tup, e_tupK, e_lst, e_lstK, e_newLst, toDs_nil, toDs_d, Option.map_some, e_callV, e_callVT, ar_nil, ar_cons, ar_d, ar_t, e_argKT, af_d, af_new, af_exc, up_nil, up_cons, end_ret, end_exc, end_nx, out_d, v_add, v_sub, v_neg, v_lt, v_le, v_gt, v_ge, v_eqI, v_neI, v_gcd, v_abs, v_max, v_int, v_lenT, v_lenL, List.getElem?_cons_zero, List.getElem?_cons_succ, List.set_cons_zero, List.set_cons_succ, List.take_zero, List.take_nil, Bool.false_eq_true, if_false, if_true, eq_self, decide_true, decide_false, Bool.not_true, Bool.not_false, Nat.reduceAdd, Nat.reduceLeDiff, Nat.reduceLT, List.nil_append, List.cons_append]
    rw [Sh.v_mod (by decide)]; simp only [e_par, e_parK, e_asg, toD_d, e_nameT, e_consT, e_nilT, Option.bind_some, n_nx, n_ct, n_bk, n_ret, e_for, e_itE, e_itA, e_meth, ty_s, e_run1, e_run2, e_run3, e_run4, s_d1, s_d2, s_od, s_oo, s_o1, s_odd, s_t1, s_td, ic_d, ic_o, ic_t, ic_nil, e_argD, e_argDD, List.replicate, Nat.reduceSub, List.length_cons, List.length_nil, bind_ok, bind_exc, bind_bad, e_seq, th_nx, th_ret, th_exc, th_bk, th_ct, e_set, e_setK, e_ret, e_retK, e_drop, e_dropK, e_retN, e_next, e_brk, e_cnt, e_if, e_ifE, e_and, e_or, e_not, onB_t, onB_f, onB_b, e_var, e_varK, e_c, e_bin, e_un, e_call, e_nil, e_cons, e_tup, e_tupK, e_lst, e_lstK, e_newLst, toDs_nil, toDs_d, Option.map_some, e_callV, e_callVT, ar_nil, ar_cons, ar_d, ar_t, e_argKT, af_d, af_new, af_exc, up_nil, up_cons, end_ret, end_exc, end_nx, out_d, v_add, v_sub, v_neg, v_lt, v_le, v_gt, v_ge, v_eqI, v_neI, v_gcd, v_abs, v_max, v_int, v_lenT, v_lenL, List.getElem?_cons_zero, List.getElem?_cons_succ, List.set_cons_zero, List.set_cons_succ, List.take_zero, List.take_nil, Bool.false_eq_true, if_false, if_true, eq_self, decide_true, decide_false, Bool.not_true, Bool.not_false, Nat.reduceAdd, Nat.reduceLeDiff, Nat.reduceLT, List.nil_append, List.cons_append]
    rw [Sh.v_mod (by decide), hB]; simp only [e_par, e_parK, e_asg, toD_d, e_nameT, e_consT, e_nilT, Option.bind_some, n_nx, n_ct, n_bk, n_ret, e_for, e_itE, e_itA, e_meth, ty_s, e_run1, e_run2, e_run3, e_run4, s_d1, s_d2, s_od, s_oo, s_o1, s_odd, s_t1, s_td, ic_d, ic_o, ic_t, ic_nil, e_argD, e_argDD, List.replicate, Nat.reduceSub, List.length_cons, List.length_nil, bind_ok, bind_exc, bind_bad, e_seq, th_nx, th_ret, th_exc, th_bk, th_ct, e_set, e_setK, e_ret, e_retK, e_drop, e_dropK, e_retN, e_next, e_brk, e_cnt, e_if, e_ifE, e_and, e_or, e_not, onB_t, onB_f, onB_b, e_var, e_varK, e_c, e_bin, e_un, e_call, e_nil, e_cons, e_tup, e_tupK, e_lst, e_lstK, e_newLst, toDs_nil, toDs_d, Option.map_some, e_callV, e_callVT, ar_nil, ar_cons, ar_d, ar_t, e_argKT, af_d, af_new, af_exc, up_nil, up_cons, end_ret, end_exc, end_nx, out_d, v_add, v_sub, v_neg, v_lt, v_le, v_gt, v_ge, v_eqI, v_neI, v_gcd, v_abs, v_max, v_int, v_lenT, v_lenL, List.getElem?_cons_zero, List.getElem?_cons_succ, List.set_cons_zero, List.set_cons_succ, List.take_zero, List.take_nil, Bool.false_eq_true, if_false, if_true, eq_self, decide_true, decide_false, Bool.not_true, Bool.not_false, Nat.reduceAdd, Nat.reduceLeDiff, Nat.reduceLT, List.nil_append, List.cons_append]
  generalize hE : (1000000000000000000000000000000000000000000000000000000000000 : Int) = E
  have E0 : 0 < E := by rw [← hE]; decide
  have E1 : E.natAbs.log2 < 200 := by rw [← hE]; exact log_lt (by decide) (by decide)
  have pE : ∀ st, powV (.d (.int 10)) (.d (.int 60)) st = .ok (.d (.int E)) st := fun st => by rw [← hE]; exact pw60 st
  obtain ⟨a', h1, h2⟩ : ∃ a', setS 1 (ifE (andE (bin2 geV (varE 4) (bin2 powV (cE (.int 10)) (cE (.int 12)))) (bin2 ltV (varE 1) (bin2 powV (cE (.int 10)) (cE (.int 60))))) (callE toIntV [(bin2 addV (bin2 mulV (varE 1) (bin2 powV (cE (.int 10)) (cE (.int 60)))) (bin2 modV (varE 4) (bin2 powV (cE (.int 10)) (cE (.int 60)))))]) (varE 1)) ⟨[some (.d y0), some (.d (.int a)), some (.d (.int B)), some (.d (.int j)), some (.d (.int c))], []⟩ = .ok .nx ⟨[some (.d y0), some (.d (.int a')), some (.d (.int B)), some (.d (.int j)), some (.d (.int c))], []⟩ ∧ 0 ≤ a' := by
    by_cases c1 : (1000000000000 : Int) ≤ c
    · by_cases c2 : a < E
      · have la : a.natAbs.log2 < 200 := by
          apply log_lt
          · have : a.natAbs < E.natAbs := by omega
            have e3 : E.natAbs < 2 ^ 200 := by rw [← hE]; decide
            omega
          · decide
        have lm : a.natAbs.log2 + E.natAbs.log2 < 1000000 := by omega
        refine ⟨a * E + c.fmod E, ?_, ?_⟩
        · simp only [e_par, e_parK, e_asg, toD_d, e_nameT, e_consT, e_nilT, Option.bind_some, n_nx, n_ct, n_bk, n_ret, e_for, e_itE, e_itA, e_meth, ty_s, e_run1, e_run2, e_run3, e_run4, s_d1, s_d2, s_od, s_oo, s_o1, s_odd, s_t1, s_td, ic_d, ic_o, ic_t, ic_nil, e_argD, e_argDD, List.replicate, Nat.reduceSub, List.length_cons, List.length_nil, bind_ok, bind_exc, bind_bad, e_seq, th_nx, th_ret, th_exc, th_bk, th_ct, e_set, e_setK, e_ret, e_retK, e_drop, e_dropK, e_retN, e_next, e_brk, e_cnt, e_if, e_ifE, e_and, e_or, e_not, onB_t, onB_f, onB_b, e_var, e_varK, e_c, e_bin, e_un, e_call, e_nil, e_cons, e_tup, e_tupK, e_lst, e_lstK, e_newLst, toDs_nil, toDs_d, Option.map_some, e_callV, e_callVT, ar_nil, ar_cons, ar_d, ar_t, e_argKT, af_d, af_new, af_exc, up_nil, up_cons, end_ret, end_exc, end_nx, out_d, v_add, v_sub, v_neg, v_lt, v_le, v_gt, v_ge, v_eqI, v_neI, v_gcd, v_abs, v_max, v_int, v_lenT, v_lenL, List.getElem?_cons_zero, List.getElem?_cons_succ, List.set_cons_zero, List.set_cons_succ, List.take_zero, List.take_nil, Bool.false_eq_true, if_false, if_true, eq_self, decide_true, decide_false, Bool.not_true, Bool.not_false, Nat.reduceAdd, Nat.reduceLeDiff, Nat.reduceLT, List.nil_append, List.cons_append, pw12, pE, c1, c2]
          rw [Sh.v_mul lm]; simp only [e_par, e_parK, e_asg, toD_d, e_nameT, e_consT, e_nilT, Option.bind_some, n_nx, n_ct, n_bk, n_ret, e_for, e_itE, e_itA, e_meth, ty_s, e_run1, e_run2, e_run3, e_run4, s_d1, s_d2, s_od, s_oo, s_o1, s_odd, s_t1, s_td, ic_d, ic_o, ic_t, ic_nil, e_argD, e_argDD, List.replicate, Nat.reduceSub, List.length_cons, List.length_nil, bind_ok, bind_exc, bind_bad, e_seq, th_nx, th_ret, th_exc, th_bk, th_ct, e_set, e_setK, e_ret, e_retK, e_drop, e_dropK, e_retN, e_next, e_brk, e_cnt, e_if, e_ifE, e_and, e_or, e_not, onB_t, onB_f, onB_b, e_var, e_varK, e_c, e_bin, e_un, e_call, e_nil, e_cons, e_tup, e_tupK, e_lst, e_lstK, e_newLst, toDs_nil, toDs_d, Option.map_some, e_callV, e_callVT, ar_nil, ar_cons, ar_d, ar_t, e_argKT, af_d, af_new, af_exc, up_nil, up_cons, end_ret, end_exc, end_nx, out_d, v_add, v_sub, v_neg, v_lt, v_le, v_gt, v_ge, v_eqI, v_neI, v_gcd, v_abs, v_max, v_int, v_lenT, v_lenL, List.getElem?_cons_zero, List.getElem?_cons_succ, List.set_cons_zero, List.set_cons_succ, List.take_zero, List.take_nil, Bool.false_eq_true, if_false, if_true, eq_self, decide_true, decide_false, Bool.not_true, Bool.not_false, Nat.reduceAdd, Nat.reduceLeDiff, Nat.reduceLT, List.nil_append, List.cons_append, pE]
          rw [Sh.v_mod (by omega)]; simp only [e_par, e_parK, e_asg, toD_d, e_nameT, e_consT, e_nilT, Option.bind_some, n_nx, n_ct, n_bk, n_ret, e_for, e_itE, e_itA, e_meth, ty_s, e_run1, e_run2, e_run3, e_run4, s_d1, s_d2, s_od, s_oo, s_o1, s_odd, s_t1, s_td, ic_d, ic_o, ic_t, ic_nil, e_argD, e_argDD, List.replicate, Nat.reduceSub, List.length_cons, List.length_nil, bind_ok, bind_exc, bind_bad, e_seq, th_nx, th_ret, th_exc, th_bk, th_ct, e_set, e_setK, e_ret, e_retK, e_drop, e_dropK, e_retN, e_next, e_brk, e_cnt, e_if, e_ifE, e_and, e_or, e_not, onB_t, onB_f, onB_b, e_var, e_varK, e_c, e_bin, e_un, e_call, e_nil, e_cons, e_tup, e_tupK, e_lst, e_lstK, e_newLst, toDs_nil, toDs_d, Option.map_some, e_callV, e_callVT, ar_nil, ar_cons, ar_d, ar_t, e_argKT, af_d, af_new, af_exc, up_nil, up_cons, end_ret, end_exc, end_nx, out_d, v_add, v_sub, v_neg, v_lt, v_le, v_gt, v_ge, v_eqI, v_neI, v_gcd, v_abs, v_max, v_int, v_lenT, v_lenL, List.getElem?_cons_zero, List.getElem?_cons_succ, List.set_cons_zero, List.set_cons_succ, List.take_zero, List.take_nil, Bool.false_eq_true, if_false, if_true, eq_self, decide_true, decide_false, Bool.not_true, Bool.not_false, Nat.reduceAdd, Nat.reduceLeDiff, Nat.reduceLT, List.nil_append, List.cons_append]
        · have := fmod_ge (a := c) E0
          have := Int.mul_nonneg ha (Int.le_of_lt E0)
          omega
      · exact ⟨a, by simp only [e_par, e_parK, e_asg, toD_d, e_nameT, e_consT, e_nilT, Option.bind_some, n_nx, n_ct, n_bk, n_ret, e_for, e_itE, e_itA, e_meth, ty_s, e_run1, e_run2, e_run3, e_run4, s_d1, s_d2, s_od, s_oo, s_o1, s_odd, s_t1, s_td, ic_d, ic_o, ic_t, ic_nil, e_argD, e_argDD, List.replicate, Nat.reduceSub, List.length_cons, List.length_nil, bind_ok, bind_exc, bind_bad, e_seq, th_nx, th_ret, th_exc, th_bk, th_ct, e_set, e_setK, e_ret, e_retK, e_drop, e_dropK, e_retN, e_next, e_brk, e_cnt, e_if, e_ifE, e_and, e_or, e_not, onB_t, onB_f, onB_b, e_var, e_varK, e_c, e_bin, e_un, e_call, e_nil, e_cons, e_tup, e_tupK, e_lst, e_lstK, e_newLst, toDs_nil, toDs_d, Option.map_some, e_callV, e_callVT, ar_nil, ar_cons, ar_d, ar_t, e_argKT, af_d, af_new, af_exc, up_nil, up_cons, end_ret, end_exc, end_nx, out_d, v_add, v_sub, v_neg, v_lt, v_le, v_gt, v_ge, v_eqI, v_neI, v_gcd, v_abs, v_max, v_int, v_lenT, v_lenL, List.getElem?_cons_zero, List.getElem?_cons_succ, List.set_cons_zero, List.set_cons_succ, List.take_zero, List.take_nil, Bool.false_eq_true, if_false, if_true, eq_self, decide_true, decide_false, Bool.not_true, Bool.not_false, Nat.reduceAdd, Nat.reduceLeDiff, Nat.reduceLT, List.nil_append, List.cons_append, pw12, pE, c1, c2], ha⟩
    · exact ⟨a, by simp only [e_par, e_parK, e_asg, toD_d, e_nameT, e_consT, e_nilT, Option.bind_some, n_nx, n_ct, n_bk, n_ret, e_for, e_itE, e_itA, e_meth, ty_s, e_run1, e_run2, e_run3, e_run4, s_d1, s_d2, s_od, s_oo, s_o1, s_odd, s_t1, s_td, ic_d, ic_o, ic_t, ic_nil, e_argD, e_argDD, List.replicate, Nat.reduceSub, List.length_cons, List.length_nil, bind_ok, bind_exc, bind_bad, e_seq, th_nx, th_ret, th_exc, th_bk, th_ct, e_set, e_setK, e_ret, e_retK, e_drop, e_dropK, e_retN, e_next, e_brk, e_cnt, e_if, e_ifE, e_and, e_or, e_not, onB_t, onB_f, onB_b, e_var, e_varK, e_c, e_bin, e_un, e_call, e_nil, e_cons, e_tup, e_tupK, e_lst, e_lstK, e_newLst, toDs_nil, toDs_d, Option.map_some, e_callV, e_callVT, ar_nil, ar_cons, ar_d, ar_t, e_argKT, af_d, af_new, af_exc, up_nil, up_cons, end_ret, end_exc, end_nx, out_d, v_add, v_sub, v_neg, v_lt, v_le, v_gt, v_ge, v_eqI, v_neI, v_gcd, v_abs, v_max, v_int, v_lenT, v_lenL, List.getElem?_cons_zero, List.getElem?_cons_succ, List.set_cons_zero, List.set_cons_succ, List.take_zero, List.take_nil, Bool.false_eq_true, if_false, if_true, eq_self, decide_true, decide_false, Bool.not_true, Bool.not_false, Nat.reduceAdd, Nat.reduceLeDiff, Nat.reduceLT, List.nil_append, List.cons_append, pw12, c1], ha⟩
  refine ⟨a', B, some (.d (.int c)), ?_, h2, B0, B1⟩
  unfold pBody
  rw [seq_nx i1, seq_nx i2, h1]
theorem p_loop {y0 : D} {all : List D} : ∀ (its : List D) (a b : Int) (s3 s4 : Option Val), (∀ y ∈ its, ∃ j z : Int, y = .int j ∧ ∀ st, ixV (.d y0) (.d (.int j)) st = .ok (.d (.int z)) st) → 0 ≤ a → 0 ≤ b → b < 2147483647 →
    ∃ a' b' s3' s4', forL (nameT 3) pBody none all its ⟨[some (.d y0), some (.d (.int a)), some (.d (.int b)), s3, s4], []⟩ = .ok .nx ⟨[some (.d y0), some (.d (.int a')), some (.d (.int b')), s3', s4'], []⟩ ∧ 0 ≤ a' ∧ 0 ≤ b' ∧ b' < 2147483647
  | [], a, b, s3, s4, _, ha, hb, hb2 => ⟨a, b, s3, s4, f_nil gd_none, ha, hb, hb2⟩
  | y :: its, a, b, s3, s4, hi, ha, hb, hb2 => by
    obtain ⟨j, z, rfl, hz⟩ := hi _ List.mem_cons_self
    obtain ⟨a1, b1, s41, e1, e2, e3, e4⟩ := p_body (s4 := s4) hz ha hb hb2
    obtain ⟨a', b', s3', s4', g1, g2⟩ := p_loop (y0 := y0) (all := all) its a1 b1 (some (.d (.int j))) s41 (fun y hy => hi y (List.mem_cons_of_mem _ hy)) e2 e3 e4
    refine ⟨a', b', s3', s4', ?_, g2⟩
    rw [f_cons (st1 := ⟨[some (.d y0), some (.d (.int a)), some (.d (.int b)), some (.d (.int j)), s4], []⟩) gd_none e_nameT, e1, n_nx, g1]
theorem pool_ok {ns : List Int} (hn : ns.length ≤ 63) {y : D} (hy : y = .lst (ns.map D.int) ∨ y = .klst (ns.map D.int)) : ∃ J, d__law_pool [.d y] = .ok (.new J) [] ∧ Jr 100000 J := by
  have ln : ∀ st, lenV [.d y] st = .ok (.d (.int ((ns.map D.int).length))) st := fun st => by rcases hy with rfl | rfl <;> rfl
  have ll : (ns.map D.int).length = ns.length := List.length_map _
  have ix : ∀ (j : Nat) (h : j < ns.length) st, ixV (.d y) (.d (.int j)) st = .ok (.d (.int ns[j])) st := fun j h st => by
    have e : L2.atI (ns.map D.int) (j : Int) = some (D.int ns[j]) := by
      rw [atI_nat (by rw [ll]; exact h), List.getElem_map]
    rcases hy with rfl | rfl
    · unfold ixV seqOf; simp only [e]
    · unfold ixV seqOf; simp only [e]
  have e0 : itA rng1V [(callE lenV [(varE 0)])] ⟨[some (.d y), some (.d (.int 0)), some (.d (.int 7)), none, none], []⟩ = .ok (rngL 0 (ns.map D.int).length, none) ⟨[some (.d y), some (.d (.int 0)), some (.d (.int 7)), none, none], []⟩ :=
    e_rngL (by simp only [e_par, e_parK, e_asg, toD_d, e_nameT, e_consT, e_nilT, Option.bind_some, n_nx, n_ct, n_bk, n_ret, e_for, e_itE, e_itA, e_meth, ty_s, e_run1, e_run2, e_run3, e_run4, s_d1, s_d2, s_od, s_oo, s_o1, s_odd, s_t1, s_td, ic_d, ic_o, ic_t, ic_nil, e_argD, e_argDD, List.replicate, Nat.reduceSub, List.length_cons, List.length_nil, bind_ok, bind_exc, bind_bad, e_seq, th_nx, th_ret, th_exc, th_bk, th_ct, e_set, e_setK, e_ret, e_retK, e_drop, e_dropK, e_retN, e_next, e_brk, e_cnt, e_if, e_ifE, e_and, e_or, e_not, onB_t, onB_f, onB_b, e_var, e_varK, e_c, e_bin, e_un, e_call, e_nil, e_cons, e_tup, e_tupK, e_lst, e_lstK, e_newLst, toDs_nil, toDs_d, Option.map_some, e_callV, e_callVT, ar_nil, ar_cons, ar_d, ar_t, e_argKT, af_d, af_new, af_exc, up_nil, up_cons, end_ret, end_exc, end_nx, out_d, v_add, v_sub, v_neg, v_lt, v_le, v_gt, v_ge, v_eqI, v_neI, v_gcd, v_abs, v_max, v_int, v_lenT, v_lenL, List.getElem?_cons_zero, List.getElem?_cons_succ, List.set_cons_zero, List.set_cons_succ, List.take_zero, List.take_nil, Bool.false_eq_true, if_false, if_true, eq_self, decide_true, decide_false, Bool.not_true, Bool.not_false, Nat.reduceAdd, Nat.reduceLeDiff, Nat.reduceLT, List.nil_append, List.cons_append, ln]) (bgl (by rw [ll]; omega))
  have hi : ∀ w ∈ rngL 0 (ns.map D.int).length, ∃ j z : Int, w = .int j ∧ ∀ st, ixV (.d y) (.d (.int j)) st = .ok (.d (.int z)) st := fun w hw => by
    unfold rngL at hw
    obtain ⟨j, hj, rfl⟩ := List.mem_map.mp hw
    rw [List.mem_range, ll] at hj
    exact ⟨j, ns[j], by simp, fun st => ix j hj st⟩
  obtain ⟨a', b', s3', s4', g1, g2, g3, g4⟩ := p_loop (all := rngL 0 (ns.map D.int).length) _ 0 7 none none hi (by decide) (by decide) (by decide)
  generalize rngL 0 (ns.map D.int).length = R at *
  refine ⟨[.int a', .int b', .int 0], ?_, a', b', 0, rfl, g3, g4, by decide, by decide⟩
  rw [d__law_pool, e_run1, s_d1]
  unfold m__law_pool
  simp only [List.replicate, Nat.reduceSub]
  have i0 : asgS (tupT 2 (consT (nameT 1) (consT (nameT 2) nilT))) (tupE [(cE (.int 0)), (cE (.int 7))]) ⟨[some (.d y), none, none, none, none], []⟩ = .ok .nx ⟨[some (.d y), some (.d (.int 0)), some (.d (.int 7)), none, none], []⟩ := rfl
  rw [seq_nx i0]
  have i1 : forS (itA rng1V [(callE lenV [(varE 0)])]) (nameT 3) pBody ⟨[some (.d y), some (.d (.int 0)), some (.d (.int 7)), none, none], []⟩ = .ok .nx ⟨[some (.d y), some (.d (.int a')), some (.d (.int b')), s3', s4'], []⟩ := by
    rw [e_for, e0, bind_ok]
    exact g1
  unfold pBody at i1
  rw [seq_nx i1]
  rfl
end Law
end
section
set_option Elab.async false
set_option linter.all false
set_option maxRecDepth 100000
set_option maxHeartbeats 4000000
set_option exponentiation.threshold 5000
namespace Law
open PySem Sh
/-! ### the law's inner loops -/
theorem Fq.lt {B : Nat} {p q : Int} (h : Fq B p q) (l : B ≤ 4000) : Lt (fr p q) := Lt.fr (h.up l).bp (h.up l).bq
abbrev lV (y : D) (i : Option Val) (a b e : D) (k : Nat) (l r t : Option Val) : List (Option Val) := [some (.d y), some (.c 0), i, some (.d a), some (.d b), some (.d e), some (.c k), l, r, t, none, none, none]
def qBody : S → OS := ifS (notE (callE (callV d__law_a2_pair_right) [(varE 7), (varE 8)])) (retS (cE (.bl false))) nextS
theorem q_loop {y a b e : D} {k : Nat} {i t : Option Val} {cs : List Cell} (all : List D) (hk : cs[k]? = some (.own all)) : ∀ (its : List D) (l r : Option Val), (∀ z ∈ its, ∃ p q s u, z = .tup [fr p q, fr s u] ∧ Fq 1900 p q ∧ Fq 1900 s u) →
    ∃ l' r', forL (tupT 2 (consT (nameT 7) (consT (nameT 8) nilT))) qBody (some k) all its ⟨lV y i a b e k l r t, cs⟩ = .ok .nx ⟨lV y i a b e k l' r' t, cs⟩
  | [], l, r, _ => ⟨l, r, f_nil (gd_own hk)⟩
  | z :: its, l, r, hi => by
    obtain ⟨p, q, s, u, rfl, h1, h2⟩ := hi _ List.mem_cons_self
    obtain ⟨l', r', g⟩ := q_loop (y := y) (a := a) (b := b) (e := e) (i := i) (t := t) all hk its (some (.d (fr p q))) (some (.d (fr s u))) (fun z hz => hi z (List.mem_cons_of_mem _ hz))
    refine ⟨l', r', ?_⟩
    have c : callE (callV d__law_a2_pair_right) [(varE 7), (varE 8)] ⟨lV y i a b e k (some (.d (fr p q))) (some (.d (fr s u))) t, cs⟩ = .ok (.d (.bl true)) ⟨lV y i a b e k (some (.d (fr p q))) (some (.d (fr s u))) t, cs⟩ := by
      rw [call2 (a := fr p q) (b := fr s u) rfl rfl, pair_ok h1 h2, af_d, up_nil]
    have bd : qBody ⟨lV y i a b e k (some (.d (fr p q))) (some (.d (fr s u))) t, cs⟩ = .ok .nx ⟨lV y i a b e k (some (.d (fr p q))) (some (.d (fr s u))) t, cs⟩ := by
      unfold qBody
      rw [if_f (t := notE (callE (callV d__law_a2_pair_right) [(varE 7), (varE 8)])) (st1 := ⟨lV y i a b e k (some (.d (fr p q))) (some (.d (fr s u))) t, cs⟩) (by rw [e_not, c, bind_ok]; rfl)]
      rfl
    rw [f_cons (st1 := ⟨lV y i a b e k (some (.d (fr p q))) (some (.d (fr s u))) t, cs⟩) (gd_own hk) rfl, bd, n_nx, g]
def uBody : S → OS := ifS (orE (notE (callE (callV d__law_a2_thing_right) [(varE 9)])) (notE (callE (callV d__law_a2_refused_right) [(varE 1), (varE 4), (varE 9)]))) (retS (cE (.bl false))) nextS
theorem u_loop {y a b e : D} {k kk : Nat} {i l r : Option Val} (hb : Lt b) (all : List D) (k0 : kk ≠ 0) : ∀ (its : List D) (n : Nat) (t : Option Val) (J : List D) (cs : List Cell), (∀ z ∈ its, Lt z) → cs[0]? = some (.own J) → cs[kk]? = some (.own all) → Jr (n + its.length) J →
    ∃ t' J' cs', forL (nameT 9) uBody (some kk) all its ⟨lV y i a b e k l r t, cs⟩ = .ok .nx ⟨lV y i a b e k l r t', cs'⟩ ∧ cs'[0]? = some (.own J') ∧ Jr n J'
  | [], n, t, J, cs, _, h0, hk, hj => ⟨t, J, cs, f_nil (gd_own hk), h0, hj⟩
  | z :: its, n, t, J, cs, hi, h0, hk, hj => by
    have hz := hi _ List.mem_cons_self
    obtain ⟨J1, e1, e2⟩ := refused_ok (n := n + its.length) (a := b) (x := z) hj hb hz
    have c1 : callE (callV d__law_a2_thing_right) [(varE 9)] ⟨lV y i a b e k l r (some (.d z)), cs⟩ = .ok (.d (.bl true)) ⟨lV y i a b e k l r (some (.d z)), cs⟩ := by
      rw [call1 (a := z) rfl, thing_ok hz, af_d, up_nil]
    have c2 : callE (callV d__law_a2_refused_right) [(varE 1), (varE 4), (varE 9)] ⟨lV y i a b e k l r (some (.d z)), cs⟩ = .ok (.d (.bl true)) ⟨lV y i a b e k l r (some (.d z)), cs.set 0 (.own J1)⟩ := by
      have q : consA (.c 0) ⟨lV y i a b e k l r (some (.d z)), cs⟩ (some ([.d b, .d z], [])) = some ([.o J, .d b, .d z], [0]) := by
        unfold consA; simp only [h0]; rfl
      have v1 : varE 1 ⟨lV y i a b e k l r (some (.d z)), cs⟩ = .ok (.c 0) ⟨lV y i a b e k l r (some (.d z)), cs⟩ := rfl
      have v4 : varE 4 ⟨lV y i a b e k l r (some (.d z)), cs⟩ = .ok (.d b) ⟨lV y i a b e k l r (some (.d z)), cs⟩ := rfl
      have v9 : varE 9 ⟨lV y i a b e k l r (some (.d z)), cs⟩ = .ok (.d z) ⟨lV y i a b e k l r (some (.d z)), cs⟩ := rfl
      rw [e_call, e_cons, v1, bind_ok, e_cons, v4, bind_ok, e_cons, v9, bind_ok, e_nil, bind_ok, bind_ok, bind_ok, bind_ok, e_callV, ar_cons, ar_cons, ar_cons, ar_nil, ar_d, ar_d, q, e_argK rfl, e1, af_d, up_cons, up_nil]
    have bd : uBody ⟨lV y i a b e k l r (some (.d z)), cs⟩ = .ok .nx ⟨lV y i a b e k l r (some (.d z)), cs.set 0 (.own J1)⟩ := by
      unfold uBody
      rw [if_f (t := orE (notE (callE (callV d__law_a2_thing_right) [(varE 9)])) (notE (callE (callV d__law_a2_refused_right) [(varE 1), (varE 4), (varE 9)]))) (st1 := ⟨lV y i a b e k l r (some (.d z)), cs.set 0 (.own J1)⟩) (by
        rw [e_or, e_not, c1, bind_ok, onB_t, e_c, bind_ok, onB_f, e_not, c2, bind_ok, onB_t]; rfl)]
      rfl
    have l0 := lt_of_some h0
    obtain ⟨t', J', cs', g1, g2, g3⟩ := u_loop (y := y) (a := a) (b := b) (e := e) (k := k) (i := i) (l := l) (r := r) hb all k0 its n (some (.d z)) J1 (cs.set 0 (.own J1)) (fun z hz => hi z (List.mem_cons_of_mem _ hz)) (List.getElem?_set_self l0) (by rw [List.getElem?_set_ne (Ne.symm k0)]; exact hk) e2
    refine ⟨t', J', cs', ?_, g2, g3⟩
    rw [f_cons (st1 := ⟨lV y i a b e k l r (some (.d z)), cs⟩) (gd_own hk) rfl, bd, n_nx, g1]
end Law
end
section
set_option Elab.async false
set_option linter.all false
set_option maxRecDepth 100000
set_option maxHeartbeats 4000000
set_option exponentiation.threshold 5000
namespace Law
open PySem Sh
theorem set0 {cs : List Cell} {J J' : List D} (h : cs[0]? = some (.own J)) : (cs.set 0 (.own J'))[0]? = some (.own J') := List.getElem?_set_self (lt_of_some h)
theorem app0 {cs ds : List Cell} {J : List D} (h : cs[0]? = some (.own J)) : (cs ++ ds)[0]? = some (.own J) := by
  rw [List.getElem?_append_left (lt_of_some h)]; exact h
theorem appE {cs : List Cell} {c : Cell} : (cs ++ [c])[cs.length]? = some c := by rw [List.getElem?_append_right (Nat.le_refl _), Nat.sub_self]; rfl
abbrev wV (y : D) (i a b e k l r t : Option Val) : List (Option Val) := [some (.d y), some (.c 0), i, a, b, e, k, l, r, t, none, none, none]
def b1 : S → OS := parS 3 4 (callE (callV d__law_wb_fraction) [(varE 1)]) (callE (callV d__law_wb_fraction) [(varE 1)])
def b2 : S → OS := setS 5 (callE (callV d__law_wb_low) [(bin2 addV (bin2 ixV (varE 3) (cE (.int 0))) (callE (callV d__law_one) [(varE 1), (lstE [(cE (.int 1)), (un1 negV (cE (.int 1))), (cE (.int 0))])])), (bin2 ixV (varE 3) (cE (.int 1)))])
def b3 : S → OS := setS 6 (lstE [(tupE [(varE 3), (varE 4)]), (tupE [(varE 4), (varE 3)]), (tupE [(varE 3), (varE 3)]), (tupE [(varE 3), (varE 5)]), (tupE [(varE 5), (varE 3)]), (tupE [(varE 3), (tupE [(cE (.int 0)), (cE (.int 1))])]), (tupE [(tupE [(cE (.int 0)), (cE (.int 1))]), (varE 4)]), (tupE [(varE 3), (tupE [(bin2 subV (cE (.int 0)) (bin2 ixV (varE 3) (cE (.int 0)))), (bin2 ixV (varE 3) (cE (.int 1)))])])])
def b4 : S → OS := forS (itE (varE 6)) (tupT 2 (consT (nameT 7) (consT (nameT 8) nilT))) qBody
def b5 : S → OS := parS 7 8 (callE (callV d__law_wb_small) [(varE 1)]) (callE (callV d__law_wb_low) [(bin2 subV (callE (callV d__law_take) [(varE 1), (cE (.int 2001))]) (cE (.int 1000))), (bin2 addV (cE (.int 1)) (callE (callV d__law_take) [(varE 1), (cE (.int 1000))]))])
def b6 : S → OS := ifS (orE (notE (callE (callV d__law_a2_back_right) [(varE 7), (varE 8)])) (notE (callE (callV d__law_a2_back_right) [(varE 8), (varE 7)]))) (retS (cE (.bl false))) nextS
def b7 : S → OS := forS (itE (callE (callV d__law_a2_things) [(varE 1), (varE 3)])) (nameT 9) uBody
theorem b1_ok {n : Nat} {y : D} {i a b e k l r t : Option Val} {J : List D} {cs : List Cell} (h0 : cs[0]? = some (.own J)) (h : Jr (n + 10) J) :
    ∃ p q s u J' cs', b1 ⟨wV y i a b e k l r t, cs⟩ = .ok .nx ⟨wV y i (some (.d (fr p q))) (some (.d (fr s u))) e k l r t, cs'⟩ ∧ Fq 30 p q ∧ Fq 30 s u ∧ cs'[0]? = some (.own J') ∧ Jr n J' := by
  obtain ⟨p, q, J1, e1, f1, g1⟩ := fraction_ok (n := n + 5) h
  obtain ⟨s, u, J2, e2, f2, g2⟩ := fraction_ok (n := n) g1
  refine ⟨p, q, s, u, J2, (cs.set 0 (.own J1)).set 0 (.own J2), ?_, f1, f2, set0 (set0 h0), g2⟩
  unfold b1
  rw [e_par, e_cons, call_j (i := 1) (j := 0) rfl h0 e1, bind_ok, e_cons, call_j (i := 1) (j := 0) rfl (set0 h0) e2]
  rfl
theorem b2_ok {n : Nat} {y : D} {p q : Int} {i b e k l r t : Option Val} {J : List D} {cs : List Cell} (h0 : cs[0]? = some (.own J)) (h : Jr (n + 1) J) (f : Fq 30 p q) :
    ∃ s u J' cs', b2 ⟨wV y i (some (.d (fr p q))) b e k l r t, cs⟩ = .ok .nx ⟨wV y i (some (.d (fr p q))) b (some (.d (fr s u))) k l r t, cs'⟩ ∧ Fq 31 s u ∧ cs'[0]? = some (.own J') ∧ Jr n J' := by
  have l0 := lt_of_some h0
  have i1 : lstE [(cE (.int 1)), (un1 negV (cE (.int 1))), (cE (.int 0))] ⟨wV y i (some (.d (fr p q))) b e k l r t, cs⟩ = .ok (.c cs.length) ⟨wV y i (some (.d (fr p q))) b e k l r t, cs ++ [.own [.int 1, .int (-1), .int 0]]⟩ := rfl
  obtain ⟨w, J1, m1, m2, m3⟩ := one_c (n := n) (i := 1) (j := 0) (k := cs.length) rfl i1 (app0 h0) appE (by omega) h (by simp) (by simp)
  have hw : ∃ d : Int, w = .int d ∧ d.natAbs ≤ 1 := by
    simp only [List.mem_cons, List.not_mem_nil, or_false] at m2
    rcases m2 with rfl | rfl | rfl
    all_goals exact ⟨_, rfl, by decide⟩
  obtain ⟨d, rfl, hd⟩ := hw
  have fb := f.bp
  have fq := f.bq
  have hp2 : (p + d).natAbs < 2 ^ 31 := by omega
  have hq2 : q.natAbs < 2 ^ 31 := by omega
  have b31 : ∀ {a : Int}, a.natAbs < 2 ^ 31 → Sm a := fun h => Nat.lt_of_lt_of_le h (Nat.pow_le_pow_right (by decide) (by decide))
  have lo := low_ok (p := p + d) (q := q) f.n0 (b31 hp2) (b31 hq2)
  have z0 : (((cs ++ [Cell.own [.int 1, .int (-1), .int 0]]).set 0 (.own J1)).set cs.length (.own [.int 1, .int (-1), .int 0]))[0]? = some (.own J1) := by
    rw [List.getElem?_set_ne (by omega), set0 (app0 h0)]
  refine ⟨lowN (p + d) q, lowD (p + d) q, J1, _, ?_, low_fq f.n0 hp2 hq2, z0, m3⟩
  unfold b2
  have x0 : bin2 ixV (varE 3) (cE (.int 0)) ⟨wV y i (some (.d (fr p q))) b e k l r t, cs⟩ = .ok (.d (.int p)) ⟨wV y i (some (.d (fr p q))) b e k l r t, cs⟩ := rfl
  rw [e_set, e_call, e_cons, e_bin, x0, bind_ok, m1, bind_ok]
  generalize ((cs ++ [Cell.own [.int 1, .int (-1), .int 0]]).set 0 (.own J1)).set cs.length (.own [.int 1, .int (-1), .int 0]) = cs2
  simp only [e_par, e_parK, e_asg, toD_d, e_nameT, e_consT, e_nilT, Option.bind_some, n_nx, n_ct, n_bk, n_ret, e_for, e_itE, e_itA, e_meth, ty_s, e_run1, e_run2, e_run3, e_run4, s_d1, s_d2, s_od, s_oo, s_o1, s_odd, s_t1, s_td, ic_d, ic_o, ic_t, ic_nil, e_argD, e_argDD, List.replicate, Nat.reduceSub, List.length_cons, List.length_nil, bind_ok, bind_exc, bind_bad, e_seq, th_nx, th_ret, th_exc, th_bk, th_ct, e_set, e_setK, e_ret, e_retK, e_drop, e_dropK, e_retN, e_next, e_brk, e_cnt, e_if, e_ifE, e_and, e_or, e_not, onB_t, onB_f, onB_b, e_var, e_varK, e_c, e_bin, e_un, e_call, e_nil, e_cons, e_tup, e_tupK, e_lst, e_lstK, e_newLst, toDs_nil, toDs_d, Option.map_some, e_callV, e_callVT, ar_nil, ar_cons, ar_d, ar_t, e_argKT, af_d, af_new, af_exc, up_nil, up_cons, end_ret, end_exc, end_nx, out_d, v_add, v_sub, v_neg, v_lt, v_le, v_gt, v_ge, v_eqI, v_neI, v_gcd, v_abs, v_max, v_int, v_lenT, v_lenL, List.getElem?_cons_zero, List.getElem?_cons_succ, List.set_cons_zero, List.set_cons_succ, List.take_zero, List.take_nil, Bool.false_eq_true, if_false, if_true, eq_self, decide_true, decide_false, Bool.not_true, Bool.not_false, Nat.reduceAdd, Nat.reduceLeDiff, Nat.reduceLT, List.nil_append, List.cons_append, wV, fr, ix0, ix1, lo]
  rfl
end Law
end
section
set_option Elab.async false
set_option linter.all false
set_option maxRecDepth 100000
set_option maxHeartbeats 4000000
set_option exponentiation.threshold 5000
namespace Law
open PySem Sh
theorem b34_ok {y : D} {p q s u v w : Int} {i k l r t : Option Val} {cs : List Cell} (f1 : Fq 30 p q) (f2 : Fq 30 s u) (f3 : Fq 31 v w) :
    ∃ l' r' c, b3 ⟨wV y i (some (.d (fr p q))) (some (.d (fr s u))) (some (.d (fr v w))) k l r t, cs⟩ = .ok .nx ⟨wV y i (some (.d (fr p q))) (some (.d (fr s u))) (some (.d (fr v w))) (some (.c cs.length)) l r t, cs ++ [c]⟩ ∧
      b4 ⟨wV y i (some (.d (fr p q))) (some (.d (fr s u))) (some (.d (fr v w))) (some (.c cs.length)) l r t, cs ++ [c]⟩ = .ok .nx ⟨wV y i (some (.d (fr p q))) (some (.d (fr s u))) (some (.d (fr v w))) (some (.c cs.length)) l' r' t, cs ++ [c]⟩ := by
  have g1 := f1.up (C := 1900) (by decide)
  have g2 := f2.up (C := 1900) (by decide)
  have g3 := f3.up (C := 1900) (by decide)
  have g0 : Fq 1900 0 1 := ⟨by decide, by decide, Nat.lt_of_lt_of_le (show (0 : Int).natAbs < 2 ^ 1 by decide) (Nat.pow_le_pow_right (by decide) (by decide)), Nat.lt_of_lt_of_le (show (1 : Int).natAbs < 2 ^ 1 by decide) (Nat.pow_le_pow_right (by decide) (by decide))⟩
  have gn : Fq 1900 (0 - p) q := ⟨g1.pos, by rw [Int.zero_sub, Int.natAbs_neg]; exact g1.g, by rw [Int.zero_sub, Int.natAbs_neg]; exact g1.bp, g1.bq⟩
  have hi : ∀ z ∈ ([.tup [fr p q, fr s u], .tup [fr s u, fr p q], .tup [fr p q, fr p q], .tup [fr p q, fr v w], .tup [fr v w, fr p q], .tup [fr p q, fr 0 1], .tup [fr 0 1, fr s u], .tup [fr p q, fr (0 - p) q]] : List D), ∃ p q s u, z = .tup [fr p q, fr s u] ∧ Fq 1900 p q ∧ Fq 1900 s u := fun z hz => by
    simp only [List.mem_cons, List.not_mem_nil, or_false] at hz
    rcases hz with rfl | rfl | rfl | rfl | rfl | rfl | rfl | rfl
    · exact ⟨_, _, _, _, rfl, g1, g2⟩
    · exact ⟨_, _, _, _, rfl, g2, g1⟩
    · exact ⟨_, _, _, _, rfl, g1, g1⟩
    · exact ⟨_, _, _, _, rfl, g1, g3⟩
    · exact ⟨_, _, _, _, rfl, g3, g1⟩
    · exact ⟨_, _, _, _, rfl, g1, g0⟩
    · exact ⟨_, _, _, _, rfl, g0, g2⟩
    · exact ⟨_, _, _, _, rfl, g1, gn⟩
  have e3 : b3 ⟨wV y i (some (.d (fr p q))) (some (.d (fr s u))) (some (.d (fr v w))) k l r t, cs⟩ = .ok .nx ⟨wV y i (some (.d (fr p q))) (some (.d (fr s u))) (some (.d (fr v w))) (some (.c cs.length)) l r t, cs ++ [.own [.tup [fr p q, fr s u], .tup [fr s u, fr p q], .tup [fr p q, fr p q], .tup [fr p q, fr v w], .tup [fr v w, fr p q], .tup [fr p q, fr 0 1], .tup [fr 0 1, fr s u], .tup [fr p q, fr (0 - p) q]]]⟩ := rfl
  generalize ([.tup [fr p q, fr s u], .tup [fr s u, fr p q], .tup [fr p q, fr p q], .tup [fr p q, fr v w], .tup [fr v w, fr p q], .tup [fr p q, fr 0 1], .tup [fr 0 1, fr s u], .tup [fr p q, fr (0 - p) q]] : List D) = I8 at *
  have ck : (cs ++ [Cell.own I8])[cs.length]? = some (.own I8) := appE
  obtain ⟨l', r', g⟩ := q_loop (y := y) (a := fr p q) (b := fr s u) (e := fr v w) (k := cs.length) (i := i) (t := t) I8 ck I8 l r hi
  refine ⟨l', r', .own I8, e3, ?_⟩
  unfold b4
  have it : itE (varE 6) ⟨wV y i (some (.d (fr p q))) (some (.d (fr s u))) (some (.d (fr v w))) (some (.c cs.length)) l r t, cs ++ [.own I8]⟩ = .ok (I8, some cs.length) ⟨wV y i (some (.d (fr p q))) (some (.d (fr s u))) (some (.d (fr v w))) (some (.c cs.length)) l r t, cs ++ [.own I8]⟩ := by
    rw [e_itE]
    show (Out.ok (Val.c cs.length) _).bind itV = _
    rw [bind_ok]
    exact v_itC (cl := .own I8) ck
  rw [e_for, it, bind_ok]
  exact g
theorem b5_ok {n : Nat} {y : D} {i a b e k l r t : Option Val} {J : List D} {cs : List Cell} (h0 : cs[0]? = some (.own J)) (h : Jr (n + 4) J) :
    ∃ p q s u J' cs', b5 ⟨wV y i a b e k l r t, cs⟩ = .ok .nx ⟨wV y i a b e k (some (.d (fr p q))) (some (.d (fr s u))) t, cs'⟩ ∧ Fq 30 p q ∧ Fq 30 s u ∧ cs'[0]? = some (.own J') ∧ Jr n J' := by
  obtain ⟨p, q, J1, e1, f1, g1⟩ := small_ok (n := n + 2) h
  have z1 := set0 (J' := J1) h0
  obtain ⟨d, J2, m1, m2, m3, m4⟩ := take_c (n := n + 1) (i := 1) (j := 0) (m := 2001) (fm := cE (.int 2001)) (vs := wV y i a b e k l r t) (cs := cs.set 0 (.own J1)) (cs2 := cs.set 0 (.own J1)) rfl rfl z1 g1 (by decide) (by decide)
  have z2 := set0 (J' := J2) z1
  obtain ⟨c, J3, k1, k2, k3, k4⟩ := take_c (n := n) (i := 1) (j := 0) (m := 1000) (fm := cE (.int 1000)) (vs := wV y i a b e k l r t) (cs := (cs.set 0 (.own J1)).set 0 (.own J2)) (cs2 := (cs.set 0 (.own J1)).set 0 (.own J2)) rfl rfl z2 m4 (by decide) (by decide)
  have z3 := set0 (J' := J3) z2
  have hp2 : (d - 1000).natAbs < 2 ^ 30 := by omega
  have hq2 : (1 + c).natAbs < 2 ^ 30 := by omega
  have b30 : ∀ {a : Int}, a.natAbs < 2 ^ 30 → Sm a := fun h => Nat.lt_of_lt_of_le h (Nat.pow_le_pow_right (by decide) (by decide))
  have lo := low_ok (p := d - 1000) (q := 1 + c) (by omega) (b30 hp2) (b30 hq2)
  refine ⟨p, q, lowN (d - 1000) (1 + c), lowD (d - 1000) (1 + c), J3, _, ?_, f1, low_fq (by omega) hp2 hq2, z3, k4⟩
  unfold b5
  rw [e_par, e_cons, call_j (i := 1) (j := 0) rfl h0 e1, bind_ok, e_cons, e_call, e_cons, e_bin, m1, bind_ok]
  simp only [e_c, bind_ok, v_sub]
  rw [e_cons, e_bin, e_c, bind_ok, k1, bind_ok]
  generalize ((cs.set 0 (.own J1)).set 0 (.own J2)).set 0 (.own J3) = cs2
  simp only [e_par, e_parK, e_asg, toD_d, e_nameT, e_consT, e_nilT, Option.bind_some, n_nx, n_ct, n_bk, n_ret, e_for, e_itE, e_itA, e_meth, ty_s, e_run1, e_run2, e_run3, e_run4, s_d1, s_d2, s_od, s_oo, s_o1, s_odd, s_t1, s_td, ic_d, ic_o, ic_t, ic_nil, e_argD, e_argDD, List.replicate, Nat.reduceSub, List.length_cons, List.length_nil, bind_ok, bind_exc, bind_bad, e_seq, th_nx, th_ret, th_exc, th_bk, th_ct, e_set, e_setK, e_ret, e_retK, e_drop, e_dropK, e_retN, e_next, e_brk, e_cnt, e_if, e_ifE, e_and, e_or, e_not, onB_t, onB_f, onB_b, e_var, e_varK, e_c, e_bin, e_un, e_call, e_nil, e_cons, e_tup, e_tupK, e_lst, e_lstK, e_newLst, toDs_nil, toDs_d, Option.map_some, e_callV, e_callVT, ar_nil, ar_cons, ar_d, ar_t, e_argKT, af_d, af_new, af_exc, up_nil, up_cons, end_ret, end_exc, end_nx, out_d, v_add, v_sub, v_neg, v_lt, v_le, v_gt, v_ge, v_eqI, v_neI, v_gcd, v_abs, v_max, v_int, v_lenT, v_lenL, List.getElem?_cons_zero, List.getElem?_cons_succ, List.set_cons_zero, List.set_cons_succ, List.take_zero, List.take_nil, Bool.false_eq_true, if_false, if_true, eq_self, decide_true, decide_false, Bool.not_true, Bool.not_false, Nat.reduceAdd, Nat.reduceLeDiff, Nat.reduceLT, List.nil_append, List.cons_append, wV, lo]
  rfl
theorem b6_ok {y : D} {p q s u : Int} {i a b e k t : Option Val} {cs : List Cell} (f1 : Fq 30 p q) (f2 : Fq 30 s u) :
    b6 ⟨wV y i a b e k (some (.d (fr p q))) (some (.d (fr s u))) t, cs⟩ = .ok .nx ⟨wV y i a b e k (some (.d (fr p q))) (some (.d (fr s u))) t, cs⟩ := by
  have g1 := f1.up (C := 900) (by decide)
  have g2 := f2.up (C := 900) (by decide)
  have c1 : callE (callV d__law_a2_back_right) [(varE 7), (varE 8)] ⟨wV y i a b e k (some (.d (fr p q))) (some (.d (fr s u))) t, cs⟩ = .ok (.d (.bl true)) ⟨wV y i a b e k (some (.d (fr p q))) (some (.d (fr s u))) t, cs⟩ := by
    rw [call2 (a := fr p q) (b := fr s u) rfl rfl, back_ok g1 g2, af_d, up_nil]
  have c2 : callE (callV d__law_a2_back_right) [(varE 8), (varE 7)] ⟨wV y i a b e k (some (.d (fr p q))) (some (.d (fr s u))) t, cs⟩ = .ok (.d (.bl true)) ⟨wV y i a b e k (some (.d (fr p q))) (some (.d (fr s u))) t, cs⟩ := by
    rw [call2 (a := fr s u) (b := fr p q) rfl rfl, back_ok g2 g1, af_d, up_nil]
  unfold b6
  rw [if_f (t := orE (notE (callE (callV d__law_a2_back_right) [(varE 7), (varE 8)])) (notE (callE (callV d__law_a2_back_right) [(varE 8), (varE 7)]))) (st1 := ⟨wV y i a b e k (some (.d (fr p q))) (some (.d (fr s u))) t, cs⟩) (by
    rw [e_or, e_not, c1, bind_ok, onB_t, e_c, bind_ok, onB_f, e_not, c2, bind_ok, onB_t]; rfl)]
  rfl
theorem b7_ok {n : Nat} {y e : D} {p q s u : Int} {kk : Nat} {i l r t : Option Val} {J : List D} {cs : List Cell} (h0 : cs[0]? = some (.own J)) (h : Jr (n + 40) J) (f1 : Fq 30 p q) (f2 : Fq 30 s u) :
    ∃ t' J' cs', b7 ⟨lV y i (fr p q) (fr s u) e kk l r t, cs⟩ = .ok .nx ⟨lV y i (fr p q) (fr s u) e kk l r t', cs'⟩ ∧ cs'[0]? = some (.own J') ∧ Jr n J' := by
  have g1 := f1.up (C := 1900) (by decide)
  obtain ⟨L, J1, e1, ⟨w, m, rfl, w1, w2⟩, j1⟩ := things_ok (n := n + 35) h g1.b1 g1.b2
  have aL := tall_lt w1 w2 g1.b1 g1.b2
  have lL : (tAll w p q m).length = 30 := rfl
  have l0 := lt_of_some h0
  generalize tAll w p q m = L at *
  have q0 : consA (.c 0) ⟨lV y i (fr p q) (fr s u) e kk l r t, cs⟩ (some ([.d (fr p q)], [])) = some ([.o J, .d (fr p q)], [0]) := by
    unfold consA; simp only [h0]; rfl
  have v1 : varE 1 ⟨lV y i (fr p q) (fr s u) e kk l r t, cs⟩ = .ok (.c 0) ⟨lV y i (fr p q) (fr s u) e kk l r t, cs⟩ := rfl
  have v3 : varE 3 ⟨lV y i (fr p q) (fr s u) e kk l r t, cs⟩ = .ok (.d (fr p q)) ⟨lV y i (fr p q) (fr s u) e kk l r t, cs⟩ := rfl
  have ck : (cs.set 0 (.own J1) ++ [Cell.own L])[(cs.set 0 (.own J1)).length]? = some (.own L) := appE
  have c1 : itE (callE (callV d__law_a2_things) [(varE 1), (varE 3)]) ⟨lV y i (fr p q) (fr s u) e kk l r t, cs⟩ = .ok (L, some (cs.set 0 (.own J1)).length) ⟨lV y i (fr p q) (fr s u) e kk l r t, cs.set 0 (.own J1) ++ [.own L]⟩ := by
    rw [e_itE, e_call, e_cons, v1, bind_ok, e_cons, v3, bind_ok, e_nil, bind_ok, bind_ok, bind_ok, e_callV, ar_cons, ar_cons, ar_nil, ar_d, q0, e_argK rfl, e1, af_new, up_cons, up_nil, e_newLst, bind_ok]
    exact v_itC (cl := .own L) ck
  obtain ⟨t', J', cs', g, g2, g3⟩ := u_loop (y := y) (a := fr p q) (b := fr s u) (e := e) (k := kk) (kk := (cs.set 0 (.own J1)).length) (i := i) (l := l) (r := r) (f2.lt (by decide)) L (by rw [List.length_set]; omega) L n t J1 (cs.set 0 (.own J1) ++ [.own L]) aL (app0 (set0 h0)) ck (by rw [lL]; exact j1.mono (by omega))
  refine ⟨t', J', cs', ?_, g2, g3⟩
  unfold b7
  rw [e_for, c1, bind_ok]
  exact g
end Law
end
section
set_option Elab.async false
set_option linter.all false
set_option maxRecDepth 100000
set_option maxHeartbeats 4000000
set_option exponentiation.threshold 5000
namespace Law
open PySem Sh
def lBody : S → OS := seqS b1 (seqS b2 (seqS b3 (seqS b4 (seqS b5 (seqS b6 b7)))))
theorem l_body {n : Nat} {y : D} {i a b e k l r t : Option Val} {J : List D} {cs : List Cell} (h0 : cs[0]? = some (.own J)) (h : Jr (n + 55) J) :
    ∃ a' b' e' k' l' r' t' J' cs', lBody ⟨wV y i a b e k l r t, cs⟩ = .ok .nx ⟨wV y i a' b' e' k' l' r' t', cs'⟩ ∧ cs'[0]? = some (.own J') ∧ Jr n J' := by
  obtain ⟨p, q, s, u, J1, c1, e1, f1, f2, z1, j1⟩ := b1_ok (n := n + 45) (y := y) (i := i) (a := a) (b := b) (e := e) (k := k) (l := l) (r := r) (t := t) h0 h
  obtain ⟨v, w, J2, c2, e2, f3, z2, j2⟩ := b2_ok (n := n + 44) (y := y) (i := i) (b := some (.d (fr s u))) (e := e) (k := k) (l := l) (r := r) (t := t) z1 j1 f1
  obtain ⟨l1, r1, c, e3, e4⟩ := b34_ok (y := y) (i := i) (k := k) (l := l) (r := r) (t := t) (cs := c2) f1 f2 f3
  obtain ⟨p2, q2, s2, u2, J3, c3, e5, f4, f5, z3, j3⟩ := b5_ok (n := n + 40) (y := y) (i := i) (a := some (.d (fr p q))) (b := some (.d (fr s u))) (e := some (.d (fr v w))) (k := some (.c c2.length)) (l := l1) (r := r1) (t := t) (app0 (ds := [c]) z2) j2
  have e6 := b6_ok (y := y) (i := i) (a := some (.d (fr p q))) (b := some (.d (fr s u))) (e := some (.d (fr v w))) (k := some (.c c2.length)) (t := t) (cs := c3) f4 f5
  obtain ⟨t', J', cs', e7, z4, j4⟩ := b7_ok (n := n) (y := y) (e := fr v w) (kk := c2.length) (i := i) (l := some (.d (fr p2 q2))) (r := some (.d (fr s2 u2))) (t := t) z3 j3 f1 f2
  refine ⟨some (.d (fr p q)), some (.d (fr s u)), some (.d (fr v w)), some (.c c2.length), some (.d (fr p2 q2)), some (.d (fr s2 u2)), t', J', cs', ?_, z4, j4⟩
  unfold lBody
  rw [seq_nx e1, seq_nx e2, seq_nx e3, seq_nx e4, seq_nx e5, seq_nx e6]
  exact e7
theorem l_loop {y : D} (all : List D) : ∀ (its : List D) (n : Nat) (i a b e k l r t : Option Val) (J : List D) (cs : List Cell), cs[0]? = some (.own J) → Jr (n + 55 * its.length) J →
    ∃ i' a' b' e' k' l' r' t' cs', forL (nameT 2) lBody none all its ⟨wV y i a b e k l r t, cs⟩ = .ok .nx ⟨wV y i' a' b' e' k' l' r' t', cs'⟩
  | [], n, i, a, b, e, k, l, r, t, J, cs, h0, h => ⟨i, a, b, e, k, l, r, t, cs, f_nil gd_none⟩
  | z :: its, n, i, a, b, e, k, l, r, t, J, cs, h0, h => by
    have h' : Jr (n + 55 * its.length + 55) J := h.mono (by simp only [List.length_cons]; omega)
    obtain ⟨a1, b1, e1, k1, l1, r1, t1, J1, cs1, g1, g2, g3⟩ := l_body (y := y) (i := some (.d z)) (a := a) (b := b) (e := e) (k := k) (l := l) (r := r) (t := t) h0 h'
    obtain ⟨i', a', b', e', k', l', r', t', cs', g4⟩ := l_loop (y := y) all its n (some (.d z)) a1 b1 e1 k1 l1 r1 t1 J1 cs1 g2 g3
    refine ⟨i', a', b', e', k', l', r', t', cs', ?_⟩
    rw [f_cons (st1 := ⟨wV y (some (.d z)) a b e k l r t, cs⟩) gd_none rfl, g1, n_nx, g4]
end Law
end
section
set_option Elab.async false
set_option linter.all false
set_option maxRecDepth 100000
set_option maxHeartbeats 4000000
set_option exponentiation.threshold 5000
namespace Law
open PySem Sh
theorem fqc {p q : Int} (h1 : 1 ≤ q) (h2 : Nat.gcd p.natAbs q.natAbs = 1) (h3 : p.natAbs < 2 ^ 200) (h4 : q.natAbs < 2 ^ 200) : Fq 1900 p q :=
  ⟨h1, h2, Nat.lt_of_lt_of_le h3 (Nat.pow_le_pow_right (by decide) (by decide)), Nat.lt_of_lt_of_le h4 (Nat.pow_le_pow_right (by decide) (by decide))⟩
theorem lam_v {caps : List Nat} {fb : S → OE} {st st1 st2 st3 : S} {xs : List D} {v : Val} {y : D} (h1 : frzL caps st = some (xs, st1)) (h2 : fb ⟨capV st.v.length caps xs, []⟩ = .ok v st2) (h3 : toD v st2 = some (y, st3)) : lamE d__law_a2_heard caps fb [] st = .ok (.d (.tup [.str "told", y])) st1 := by
  rw [e_lam, h1]
  simp only [thkOf, h2, h3, e_nil, bind_ok, ar_nil]
  rw [nt_nil, if_pos rfl, heard_t]
  obtain ⟨vs, cs⟩ := st1
  rw [af_d, up_nil]
theorem lam0 {d : List Ar → RD} {fa fb : S → OE} {a b w : D} {vs : List (Option Val)} {cs : List Cell} (ha : ∀ st, fa st = .ok (.d a) st) (hb : ∀ st, fb st = .ok (.d b) st) (h : hrd (d [.d a, .d b]) = some w) :
    lamE d__law_a2_heard [] (callE (callV d) [fa, fb]) [] ⟨vs, cs⟩ = .ok (.d w) ⟨vs, cs⟩ :=
  lam_c rfl (by rw [e_call, e_cons, ha, bind_ok, e_cons, hb, bind_ok, e_nil, bind_ok, bind_ok, bind_ok, e_callV, ar_cons, ar_cons, ar_nil, ar_d, ar_d, e_argK rfl]) h
theorem w_1 : hrd (d_over [.d (fr 1 2), .d (fr (-3) 1)]) = some (tld (fr (-1) 6)) := by
  rw [over_ok (fqc (by decide) (by decide +kernel) (by decide +kernel) (by decide +kernel)) (fqc (by decide) (by decide +kernel) (by decide +kernel) (by decide +kernel)) (by decide),
    low_eq (p := -1) (q := 6) (by decide) (by decide) (by decide) (by decide +kernel)]; rfl
theorem w_2 : hrd (d_times [.d (fr (-2) 3), .d (fr 3 4)]) = some (tld (fr (-1) 2)) := by
  rw [times_ok (fqc (by decide) (by decide +kernel) (by decide +kernel) (by decide +kernel)) (fqc (by decide) (by decide +kernel) (by decide +kernel) (by decide +kernel)),
    low_eq (p := -1) (q := 2) (by decide) (by decide) (by decide) (by decide +kernel)]; rfl
theorem w_3a : d_plus [.d (fr 1 3), .d (fr 1 3)] = .ok (.d (fr 2 3)) [] := by
  rw [plus_ok (fqc (by decide) (by decide +kernel) (by decide +kernel) (by decide +kernel)) (fqc (by decide) (by decide +kernel) (by decide +kernel) (by decide +kernel)),
    low_eq (p := 2) (q := 3) (by decide) (by decide) (by decide) (by decide +kernel)]
theorem w_3 : hrd (d_plus [.d (fr 2 3), .d (fr 1 3)]) = some (tld (fr 1 1)) := by
  rw [plus_ok (fqc (by decide) (by decide +kernel) (by decide +kernel) (by decide +kernel)) (fqc (by decide) (by decide +kernel) (by decide +kernel) (by decide +kernel)),
    low_eq (p := 1) (q := 1) (by decide) (by decide) (by decide) (by decide +kernel)]; rfl
theorem w_4 : hrd (d_minus [.d (fr 1 6), .d (fr 2 3)]) = some (tld (fr (-1) 2)) := by
  rw [minus_ok (fqc (by decide) (by decide +kernel) (by decide +kernel) (by decide +kernel)) (fqc (by decide) (by decide +kernel) (by decide +kernel) (by decide +kernel)),
    low_eq (p := -1) (q := 2) (by decide) (by decide) (by decide) (by decide +kernel)]; rfl
theorem w_5a : d_below [.d (fr (-1) 2), .d (fr (-1) 3)] = .ok (.d (.bl true)) [] := by
  rw [below_ok (fqc (by decide) (by decide +kernel) (by decide +kernel) (by decide +kernel)) (fqc (by decide) (by decide +kernel) (by decide +kernel) (by decide +kernel))]; rfl
theorem w_5b : d_below [.d (fr (-1) 3), .d (fr (-1) 2)] = .ok (.d (.bl false)) [] := by
  rw [below_ok (fqc (by decide) (by decide +kernel) (by decide +kernel) (by decide +kernel)) (fqc (by decide) (by decide +kernel) (by decide +kernel) (by decide +kernel))]; rfl
theorem w_5c : d_below [.d (fr 2 3), .d (fr 3 4)] = .ok (.d (.bl true)) [] := by
  rw [below_ok (fqc (by decide) (by decide +kernel) (by decide +kernel) (by decide +kernel)) (fqc (by decide) (by decide +kernel) (by decide +kernel) (by decide +kernel))]; rfl
theorem w_6 : hrd (d_over [.d (fr 2 4), .d (fr 0 1)]) = some bad := bad_over (by decide +kernel) (by decide +kernel) (by decide +kernel)
theorem w_7 : hrd (d_over [.d (fr 0 1), .d (fr 0 1)]) = some (.tup [.str "Nought", .int 0]) := by
  rw [over_n (fqc (by decide) (by decide +kernel) (by decide +kernel) (by decide +kernel)) (fqc (by decide) (by decide +kernel) (by decide +kernel) (by decide +kernel))]; rfl
abbrev G30 : Int := 1000000000000000000000000000000
theorem w_8 : hrd (d_plus [.d (fr (G30 + 1) G30), .d (fr (-1) G30)]) = some (tld (fr 1 1)) := by
  rw [plus_ok (fqc (by decide) (by decide +kernel) (by decide +kernel) (by decide +kernel)) (fqc (by decide) (by decide +kernel) (by decide +kernel) (by decide +kernel)),
    low_eq (p := 1) (q := 1) (by decide) (by decide) (by decide) (by decide +kernel)]; rfl
theorem w_9 : hrd (d_below [.d (fr G30 (G30 + 1)), .d (fr (G30 + 1) (G30 + 2))]) = some (tld (.bl true)) := by
  rw [below_ok (fqc (by decide) (by decide +kernel) (by decide +kernel) (by decide +kernel)) (fqc (by decide) (by decide +kernel) (by decide +kernel) (by decide +kernel))]; rfl
theorem w_10 : hrd (d_is_fraction [.d (fr (3 * G30) (7 * G30))]) = some (tld (.bl false)) := by
  rw [isfr_ok (by decide +kernel)]
  have : isFr (fr (3 * G30) (7 * G30)) = false := by decide +kernel
  rw [this]; rfl
end Law
end
section
set_option Elab.async false
set_option linter.all false
set_option maxRecDepth 100000
set_option maxHeartbeats 4000000
set_option exponentiation.threshold 5000
namespace Law
open PySem Sh
theorem app_x {f : S → OE} {i m : Nat} {w : D} {L : List D} {vs : List (Option Val)} {cs : List Cell} (hc : cs[m]? = some (.own L)) (hv : vs[i]? = some (some (.c m))) (hf : f ⟨vs, cs⟩ = .ok (.d w) ⟨vs, cs⟩) (hl : L.length < 1000000) :
    ∃ cs', dropS (methE "list" appV (varE i) [f]) ⟨vs, cs⟩ = .ok .nx ⟨vs, cs'⟩ ∧ cs'[m]? = some (.own (L ++ [w])) := ⟨_, app_m hv hc hf hl, List.getElem?_set_self (lt_of_some hc)⟩
abbrev xV (y : D) (i a b e k l r t : Option Val) (m : Nat) (g h : Option Val) : List (Option Val) := [some (.d y), some (.c 0), i, a, b, e, k, l, r, t, some (.c m), g, h]
section
variable {y : D} {i a b e k l r t g h : Option Val} {m : Nat} {cs : List Cell}
theorem x_3 : lamE d__law_a2_heard [] (callE (callV d_plus) [(callE (callV d_plus) [(tupE [(cE (.int 1)), (cE (.int 3))]), (tupE [(cE (.int 1)), (cE (.int 3))])]), (tupE [(cE (.int 1)), (cE (.int 3))])]) [] ⟨xV y i a b e k l r t m g h, cs⟩ = .ok (.d (tld (fr 1 1))) ⟨xV y i a b e k l r t m g h, cs⟩ := by
  refine lam0 (a := fr 2 3) (b := fr 1 3) (fun st => ?_) (fun _ => rfl) w_3
  have e1 : (tupE [(cE (.int 1)), (cE (.int 3))]) st = .ok (.d (fr 1 3)) st := rfl
  obtain ⟨v, c⟩ := st
  rw [e_call, e_cons, e1, bind_ok, e_cons, e1, bind_ok, e_nil, bind_ok, bind_ok, bind_ok, e_callV, ar_cons, ar_cons, ar_nil, ar_d, ar_d, e_argK rfl, w_3a, af_d, up_nil]
theorem x_5 : lamE d__law_a2_heard [] (lstE [(callE (callV d_below) [(tupE [(un1 negV (cE (.int 1))), (cE (.int 2))]), (tupE [(un1 negV (cE (.int 1))), (cE (.int 3))])]), (callE (callV d_below) [(tupE [(un1 negV (cE (.int 1))), (cE (.int 3))]), (tupE [(un1 negV (cE (.int 1))), (cE (.int 2))])]), (callE (callV d_below) [(tupE [(cE (.int 2)), (cE (.int 3))]), (tupE [(cE (.int 3)), (cE (.int 4))])])]) [] ⟨xV y i a b e k l r t m g h, cs⟩ = .ok (.d (tld (.lst [.bl true, .bl false, .bl true]))) ⟨xV y i a b e k l r t m g h, cs⟩ := by
  have c2 : ∀ {fa fb : S → OE} {x z w : D} {d : List Ar → RD} (st : S), (fa st = .ok (.d x) st) → (fb st = .ok (.d z) st) → d [.d x, .d z] = .ok (.d w) [] → callE (callV d) [fa, fb] st = .ok (.d w) st := fun st h1 h2 h3 => by
    obtain ⟨v, c⟩ := st
    rw [e_call, e_cons, h1, bind_ok, e_cons, h2, bind_ok, e_nil, bind_ok, bind_ok, bind_ok, e_callV, ar_cons, ar_cons, ar_nil, ar_d, ar_d, e_argK rfl, h3, af_d, up_nil]
  refine lam_v (v := .c 0) (st2 := ⟨List.replicate 13 none, [.own [.bl true, .bl false, .bl true]]⟩) (st3 := ⟨List.replicate 13 none, [.frz [.bl true, .bl false, .bl true]]⟩) rfl ?_ rfl
  rw [e_lst, e_cons, c2 (fa := (tupE [(un1 negV (cE (.int 1))), (cE (.int 2))])) (fb := (tupE [(un1 negV (cE (.int 1))), (cE (.int 3))])) (x := fr (-1) 2) (z := fr (-1) 3) _ rfl rfl w_5a, bind_ok, e_cons, c2 (fa := (tupE [(un1 negV (cE (.int 1))), (cE (.int 3))])) (fb := (tupE [(un1 negV (cE (.int 1))), (cE (.int 2))])) (x := fr (-1) 3) (z := fr (-1) 2) _ rfl rfl w_5b, bind_ok, e_cons, c2 (fa := (tupE [(cE (.int 2)), (cE (.int 3))])) (fb := (tupE [(cE (.int 3)), (cE (.int 4))])) (x := fr 2 3) (z := fr 3 4) _ rfl rfl w_5c]
  rfl
theorem x_8 : lamE d__law_a2_heard [11] (callE (callV d_plus) [(tupE [(bin2 addV (varE 11) (cE (.int 1))), (varE 11)]), (tupE [(un1 negV (cE (.int 1))), (varE 11)])]) [] ⟨xV y i a b e k l r t m (some (.d (.int G30))) h, cs⟩ = .ok (.d (tld (fr 1 1))) ⟨xV y i a b e k l r t m (some (.d (.int G30))) h, cs⟩ :=
  lam_c (xs := [.int G30]) rfl (by simp only [e_par, e_parK, e_asg, toD_d, e_nameT, e_consT, e_nilT, Option.bind_some, n_nx, n_ct, n_bk, n_ret, e_for, e_itE, e_itA, e_meth, ty_s, e_run1, e_run2, e_run3, e_run4, s_d1, s_d2, s_od, s_oo, s_o1, s_odd, s_t1, s_td, ic_d, ic_o, ic_t, ic_nil, e_argD, e_argDD, List.replicate, Nat.reduceSub, List.length_cons, List.length_nil, bind_ok, bind_exc, bind_bad, e_seq, th_nx, th_ret, th_exc, th_bk, th_ct, e_set, e_setK, e_ret, e_retK, e_drop, e_dropK, e_retN, e_next, e_brk, e_cnt, e_if, e_ifE, e_and, e_or, e_not, onB_t, onB_f, onB_b, e_var, e_varK, e_c, e_bin, e_un, e_call, e_nil, e_cons, e_tup, e_tupK, e_lst, e_lstK, e_newLst, toDs_nil, toDs_d, Option.map_some, e_callV, e_callVT, ar_nil, ar_cons, ar_d, ar_t, e_argKT, af_d, af_new, af_exc, up_nil, up_cons, end_ret, end_exc, end_nx, out_d, v_add, v_sub, v_neg, v_lt, v_le, v_gt, v_ge, v_eqI, v_neI, v_gcd, v_abs, v_max, v_int, v_lenT, v_lenL, List.getElem?_cons_zero, List.getElem?_cons_succ, List.set_cons_zero, List.set_cons_succ, List.take_zero, List.take_nil, Bool.false_eq_true, if_false, if_true, eq_self, decide_true, decide_false, Bool.not_true, Bool.not_false, Nat.reduceAdd, Nat.reduceLeDiff, Nat.reduceLT, List.nil_append, List.cons_append, capV, xV]) w_8
theorem x_9 : lamE d__law_a2_heard [11] (callE (callV d_below) [(tupE [(varE 11), (bin2 addV (varE 11) (cE (.int 1)))]), (tupE [(bin2 addV (varE 11) (cE (.int 1))), (bin2 addV (varE 11) (cE (.int 2)))])]) [] ⟨xV y i a b e k l r t m (some (.d (.int G30))) h, cs⟩ = .ok (.d (tld (.bl true))) ⟨xV y i a b e k l r t m (some (.d (.int G30))) h, cs⟩ :=
  lam_c (xs := [.int G30]) rfl (by simp only [e_par, e_parK, e_asg, toD_d, e_nameT, e_consT, e_nilT, Option.bind_some, n_nx, n_ct, n_bk, n_ret, e_for, e_itE, e_itA, e_meth, ty_s, e_run1, e_run2, e_run3, e_run4, s_d1, s_d2, s_od, s_oo, s_o1, s_odd, s_t1, s_td, ic_d, ic_o, ic_t, ic_nil, e_argD, e_argDD, List.replicate, Nat.reduceSub, List.length_cons, List.length_nil, bind_ok, bind_exc, bind_bad, e_seq, th_nx, th_ret, th_exc, th_bk, th_ct, e_set, e_setK, e_ret, e_retK, e_drop, e_dropK, e_retN, e_next, e_brk, e_cnt, e_if, e_ifE, e_and, e_or, e_not, onB_t, onB_f, onB_b, e_var, e_varK, e_c, e_bin, e_un, e_call, e_nil, e_cons, e_tup, e_tupK, e_lst, e_lstK, e_newLst, toDs_nil, toDs_d, Option.map_some, e_callV, e_callVT, ar_nil, ar_cons, ar_d, ar_t, e_argKT, af_d, af_new, af_exc, up_nil, up_cons, end_ret, end_exc, end_nx, out_d, v_add, v_sub, v_neg, v_lt, v_le, v_gt, v_ge, v_eqI, v_neI, v_gcd, v_abs, v_max, v_int, v_lenT, v_lenL, List.getElem?_cons_zero, List.getElem?_cons_succ, List.set_cons_zero, List.set_cons_succ, List.take_zero, List.take_nil, Bool.false_eq_true, if_false, if_true, eq_self, decide_true, decide_false, Bool.not_true, Bool.not_false, Nat.reduceAdd, Nat.reduceLeDiff, Nat.reduceLT, List.nil_append, List.cons_append, capV, xV]) w_9
theorem x_10 : lamE d__law_a2_heard [11] (callE (callV d_is_fraction) [(tupE [(bin2 mulV (cE (.int 3)) (varE 11)), (bin2 mulV (cE (.int 7)) (varE 11))])]) [] ⟨xV y i a b e k l r t m (some (.d (.int G30))) h, cs⟩ = .ok (.d (tld (.bl false))) ⟨xV y i a b e k l r t m (some (.d (.int G30))) h, cs⟩ := by
  have m3 := fun st => mv (a := 3) (b := G30) (Nat.lt_of_lt_of_le (show (3 : Int).natAbs < 2 ^ 200 by decide +kernel) (Nat.pow_le_pow_right (by decide) (by decide))) (Nat.lt_of_lt_of_le (show G30.natAbs < 2 ^ 200 by decide +kernel) (Nat.pow_le_pow_right (by decide) (by decide))) st
  have m7 := fun st => mv (a := 7) (b := G30) (Nat.lt_of_lt_of_le (show (7 : Int).natAbs < 2 ^ 200 by decide +kernel) (Nat.pow_le_pow_right (by decide) (by decide))) (Nat.lt_of_lt_of_le (show G30.natAbs < 2 ^ 200 by decide +kernel) (Nat.pow_le_pow_right (by decide) (by decide))) st
  exact lam_c (xs := [.int G30]) rfl (by simp only [e_par, e_parK, e_asg, toD_d, e_nameT, e_consT, e_nilT, Option.bind_some, n_nx, n_ct, n_bk, n_ret, e_for, e_itE, e_itA, e_meth, ty_s, e_run1, e_run2, e_run3, e_run4, s_d1, s_d2, s_od, s_oo, s_o1, s_odd, s_t1, s_td, ic_d, ic_o, ic_t, ic_nil, e_argD, e_argDD, List.replicate, Nat.reduceSub, List.length_cons, List.length_nil, bind_ok, bind_exc, bind_bad, e_seq, th_nx, th_ret, th_exc, th_bk, th_ct, e_set, e_setK, e_ret, e_retK, e_drop, e_dropK, e_retN, e_next, e_brk, e_cnt, e_if, e_ifE, e_and, e_or, e_not, onB_t, onB_f, onB_b, e_var, e_varK, e_c, e_bin, e_un, e_call, e_nil, e_cons, e_tup, e_tupK, e_lst, e_lstK, e_newLst, toDs_nil, toDs_d, Option.map_some, e_callV, e_callVT, ar_nil, ar_cons, ar_d, ar_t, e_argKT, af_d, af_new, af_exc, up_nil, up_cons, end_ret, end_exc, end_nx, out_d, v_add, v_sub, v_neg, v_lt, v_le, v_gt, v_ge, v_eqI, v_neI, v_gcd, v_abs, v_max, v_int, v_lenT, v_lenL, List.getElem?_cons_zero, List.getElem?_cons_succ, List.set_cons_zero, List.set_cons_succ, List.take_zero, List.take_nil, Bool.false_eq_true, if_false, if_true, eq_self, decide_true, decide_false, Bool.not_true, Bool.not_false, Nat.reduceAdd, Nat.reduceLeDiff, Nat.reduceLT, List.nil_append, List.cons_append, capV, xV, m3, m7]) w_10
end
end Law
end
section
set_option Elab.async false
set_option linter.all false
set_option maxRecDepth 100000
set_option maxHeartbeats 4000000
set_option exponentiation.threshold 5000
namespace Law
open PySem Sh
def WL : List D := [tld (fr (-1) 6), tld (fr (-1) 2), tld (fr 1 1), tld (fr (-1) 2), tld (.lst [.bl true, .bl false, .bl true]), bad, .tup [.str "Nought", .int 0], tld (fr 1 1), tld (.bl true), tld (.bl false)]
theorem wl_hd : ∀ z ∈ WL, Hd z := fun z hz => by
  unfold WL at hz
  simp only [List.mem_cons, List.not_mem_nil, or_false] at hz
  rcases hz with rfl | rfl | rfl | rfl | rfl | rfl | rfl | rfl | rfl | rfl
  all_goals exact ⟨by decide +kernel, by decide +kernel, by decide +kernel⟩
theorem told_l {v : List (Option Val)} {cs : List Cell} : tupE [(cE (.str "told")), (lstE [(cE (.bl true)), (cE (.bl false)), (cE (.bl true))])] ⟨v, cs⟩ = .ok (.d (tld (.lst [.bl true, .bl false, .bl true]))) ⟨v, (cs ++ [Cell.own [.bl true, .bl false, .bl true]]).set cs.length (.frz [.bl true, .bl false, .bl true])⟩ := by
  have e1 : lstE [(cE (.bl true)), (cE (.bl false)), (cE (.bl true))] ⟨v, cs⟩ = .ok (.c cs.length) ⟨v, cs ++ [.own [.bl true, .bl false, .bl true]]⟩ := rfl
  have e2 : (cs ++ [Cell.own [.bl true, .bl false, .bl true]])[cs.length]? = some (.own [.bl true, .bl false, .bl true]) := appE
  rw [e_tup, e_cons, e_c, bind_ok, e_cons, e1, bind_ok, e_nil, bind_ok, bind_ok, bind_ok]
  unfold toDs toDs toD
  simp only [e2]
  rfl
theorem plain : Plain := by
  intro ns hn _ y hy
  obtain ⟨J, p1, p2⟩ := pool_ok hn hy
  have i0 : setS 1 (callE (callV d__law_pool) [(varE 0)]) ⟨some (.d y) :: List.replicate (13 - 1) none, []⟩ = .ok .nx ⟨wV y none none none none none none none none, [.own J]⟩ := by
    rw [e_set, call1 (a := y) rfl, p1, af_new, up_nil]; rfl
  have r8 : itA rng1V [(cE (.int 8))] ⟨wV y none none none none none none none none, [.own J]⟩ = .ok (rngL 0 8, none) ⟨wV y none none none none none none none none, [.own J]⟩ := e_rngL (n := 8) rfl (bgl (by decide))
  have l8 : (rngL 0 8).length = 8 := rfl
  obtain ⟨i, a, b, e, k, l, r, t, cs, g⟩ := l_loop (y := y) (rngL 0 8) (rngL 0 8) 0 none none none none none none none none J [.own J] rfl (by rw [l8]; exact p2.mono (by decide))
  have i1 : forS (itA rng1V [(cE (.int 8))]) (nameT 2) lBody ⟨wV y none none none none none none none none, [.own J]⟩ = .ok .nx ⟨wV y i a b e k l r t, cs⟩ := by
    rw [e_for, r8, bind_ok]; exact g
  unfold lBody b1 b2 b3 b4 b5 b6 b7 qBody uBody at i1
  have z1 : cs.length = cs.length := rfl
  have j0 : setS 10 (lstE [(lamE d__law_a2_heard [] (callE (callV d_over) [(tupE [(cE (.int 1)), (cE (.int 2))]), (tupE [(un1 negV (cE (.int 3))), (cE (.int 1))])]) [])]) ⟨wV y i a b e k l r t, cs⟩ = .ok .nx ⟨xV y i a b e k l r t cs.length none none, cs ++ [.own [tld (fr (-1) 6)]]⟩ := by
    rw [e_set, e_lst, e_cons, lam0 (fa := tupE [(cE (.int 1)), (cE (.int 2))]) (fb := tupE [(un1 negV (cE (.int 3))), (cE (.int 1))]) (a := fr 1 2) (b := fr (-3) 1) (fun _ => rfl) (fun _ => rfl) w_1]; rfl
  have c1 : (cs ++ [Cell.own [tld (fr (-1) 6)]])[cs.length]? = some (.own [tld (fr (-1) 6)]) := appE
  generalize cs ++ [Cell.own [tld (fr (-1) 6)]] = cs1 at *
  generalize cs.length = m at *
  obtain ⟨cs2, a2, c2⟩ := app_x (i := 10) (vs := xV y i a b e k l r t m none none) c1 rfl (lam0 (fa := tupE [(un1 negV (cE (.int 2))), (cE (.int 3))]) (fb := tupE [(cE (.int 3)), (cE (.int 4))]) (a := fr (-2) 3) (b := fr 3 4) (fun _ => rfl) (fun _ => rfl) w_2) (by simp)
  obtain ⟨cs3, a3, c3⟩ := app_x (i := 10) (vs := xV y i a b e k l r t m none none) c2 rfl x_3 (by simp)
  obtain ⟨cs4, a4, c4⟩ := app_x (i := 10) (vs := xV y i a b e k l r t m none none) c3 rfl (lam0 (fa := tupE [(cE (.int 1)), (cE (.int 6))]) (fb := tupE [(cE (.int 2)), (cE (.int 3))]) (a := fr 1 6) (b := fr 2 3) (fun _ => rfl) (fun _ => rfl) w_4) (by simp)
  obtain ⟨cs5, a5, c5⟩ := app_x (i := 10) (vs := xV y i a b e k l r t m none none) c4 rfl x_5 (by simp)
  obtain ⟨cs6, a6, c6⟩ := app_x (i := 10) (vs := xV y i a b e k l r t m none none) c5 rfl (lam0 (fa := tupE [(cE (.int 2)), (cE (.int 4))]) (fb := tupE [(cE (.int 0)), (cE (.int 1))]) (a := fr 2 4) (b := fr 0 1) (fun _ => rfl) (fun _ => rfl) w_6) (by simp)
  obtain ⟨cs7, a7, c7⟩ := app_x (i := 10) (vs := xV y i a b e k l r t m none none) c6 rfl (lam0 (fa := tupE [(cE (.int 0)), (cE (.int 1))]) (fb := tupE [(cE (.int 0)), (cE (.int 1))]) (a := fr 0 1) (b := fr 0 1) (fun _ => rfl) (fun _ => rfl) w_7) (by simp)
  have s11 : setS 11 (bin2 powV (cE (.int 10)) (cE (.int 30))) ⟨xV y i a b e k l r t m none none, cs7⟩ = .ok .nx ⟨xV y i a b e k l r t m (some (.d (.int G30))) none, cs7⟩ := rfl
  obtain ⟨cs8, a8, c8⟩ := app_x (i := 10) (vs := xV y i a b e k l r t m (some (.d (.int G30))) none) c7 rfl x_8 (by simp)
  obtain ⟨cs9, a9, c9⟩ := app_x (i := 10) (vs := xV y i a b e k l r t m (some (.d (.int G30))) none) c8 rfl x_9 (by simp)
  obtain ⟨cs10, a10, c10⟩ := app_x (i := 10) (vs := xV y i a b e k l r t m (some (.d (.int G30))) none) c9 rfl x_10 (by simp)
  obtain ⟨G, Z⟩ := hds wl_hd (by decide)
  have tl := told_l (v := xV y i a b e k l r t m (some (.d (.int G30))) none) (cs := cs10)
  have m10 := lt_of_some c10
  have c11 : ((cs10 ++ [Cell.own [.bl true, .bl false, .bl true]]).set cs10.length (.frz [.bl true, .bl false, .bl true]))[m]? = some (.own WL) := by
    rw [List.getElem?_set_ne (by omega), List.getElem?_append_left m10, c10]; rfl
  generalize (cs10 ++ [Cell.own [.bl true, .bl false, .bl true]]).set cs10.length (.frz [.bl true, .bl false, .bl true]) = cs11 at *
  have s12 : setS 12 (lstE [(tupE [(cE (.str "told")), (tupE [(un1 negV (cE (.int 1))), (cE (.int 6))])]), (tupE [(cE (.str "told")), (tupE [(un1 negV (cE (.int 1))), (cE (.int 2))])]), (tupE [(cE (.str "told")), (tupE [(cE (.int 1)), (cE (.int 1))])]), (tupE [(cE (.str "told")), (tupE [(un1 negV (cE (.int 1))), (cE (.int 2))])]), (tupE [(cE (.str "told")), (lstE [(cE (.bl true)), (cE (.bl false)), (cE (.bl true))])])]) ⟨xV y i a b e k l r t m (some (.d (.int G30))) none, cs10⟩ =
      .ok .nx ⟨xV y i a b e k l r t m (some (.d (.int G30))) (some (.c cs11.length)), cs11 ++ [.own [tld (fr (-1) 6), tld (fr (-1) 2), tld (fr 1 1), tld (fr (-1) 2), tld (.lst [.bl true, .bl false, .bl true])]]⟩ := by
    have k1 : ∀ st, tupE [(cE (.str "told")), (tupE [(un1 negV (cE (.int 1))), (cE (.int 6))])] st = .ok (.d (tld (fr (-1) 6))) st := fun _ => rfl
    have k2 : ∀ st, tupE [(cE (.str "told")), (tupE [(un1 negV (cE (.int 1))), (cE (.int 2))])] st = .ok (.d (tld (fr (-1) 2))) st := fun _ => rfl
    have k3 : ∀ st, tupE [(cE (.str "told")), (tupE [(cE (.int 1)), (cE (.int 1))])] st = .ok (.d (tld (fr 1 1))) st := fun _ => rfl
    rw [e_set, e_lst, e_cons, k1, bind_ok, e_cons, k2, bind_ok, e_cons, k3, bind_ok, e_cons, k2, bind_ok, e_cons, tl]
    rfl
  have m11 := lt_of_some c11
  have x13 := ext_m (i := 12) (k := cs11.length) (f := lstE [(tupE [(cE (.str "BadFraction")), (cE (.int 0))]), (tupE [(cE (.str "Nought")), (cE (.int 0))]), (tupE [(cE (.str "told")), (tupE [(cE (.int 1)), (cE (.int 1))])]), (tupE [(cE (.str "told")), (cE (.bl true))]), (tupE [(cE (.str "told")), (cE (.bl false))])]) (vs := xV y i a b e k l r t m (some (.d (.int G30))) (some (.c cs11.length)))
    (ys := [bad, .tup [.str "Nought", .int 0], tld (fr 1 1), tld (.bl true), tld (.bl false)]) (cs := cs11 ++ [.own [tld (fr (-1) 6), tld (fr (-1) 2), tld (fr 1 1), tld (fr (-1) 2), tld (.lst [.bl true, .bl false, .bl true])]]) rfl appE rfl (by simp)
  have d1 : (((cs11 ++ [Cell.own [tld (fr (-1) 6), tld (fr (-1) 2), tld (fr 1 1), tld (fr (-1) 2), tld (.lst [.bl true, .bl false, .bl true])]]) ++ [Cell.own [bad, .tup [.str "Nought", .int 0], tld (fr 1 1), tld (.bl true), tld (.bl false)]]).set cs11.length (.own WL))[cs11.length]? = some (.own WL) := List.getElem?_set_self (by simp)
  have d2 : (((cs11 ++ [Cell.own [tld (fr (-1) 6), tld (fr (-1) 2), tld (fr 1 1), tld (fr (-1) 2), tld (.lst [.bl true, .bl false, .bl true])]]) ++ [Cell.own [bad, .tup [.str "Nought", .int 0], tld (fr 1 1), tld (.bl true), tld (.bl false)]]).set cs11.length (.own WL))[m]? = some (.own WL) := by
    rw [List.getElem?_set_ne (by omega), List.getElem?_append_left (by simp; omega), List.getElem?_append_left m11, c11]
  have x14 : dropS _ _ = .ok .nx ⟨xV y i a b e k l r t m (some (.d (.int G30))) (some (.c cs11.length)), (((cs11 ++ [Cell.own [tld (fr (-1) 6), tld (fr (-1) 2), tld (fr 1 1), tld (fr (-1) 2), tld (.lst [.bl true, .bl false, .bl true])]]) ++ [Cell.own [bad, .tup [.str "Nought", .int 0], tld (fr 1 1), tld (.bl true), tld (.bl false)]]).set cs11.length (.own WL))⟩ := x13
  have y1 := same_cc (fa := varE 10) (fb := varE 12) (k := m) (j := cs11.length) (L := WL) (st := ⟨xV y i a b e k l r t m (some (.d (.int G30))) (some (.c cs11.length)), _⟩) rfl rfl d2 d1 (by omega) G Z
  rw [e_run1, s_d1]
  unfold m_law
  rw [seq_nx i0, seq_nx i1, seq_nx j0, seq_nx a2, seq_nx a3, seq_nx a4, seq_nx a5, seq_nx a6, seq_nx a7, seq_nx s11, seq_nx a8, seq_nx a9, seq_nx a10, seq_nx s12, seq_nx x14]
  rw [e_ret, y1, bind_ok]
  exact ⟨_, rfl⟩
end Law
end
theorem PySem.Challenge.cw_anystrength_k02_fractions_by_cross_produ_holds : PySem.Challenge.rw_anystrength_k02_fractions_by_cross_produ.Holds := by
  exact Law.ends Law.plain
