import PyProof.Rows.All
import Wide.All
import OpenK.AllK
import Wide.FinOn
import HandS.ForMost
import HandS.ForExc
import HandS.CallSlots
import HandS.Dict
import KE.KDictKeyed
import HandS.TupAny
import HandS.IsInst
import HandS.Style
import HandS.RaiseMore
import KE.GoesEnum
import KE.GoesMore
import PyProof.ReprRoads
import HandS.EndBits
import HandS.FStr
import HandS.OwnEq
import KE.KCallOwn
import HandS.Defaults
import KE.KExcSuper
import KE.KExcMake
import KE.KExcInit
import HandS.ExcInit
import HandS.TryMany
import HandS.ExcField
import HandS.ExcIs
import KE.KExcIs
import HandS.Set
import HandS.Strs
import HandS.SetBool
import HandS.SetFor
import PyProof.Rows.SortShellAny
import HandS.ClsMeth
import HandS.MakeKwOnly
import HandS.Conv
import HandS.Property
import HandS.Star
import HandS.Flow
import KE.KUnpack
import PyProof.Rows.TupTab
import PyProof.Rows.InDataRows
import PyProof.NeKinds
import KE.KDictPairs
import HandS.TupLen
import HandS.SetKeys
import HandS.Iter
import HandS.DictComp
import HandS.More
import HandS.ReplaceLit
import HandS.TupSets
import HandS.SortInts
import HandS.ExcValue
import HandS.Lambda
import HandS.EndTab
import KE.KNestM
import PySem.Challenge.RW_turncalls_k12_calls_and_voices_known_by
set_option Elab.async false
set_option linter.all false
set_option maxRecDepth 100000
set_option maxHeartbeats 4000000
namespace Mi
open PySem L2
/-! ### mirror values, errors, objects of the store -/
inductive Val where
  | non | bl (b : Bool) | int (i : Int) | str (x : Str)
  | tup (xs : List Val) | lst (xs : List Val) | rol (xs : List Val)
  | ins (c : Str) (ks : List Str) (xs : List Val)
  | ref (i : Nat)
  | exv (c : Str) (ks : List Str) (xs : List Val)
  | cls (c : Str)
  /-- a tuple whose object is known -/
  | tpd (xs : List Val)
  /-- a function without parameters, made in place: where it and its code object stand, its maker's slots, which of them it has caught, what stands in them -/
  | lam (f c : Addr) (o : HO) (τ : L2.St) (js : List Nat) (xs : List Val)
structure Exc where
  cls : Str
  ks : List Str
  xs : List Val
inductive SO where
  | lst (xs : List Val)
  | ins (c : Str) (ks : List Str) (xs : List Val)
  /-- a dict whose keys are ints and texts -/
  | dk (ks : List Key) (xs : List Val)
  /-- a dict whose keys are tuples -/
  | dn (ks : List Val) (xs : List Val)
  /-- such a dict while it is walked -/
  | dz
  /-- an error that is kept as a value -/
  | exo (c : Str) (ks : List Str) (xs : List Val)
  /-- the table of the code objects that a def has made -/
  | tb
abbrev Env := List (Option Val)
abbrev Sto := List SO
abbrev Res (α : Type) := Option (Except Exc α × Sto)
abbrev M (α : Type) := Env → Sto → Res α
/-! ### how they stand in the heap -/
/-- what is fixed: the written part, where the classes stand -/
structure Kx where
  K : PySem.W.Frag
  cl : Str → Addr
  /-- the error that is being handled: where, its class, its dict -/
  ex : Option (Addr × Value × Option Addr) := none
  w : World
  /-- where the table of the code objects stands that the law's def has made, what they are -/
  tb : Option (Addr × (Addr → HO)) := none
structure Wd where
  rho : List Addr
  fz : Addr → Prop
/-- a list that is read alone: the script, a list of the module's own top -/
def RoL (k : Kx) (H : Hp) (p : Addr) (vs : List V) : Prop := (∃ o, H p = some (.frz o (.lst vs))) ∨ SqL k.K (fun _ => none) p vs
/-- what stands in some slots -/
def Caps (τ : L2.St) : List Nat → List V → Prop
  | [], vs => vs = []
  | j :: js, vs => ∃ v r, vs = v :: r ∧ τ[j]? = some (some v) ∧ Caps τ js r
mutual
def RepV (k : Kx) (W : Wd) (H : Hp) : Val → V → Prop
  | .non, v => v = .non
  | .bl b, v => v = .bl b
  | .int i, v => v = .int i
  | .str x, v => v = .str x
  | .tup xs, v => ∃ p vs, v = .ref p ∧ SqT k.K H p vs ∧ RepL k W H xs vs
  | .lst xs, v => ∃ p vs, v = .ref p ∧ W.fz p ∧ H p = some (.lst vs) ∧ RepL k W H xs vs
  | .rol xs, v => ∃ p vs, v = .ref p ∧ RoL k H p vs ∧ RepL k W H xs vs
  | .ins c ks xs, v => ∃ p dx vs, v = .ref p ∧ W.fz p ∧ H p = some (.ins (k.cl c) dx (ks.zip vs)) ∧ ks.length = xs.length ∧ RepL k W H xs vs
  | .ref i, v => ∃ p, v = .ref p ∧ W.rho[i]? = some p
  | .cls c, v => v = .ref (k.cl c)
  | .tpd xs, v => ∃ p o vs, v = .ref p ∧ H p = some (.frz o (.tup vs)) ∧ o.dict = none ∧ RepL k W H xs vs
  | .lam f c o τ js xs, v => ∃ vs, v = .ref f ∧ W.fz c ∧ H c = some o ∧ Caps τ js vs ∧ RepL k W H xs vs
  | .exv c ks xs, v => ∃ a cls d, k.ex = some (a, cls, d) ∧ v = .ref a ∧ cls = .ref (k.cl c) ∧ ks.length = xs.length ∧ (ks = [] ∧ d = none ∨ ∃ dx vs, d = some dx ∧ H dx = some (.xd (ks.zip vs)) ∧ RepL k W H xs vs)
def RepL (k : Kx) (W : Wd) (H : Hp) : List Val → List V → Prop
  | [], vs => vs = []
  | x :: xs, vs => ∃ v r, vs = v :: r ∧ RepV k W H x v ∧ RepL k W H xs r
end
def Imm : HO → Prop
  | .tup _ => True
  | .frz _ _ => True
  | .xd _ => True
  | _ => False
structure Le (W W' : Wd) (H H' : Hp) : Prop where
  rho : ∃ more, W'.rho = W.rho ++ more
  fz : ∀ p, W.fz p → W'.fz p
  imm : ∀ p o, H p = some o → Imm o → H' p = some o
  keep : ∀ p o, H p = some o → W.fz p → H' p = some o
  rest : ∀ p o, H p = some o → p ∉ W.rho → H' p = some o
  newr : ∀ p, p ∈ W'.rho → p ∈ W.rho ∨ H p = none
  newf : ∀ p, W'.fz p → W.fz p ∨ H p = none
  dom : ∀ p, H p ≠ none → H' p ≠ none
theorem Le.refl (W : Wd) (H : Hp) : Le W W H H := ⟨⟨[], by simp⟩, fun _ h => h, fun _ _ h _ => h, fun _ _ h _ => h, fun _ _ h _ => h, fun _ h => .inl h, fun _ h => .inl h, fun _ h => h⟩
theorem Le.trans {W W1 W2 : Wd} {H H1 H2 : Hp} (a : Le W W1 H H1) (b : Le W1 W2 H1 H2) : Le W W2 H H2 := by
  obtain ⟨m1, e1⟩ := a.rho
  obtain ⟨m2, e2⟩ := b.rho
  have back : ∀ p, H1 p = none → H p = none := fun p h => by
    cases q : H p with
    | none => rfl
    | some o => exact absurd h (a.dom p (by rw [q]; exact fun z => nomatch z))
  refine ⟨⟨m1 ++ m2, by rw [e2, e1, List.append_assoc]⟩, fun p h => b.fz p (a.fz p h), fun p o h i => b.imm p o (a.imm p o h i) i, fun p o h f => b.keep p o (a.keep p o h f) (a.fz p f), fun p o h n => b.rest p o (a.rest p o h n) fun m => ?_, fun p m => ?_, fun p f => ?_, fun p h => b.dom p (a.dom p h)⟩
  · rcases a.newr p m with z | z
    · exact n z
    · rw [h] at z
      cases z
  · rcases b.newr p m with z | z
    · exact a.newr p z
    · exact .inr (back p z)
  · rcases b.newf p f with z | z
    · exact a.newf p z
    · exact .inr (back p z)
theorem Le.sqT {k : Kx} {W W' : Wd} {H H' : Hp} {p : Addr} {vs : List V} (l : Le W W' H H') (h : SqT k.K H p vs) : SqT k.K H' p vs := by
  rcases h with (h | ⟨o, h⟩) | h
  · exact .inl (.inl (l.imm _ _ h trivial))
  · exact .inl (.inr ⟨o, l.imm _ _ h trivial⟩)
  · exact .inr h
theorem Le.at {W W' : Wd} {H H' : Hp} {i : Nat} {p : Addr} (l : Le W W' H H') (h : W.rho[i]? = some p) : W'.rho[i]? = some p := by
  obtain ⟨m, e⟩ := l.rho
  rw [e, List.getElem?_append_left (List.getElem?_eq_some_iff.mp h).1]
  exact h
mutual
theorem RepV.more {k : Kx} {W W' : Wd} {H : Hp} (er : ∀ (i : Nat) p, W.rho[i]? = some p → W'.rho[i]? = some p) (ef : ∀ p, W.fz p → W'.fz p) : ∀ {x : Val} {v : V}, RepV k W H x v → RepV k W' H x v
  | .non, _, h => h
  | .bl _, _, h => h
  | .int _, _, h => h
  | .str _, _, h => h
  | .tup xs, _, h => by
    obtain ⟨p, vs, e, s, r⟩ := h
    exact ⟨p, vs, e, s, RepL.more er ef r⟩
  | .lst xs, _, h => by
    obtain ⟨p, vs, e, f, s, r⟩ := h
    exact ⟨p, vs, e, ef _ f, s, RepL.more er ef r⟩
  | .rol xs, _, h => by
    obtain ⟨p, vs, e, s, r⟩ := h
    exact ⟨p, vs, e, s, RepL.more er ef r⟩
  | .ins c ks xs, _, h => by
    obtain ⟨p, dx, vs, e, f, s, n, r⟩ := h
    exact ⟨p, dx, vs, e, ef _ f, s, n, RepL.more er ef r⟩
  | .ref i, _, h => by
    obtain ⟨p, e, s⟩ := h
    exact ⟨p, e, er _ _ s⟩
  | .cls _, _, h => h
  | .tpd xs, _, h => by
    obtain ⟨p, o, vs, e, s, d, r⟩ := h
    exact ⟨p, o, vs, e, s, d, RepL.more er ef r⟩
  | .lam f c o τ js xs, _, h => by
    obtain ⟨vs, e, f, s, cp, r⟩ := h
    exact ⟨vs, e, ef _ f, s, cp, RepL.more er ef r⟩
  | .exv c ks xs, _, h => by
    obtain ⟨a, cls, d, h1, h2, h3, h4, h5⟩ := h
    refine ⟨a, cls, d, h1, h2, h3, h4, ?_⟩
    rcases h5 with h5 | ⟨dx, vs, e1, e2, r⟩
    · exact .inl h5
    · exact .inr ⟨dx, vs, e1, e2, RepL.more er ef r⟩
theorem RepL.more {k : Kx} {W W' : Wd} {H : Hp} (er : ∀ (i : Nat) p, W.rho[i]? = some p → W'.rho[i]? = some p) (ef : ∀ p, W.fz p → W'.fz p) : ∀ {xs : List Val} {vs : List V}, RepL k W H xs vs → RepL k W' H xs vs
  | [], _, h => h
  | x :: xs, _, h => by
    obtain ⟨v, r, e, h1, h2⟩ := h
    exact ⟨v, r, e, RepV.more er ef h1, RepL.more er ef h2⟩
end
mutual
/-- an object that no value speaks of may change -/
theorem RepV.aside {k : Kx} {W : Wd} {H : Hp} {D : Addr} {acc : List V} {o : HO} (hf : ¬ W.fz D) (hD : H D = some (.lst acc)) : ∀ {x : Val} {v : V}, RepV k W H x v → RepV k W (upd H D o) x v
  | .non, _, h => h
  | .bl _, _, h => h
  | .int _, _, h => h
  | .str _, _, h => h
  | .tup xs, _, h => by
    obtain ⟨p, vs, e, s, r⟩ := h
    refine ⟨p, vs, e, ?_, RepL.aside hf hD r⟩
    rcases s with (s | ⟨u, s⟩) | s
    · exact .inl (.inl (by rw [upd_ne (ne_of s hD (fun z => nomatch z))]; exact s))
    · exact .inl (.inr ⟨u, by rw [upd_ne (ne_of s hD (fun z => nomatch z))]; exact s⟩)
    · exact .inr s
  | .lst xs, _, h => by
    obtain ⟨p, vs, e, f, s, r⟩ := h
    have ne : p ≠ D := fun z => hf (z ▸ f)
    exact ⟨p, vs, e, f, by rw [upd_ne ne]; exact s, RepL.aside hf hD r⟩
  | .rol xs, _, h => by
    obtain ⟨p, vs, e, s, r⟩ := h
    refine ⟨p, vs, e, ?_, RepL.aside hf hD r⟩
    rcases s with ⟨u, s⟩ | s
    · exact .inl ⟨u, by rw [upd_ne (ne_of s hD (fun z => nomatch z))]; exact s⟩
    · exact .inr s
  | .ins c ks xs, _, h => by
    obtain ⟨p, dx, vs, e, f, s, n, r⟩ := h
    have ne : p ≠ D := fun z => hf (z ▸ f)
    exact ⟨p, dx, vs, e, f, by rw [upd_ne ne]; exact s, n, RepL.aside hf hD r⟩
  | .ref i, _, h => h
  | .cls _, _, h => h
  | .tpd xs, _, h => by
    obtain ⟨p, o, vs, e, s, d, r⟩ := h
    exact ⟨p, o, vs, e, by rw [upd_ne (ne_of s hD (fun z => nomatch z))]; exact s, d, RepL.aside hf hD r⟩
  | .lam f c o τ js xs, _, h => by
    obtain ⟨vs, e, f, s, cp, r⟩ := h
    have ne : c ≠ D := fun z => hf (z ▸ f)
    exact ⟨vs, e, f, by rw [upd_ne ne]; exact s, cp, RepL.aside hf hD r⟩
  | .exv c ks xs, _, h => by
    obtain ⟨a, cls, d, h1, h2, h3, h4, h5⟩ := h
    refine ⟨a, cls, d, h1, h2, h3, h4, ?_⟩
    rcases h5 with h5 | ⟨dx, vs, e1, e2, r⟩
    · exact .inl h5
    · exact .inr ⟨dx, vs, e1, by rw [upd_ne (ne_of e2 hD (fun z => nomatch z))]; exact e2, RepL.aside hf hD r⟩
theorem RepL.aside {k : Kx} {W : Wd} {H : Hp} {D : Addr} {acc : List V} {o : HO} (hf : ¬ W.fz D) (hD : H D = some (.lst acc)) : ∀ {xs : List Val} {vs : List V}, RepL k W H xs vs → RepL k W (upd H D o) xs vs
  | [], _, h => h
  | x :: xs, _, h => by
    obtain ⟨v, r, e, h1, h2⟩ := h
    exact ⟨v, r, e, RepV.aside hf hD h1, RepL.aside hf hD h2⟩
end
mutual
theorem RepV.le {k : Kx} {W W' : Wd} {H H' : Hp} (l : Le W W' H H') : ∀ {x : Val} {v : V}, RepV k W H x v → RepV k W' H' x v
  | .non, _, h => h
  | .bl _, _, h => h
  | .int _, _, h => h
  | .str _, _, h => h
  | .tup xs, _, h => by
    obtain ⟨p, vs, e, s, r⟩ := h
    exact ⟨p, vs, e, l.sqT s, RepL.le l r⟩
  | .lst xs, _, h => by
    obtain ⟨p, vs, e, f, s, r⟩ := h
    exact ⟨p, vs, e, l.fz _ f, l.keep _ _ s f, RepL.le l r⟩
  | .rol xs, _, h => by
    obtain ⟨p, vs, e, s, r⟩ := h
    refine ⟨p, vs, e, ?_, RepL.le l r⟩
    rcases s with ⟨o, s⟩ | s
    · exact .inl ⟨o, l.imm _ _ s trivial⟩
    · exact .inr s
  | .ins c ks xs, _, h => by
    obtain ⟨p, dx, vs, e, f, s, n, r⟩ := h
    exact ⟨p, dx, vs, e, l.fz _ f, l.keep _ _ s f, n, RepL.le l r⟩
  | .ref i, _, h => by
    obtain ⟨p, e, s⟩ := h
    exact ⟨p, e, l.at s⟩
  | .cls _, _, h => h
  | .tpd xs, _, h => by
    obtain ⟨p, o, vs, e, s, d, r⟩ := h
    exact ⟨p, o, vs, e, l.imm _ _ s trivial, d, RepL.le l r⟩
  | .lam f c o τ js xs, _, h => by
    obtain ⟨vs, e, f, s, cp, r⟩ := h
    exact ⟨vs, e, l.fz _ f, l.keep _ _ s f, cp, RepL.le l r⟩
  | .exv c ks xs, _, h => by
    obtain ⟨a, cls, d, h1, h2, h3, h4, h5⟩ := h
    refine ⟨a, cls, d, h1, h2, h3, h4, ?_⟩
    rcases h5 with h5 | ⟨dx, vs, e1, e2, r⟩
    · exact .inl h5
    · exact .inr ⟨dx, vs, e1, l.imm _ _ e2 trivial, RepL.le l r⟩
theorem RepL.le {k : Kx} {W W' : Wd} {H H' : Hp} (l : Le W W' H H') : ∀ {xs : List Val} {vs : List V}, RepL k W H xs vs → RepL k W' H' xs vs
  | [], _, h => h
  | x :: xs, _, h => by
    obtain ⟨v, r, e, h1, h2⟩ := h
    exact ⟨v, r, e, RepV.le l h1, RepL.le l h2⟩
end
theorem RepL.len {k : Kx} {W : Wd} {H : Hp} : ∀ {xs : List Val} {vs : List V}, RepL k W H xs vs → vs.length = xs.length
  | [], _, h => by
    have e : _ = _ := h
    rw [e]
    rfl
  | x :: xs, _, h => by
    obtain ⟨v, r, rfl, h1, h2⟩ := h
    simp [RepL.len h2]
theorem RepL.get {k : Kx} {W : Wd} {H : Hp} : ∀ {xs : List Val} {vs : List V} {i : Nat} {x : Val}, RepL k W H xs vs → xs[i]? = some x → ∃ v, vs[i]? = some v ∧ RepV k W H x v
  | [], _, _, _, h, e => by simp at e
  | y :: xs, _, i, x, h, e => by
    obtain ⟨v, r, rfl, h1, h2⟩ := h
    cases i with
    | zero =>
      have e' : y = x := by simpa using e
      subst e'
      exact ⟨v, rfl, h1⟩
    | succ i => exact RepL.get (i := i) h2 (by simpa using e)
theorem RepL.append {k : Kx} {W : Wd} {H : Hp} : ∀ {xs ys : List Val} {vs us : List V}, RepL k W H xs vs → RepL k W H ys us → RepL k W H (xs ++ ys) (vs ++ us)
  | [], _, _, _, h, g => by
    have e : _ = _ := h
    rw [e]
    exact g
  | x :: xs, _, _, _, h, g => by
    obtain ⟨v, r, rfl, h1, h2⟩ := h
    exact ⟨v, _, rfl, h1, RepL.append h2 g⟩
theorem RepL.cons {k : Kx} {W : Wd} {H : Hp} {x : Val} {xs : List Val} {v : V} {vs : List V} (h : RepV k W H x v) (t : RepL k W H xs vs) : RepL k W H (x :: xs) (v :: vs) := ⟨v, vs, rfl, h, t⟩
theorem RepL.take {k : Kx} {W : Wd} {H : Hp} : ∀ {xs : List Val} {vs : List V} (n : Nat), RepL k W H xs vs → RepL k W H (xs.take n) (vs.take n)
  | [], _, n, h => by
    have e : _ = _ := h
    rw [e]
    cases n <;> rfl
  | x :: xs, _, 0, h => rfl
  | x :: xs, _, n + 1, h => by
    obtain ⟨v, r, rfl, h1, h2⟩ := h
    exact ⟨v, _, rfl, h1, RepL.take n h2⟩
theorem RepL.drop {k : Kx} {W : Wd} {H : Hp} : ∀ {xs : List Val} {vs : List V} (n : Nat), RepL k W H xs vs → RepL k W H (xs.drop n) (vs.drop n)
  | [], _, n, h => by
    have e : _ = _ := h
    rw [e]
    cases n <;> rfl
  | x :: xs, _, 0, h => h
  | x :: xs, _, n + 1, h => by
    obtain ⟨v, r, rfl, h1, h2⟩ := h
    exact RepL.drop n h2
theorem RepL.set {k : Kx} {W : Wd} {H : Hp} {x : Val} {v : V} (h : RepV k W H x v) : ∀ {xs : List Val} {vs : List V} (n : Nat), RepL k W H xs vs → RepL k W H (xs.set n x) (vs.set n v)
  | [], _, n, g => by
    have e : _ = _ := g
    rw [e]
    cases n <;> rfl
  | y :: xs, _, 0, g => by
    obtain ⟨u, r, rfl, h1, h2⟩ := g
    exact ⟨v, r, rfl, h, h2⟩
  | y :: xs, _, n + 1, g => by
    obtain ⟨u, r, rfl, h1, h2⟩ := g
    exact ⟨u, _, rfl, h1, RepL.set h n h2⟩
theorem RepL.eraseIdx {k : Kx} {W : Wd} {H : Hp} : ∀ {xs : List Val} {vs : List V} (n : Nat), RepL k W H xs vs → RepL k W H (xs.eraseIdx n) (vs.eraseIdx n)
  | [], _, n, g => by
    have e : _ = _ := g
    rw [e]
    cases n <;> rfl
  | y :: xs, _, 0, g => by
    obtain ⟨u, r, rfl, h1, h2⟩ := g
    exact h2
  | y :: xs, _, n + 1, g => by
    obtain ⟨u, r, rfl, h1, h2⟩ := g
    exact ⟨u, _, rfl, h1, RepL.eraseIdx n h2⟩
theorem RepL.reverse {k : Kx} {W : Wd} {H : Hp} : ∀ {xs : List Val} {vs : List V}, RepL k W H xs vs → RepL k W H xs.reverse vs.reverse
  | [], _, h => by
    have e : _ = _ := h
    rw [e]
    rfl
  | x :: xs, _, h => by
    obtain ⟨v, r, rfl, h1, h2⟩ := h
    rw [List.reverse_cons, List.reverse_cons]
    exact RepL.append (RepL.reverse h2) ⟨v, [], rfl, h1, rfl⟩
theorem RepL.map {k : Kx} {W : Wd} {H : Hp} {α : Type} {f : α → Val} {g : α → V} (h : ∀ a, RepV k W H (f a) (g a)) : ∀ l : List α, RepL k W H (l.map f) (l.map g)
  | [] => rfl
  | a :: l => ⟨_, _, rfl, h a, RepL.map h l⟩
def RepE (k : Kx) (W : Wd) (H : Hp) : Env → L2.St → Prop
  | [], σ => σ = []
  | e :: es, σ => ∃ o r, σ = o :: r ∧ (∀ x, e = some x → ∃ v, o = some v ∧ RepV k W H x v) ∧ RepE k W H es r
theorem RepE.le {k : Kx} {W W' : Wd} {H H' : Hp} (l : Le W W' H H') : ∀ {env : Env} {σ : L2.St}, RepE k W H env σ → RepE k W' H' env σ
  | [], _, h => h
  | e :: es, _, h => by
    obtain ⟨o, r, e1, h1, h2⟩ := h
    refine ⟨o, r, e1, fun x hx => ?_, RepE.le l h2⟩
    obtain ⟨v, e2, h3⟩ := h1 x hx
    exact ⟨v, e2, h3.le l⟩
theorem RepE.get {k : Kx} {W : Wd} {H : Hp} : ∀ {env : Env} {σ : L2.St} {i : Nat} {x : Val}, RepE k W H env σ → env[i]? = some (some x) → ∃ v, σ[i]? = some (some v) ∧ RepV k W H x v
  | [], _, _, _, h, e => by simp at e
  | y :: es, _, i, x, h, e => by
    obtain ⟨o, r, rfl, h1, h2⟩ := h
    cases i with
    | zero =>
      have e' : y = some x := by simpa using e
      obtain ⟨v, e2, h3⟩ := h1 x e'
      exact ⟨v, by rw [e2]; rfl, h3⟩
    | succ i => exact RepE.get (i := i) h2 (by simpa using e)
theorem RepE.set {k : Kx} {W : Wd} {H : Hp} {x : Val} {v : V} (h : RepV k W H x v) : ∀ {env : Env} {σ : L2.St} (n : Nat), RepE k W H env σ → RepE k W H (env.set n (some x)) (σ.set n (some v))
  | [], _, n, g => by
    have e : _ = _ := g
    rw [e]
    cases n <;> rfl
  | y :: es, _, 0, g => by
    obtain ⟨o, r, rfl, h1, h2⟩ := g
    exact ⟨some v, r, rfl, fun z hz => ⟨v, rfl, by cases hz; exact h⟩, h2⟩
  | y :: es, _, n + 1, g => by
    obtain ⟨o, r, rfl, h1, h2⟩ := g
    exact ⟨o, _, rfl, h1, RepE.set h n h2⟩
/-- names forgotten -/
theorem RepE.wipe1 {k : Kx} {W : Wd} {H : Hp} : ∀ {env : Env} {σ : L2.St} (n : Nat) (o : Option V), RepE k W H env σ → RepE k W H (env.set n none) (σ.set n o)
  | [], _, n, _, g => by
    have e : _ = _ := g
    rw [e]
    cases n <;> rfl
  | y :: es, _, 0, o, g => by
    obtain ⟨o', r, rfl, h1, h2⟩ := g
    exact ⟨o, r, rfl, fun z hz => (by cases hz), h2⟩
  | y :: es, _, n + 1, o, g => by
    obtain ⟨o', r, rfl, h1, h2⟩ := g
    exact ⟨o', _, rfl, h1, RepE.wipe1 n o h2⟩
theorem RepE.len {k : Kx} {W : Wd} {H : Hp} : ∀ {env : Env} {σ : L2.St}, RepE k W H env σ → σ.length = env.length
  | [], _, h => by
    have e : _ = _ := h
    rw [e]
    rfl
  | y :: es, _, h => by
    obtain ⟨o, r, rfl, h1, h2⟩ := h
    simp [RepE.len h2]
mutual
/-- a value as a key of a dict -/
def nkOf : Val → Option NestedKey
  | .non => some .none
  | .bl b => some (.num (if b then 1 else 0))
  | .int i => some (.num i)
  | .str x => some (.text x)
  | .tup xs => match nksOf xs with
    | some ks => some (.tup ks)
    | none => none
  | _ => none
def nksOf : List Val → Option (List NestedKey)
  | [] => some []
  | x :: xs => match nkOf x, nksOf xs with
    | some a, some b => some (a :: b)
    | _, _ => none
end
/-- may stand as a key of a dict of tuples -/
def tupKey (a : Val) : Option NestedKey := match a with
  | .tup xs => match nkOf (.tup xs) with
    | some n => if n.depth ≤ 8 then some n else none
    | none => none
  | _ => none
def keysD : List Val → Option (List NestedKey)
  | [] => some []
  | x :: xs => match tupKey x, keysD xs with
    | some a, some b => some (a :: b)
    | _, _ => none
/-- a dict whose keys are tuples: which keys, where they stand, what it holds -/
def DctO (w : World) (p : Addr) (ks : List NestedKey) (as : List Addr) (us : List V) : HO := .ext fun h =>
  (p == sysModules) = false ∧ ∃ xs : List (NestedKey × Addr × Value), xs.map (·.1) = ks ∧ xs.map (·.2.1) = as ∧ Vals us (xs.map (·.2.2)) ∧ (xs.map (·.1)).Nodup ∧
    ∃ o es ep, h.get? p = some o ∧ o.ExactDict ∧ o.data = .dict es ep ∧ es.toList = xs.map fun x => ⟨x.1.hash w, .ref x.2.1, x.2.2⟩
/-- an error object of the class C at a, its dict at d -/
def ExV (C : Addr) (d : Option Addr) (a : Addr) : HO := .ext fun h => ∃ (oe : Obj) (vs : Array Value), h.get? a = some oe ∧ Zc (.ref C) d oe ∧ oe.data = .fields vs
def RepO (k : Kx) (W : Wd) (H : Hp) : SO → Addr → Prop
  | .lst xs, p => ∃ vs, H p = some (.lst vs) ∧ RepL k W H xs vs
  | .ins c ks xs, p => ∃ dx vs, H p = some (.ins (k.cl c) dx (ks.zip vs)) ∧ ks.length = xs.length ∧ RepL k W H xs vs
  | .dk ks xs, p => ∃ us, H p = some (.dK (ks.zip us)) ∧ ks.length = xs.length ∧ RepL k W H xs us
  | .dn ks xs, p => ∃ ns as us, H p = some (DctO k.w p ns as us) ∧ keysD ks = some ns ∧ RepL k W H ks (as.map V.ref) ∧ RepL k W H xs us
  | .dz, p => ∃ od u, H p = some (.frz od u)
  | .tb, p => ∃ o ps, k.tb = some (p, o) ∧ H p = some (.tbl ps) ∧ TriplesOk ps.toList ∧ ∀ pos v, codeAmong pos ps.toList = some v → ∃ d, v = .ref d ∧ W.fz d ∧ H d = some (o d)
  | .exo c ks xs, p => ∃ d, H p = some (ExV (k.cl c) d p) ∧ ks.length = xs.length ∧ (ks = [] ∧ d = none ∨ ∃ dx vs, d = some dx ∧ H dx = some (.xd (ks.zip vs)) ∧ RepL k W H xs vs)
structure Ok (k : Kx) (W : Wd) (H : Hp) (st : Sto) : Prop where
  nd : W.rho.Nodup
  len : W.rho.length = st.length
  fzs : ∀ p, W.fz p → H p ≠ none
  apart : ∀ p ∈ W.rho, ¬ W.fz p
  obj : ∀ (i : Nat) o p, st[i]? = some o → W.rho[i]? = some p → RepO k W H o p
theorem Ok.at {k : Kx} {W : Wd} {H : Hp} {st : Sto} {i : Nat} {o : SO} (h : Ok k W H st) (e : st[i]? = some o) : ∃ p, W.rho[i]? = some p ∧ RepO k W H o p := by
  have hi : i < W.rho.length := by
    rw [h.len]
    exact (List.getElem?_eq_some_iff.mp e).1
  exact ⟨W.rho[i], List.getElem?_eq_getElem hi, h.obj i o _ e (List.getElem?_eq_getElem hi)⟩
theorem Ok.there {k : Kx} {W : Wd} {H : Hp} {st : Sto} {p : Addr} (h : Ok k W H st) (hp : p ∈ W.rho) : H p ≠ none := by
  obtain ⟨i, hi, e⟩ := List.getElem_of_mem hp
  have hs : i < st.length := by
    rw [← h.len]
    exact hi
  have r := h.obj i st[i] p (List.getElem?_eq_getElem hs) (by rw [List.getElem?_eq_getElem hi, e])
  cases q : st[i] with
  | lst xs =>
    rw [q] at r
    obtain ⟨vs, z, _⟩ := r
    rw [z]
    exact fun z => nomatch z
  | ins c ks xs =>
    rw [q] at r
    obtain ⟨dx, vs, z, _⟩ := r
    rw [z]
    exact fun z => nomatch z
  | dk ks xs =>
    rw [q] at r
    obtain ⟨us, z, _⟩ := r
    rw [z]
    exact fun z => nomatch z
  | dn ks xs =>
    rw [q] at r
    obtain ⟨ns, as, us, z, _⟩ := r
    rw [z]
    exact fun z => nomatch z
  | dz =>
    rw [q] at r
    obtain ⟨od, u, z⟩ := r
    rw [z]
    exact fun z => nomatch z
  | exo c ks xs =>
    rw [q] at r
    obtain ⟨d, z, _⟩ := r
    rw [z]
    exact fun z => nomatch z
  | tb =>
    rw [q] at r
    obtain ⟨_, ps, _, z, _⟩ := r
    rw [z]
    exact fun z => nomatch z
/-- an object that is no store object and not frozen is laid (a new one) -/
theorem upd_dom {H : Hp} {p q : Addr} {o : HO} (h : H q ≠ none) : upd H p o q ≠ none := by
  by_cases e : q = p
  · rw [e, upd_same]
    exact fun z => nomatch z
  · rw [upd_ne e]
    exact h
theorem Le.new {W : Wd} {H : Hp} {p : Addr} {o : HO} (h : H p = none) : Le W W H (upd H p o) :=
  ⟨⟨[], by simp⟩, fun _ h => h, fun q u e _ => by rw [upd_ne (ne_of_none e h)]; exact e, fun q u e _ => by rw [upd_ne (ne_of_none e h)]; exact e, fun q u e _ => by rw [upd_ne (ne_of_none e h)]; exact e, fun _ h => .inl h, fun _ h => .inl h, fun _ h => upd_dom h⟩
theorem RepO.le {k : Kx} {W W' : Wd} {H H' : Hp} (l : Le W W' H H') {o : SO} {p : Addr} (e : H' p = H p) (h : RepO k W H o p) : RepO k W' H' o p := by
  cases o with
  | lst xs =>
    obtain ⟨vs, z, r⟩ := h
    exact ⟨vs, e.trans z, r.le l⟩
  | ins c ks xs =>
    obtain ⟨dx, vs, z, n, r⟩ := h
    exact ⟨dx, vs, e.trans z, n, r.le l⟩
  | dk ks xs =>
    obtain ⟨us, z, n, r⟩ := h
    exact ⟨us, e.trans z, n, r.le l⟩
  | dn ks xs =>
    obtain ⟨ns, as, us, z, n, r, r2⟩ := h
    exact ⟨ns, as, us, e.trans z, n, r.le l, r2.le l⟩
  | dz =>
    obtain ⟨od, u, z⟩ := h
    exact ⟨od, u, e.trans z⟩
  | exo c ks xs =>
    obtain ⟨d, z, n, r⟩ := h
    refine ⟨d, e.trans z, n, ?_⟩
    rcases r with r | ⟨dx, vs, r1, r2, r3⟩
    · exact .inl r
    · exact .inr ⟨dx, vs, r1, l.imm _ _ r2 trivial, r3.le l⟩
  | tb =>
    obtain ⟨o, ps, z0, z, t, r⟩ := h
    refine ⟨o, ps, z0, e.trans z, t, fun pos v q => ?_⟩
    obtain ⟨d, e1, e2, e3⟩ := r pos v q
    exact ⟨d, e1, l.fz _ e2, l.keep _ _ e3 e2⟩
theorem Ok.new {k : Kx} {W : Wd} {H : Hp} {st : Sto} {p : Addr} {o : HO} (h : Ok k W H st) (hp : H p = none) : Ok k W (upd H p o) st :=
  ⟨h.nd, h.len, fun q f => by
    by_cases e : q = p
    · rw [e, upd_same]
      exact fun z => nomatch z
    · rw [upd_ne e]
      exact h.fzs q f, h.apart, fun i u q e1 e2 => by
    have hq : q ∈ W.rho := List.mem_of_getElem? e2
    have ne : q ≠ p := fun z => h.there hq (by rw [z]; exact hp)
    exact (h.obj i u q e1 e2).le (Le.new hp) (upd_ne ne)⟩
/-- a new frozen object -/
def Wd.fr (W : Wd) (p : Addr) : Wd := ⟨W.rho, fun q => W.fz q ∨ q = p⟩
theorem RepV.fr {k : Kx} {W : Wd} {H : Hp} {p : Addr} {x : Val} {v : V} (h : RepV k W H x v) : RepV k (W.fr p) H x v := RepV.more (W := W) (W' := W.fr p) (fun _ _ h => h) (fun _ h => Or.inl h) h
theorem RepO.fr {k : Kx} {W : Wd} {H : Hp} {p q : Addr} {o : SO} (h : RepO k W H o q) : RepO k (W.fr p) H o q := by
  cases o with
  | lst xs =>
    obtain ⟨vs, z, r⟩ := h
    exact ⟨vs, z, r.more (W := W) (W' := W.fr p) (fun _ _ h => h) fun _ h => Or.inl h⟩
  | ins c ks xs =>
    obtain ⟨dx, vs, z, n, r⟩ := h
    exact ⟨dx, vs, z, n, r.more (W := W) (W' := W.fr p) (fun _ _ h => h) fun _ h => Or.inl h⟩
  | dk ks xs =>
    obtain ⟨us, z, n, r⟩ := h
    exact ⟨us, z, n, r.more (W := W) (W' := W.fr p) (fun _ _ h => h) fun _ h => Or.inl h⟩
  | dn ks xs =>
    obtain ⟨ns, as, us, z, n, r, r2⟩ := h
    exact ⟨ns, as, us, z, n, r.more (W := W) (W' := W.fr p) (fun _ _ h => h) (fun _ h => Or.inl h), r2.more (W := W) (W' := W.fr p) (fun _ _ h => h) fun _ h => Or.inl h⟩
  | dz => exact h
  | exo c ks xs =>
    obtain ⟨d, z, n, r⟩ := h
    refine ⟨d, z, n, ?_⟩
    rcases r with r | ⟨dx, vs, r1, r2, r3⟩
    · exact .inl r
    · exact .inr ⟨dx, vs, r1, r2, r3.more (W := W) (W' := W.fr p) (fun _ _ h => h) fun _ h => Or.inl h⟩
  | tb =>
    obtain ⟨o, ps, z0, z, t, r⟩ := h
    refine ⟨o, ps, z0, z, t, fun pos v q => ?_⟩
    obtain ⟨d, e1, e2, e3⟩ := r pos v q
    exact ⟨d, e1, .inl e2, e3⟩
theorem Ok.fr {k : Kx} {W : Wd} {H : Hp} {st : Sto} {p : Addr} (h : Ok k W H st) (hp : H p ≠ none) (hq : p ∉ W.rho) : Ok k (W.fr p) H st :=
  ⟨h.nd, h.len, fun q f => by
    rcases f with f | f
    · exact h.fzs q f
    · rw [f]
      exact hp, fun q m f => by
    rcases f with f | f
    · exact h.apart q m f
    · exact hq (f ▸ m), fun i u q e1 e2 => (h.obj i u q e1 e2).fr⟩
theorem Ok.newFr {k : Kx} {W : Wd} {H : Hp} {st : Sto} {p : Addr} {o : HO} (h : Ok k W H st) (hp : H p = none) : Le W (W.fr p) H (upd H p o) ∧ Ok k (W.fr p) (upd H p o) st :=
  ⟨⟨⟨[], by simp [Wd.fr]⟩, fun _ h => .inl h, (Le.new (W := W) hp).imm, (Le.new (W := W) hp).keep, (Le.new (W := W) hp).rest, fun _ h => .inl h, fun q f => by
    rcases f with f | f
    · exact .inl f
    · exact .inr (f ▸ hp), fun _ h => upd_dom h⟩, (h.new hp).fr (by rw [upd_same]; exact fun z => nomatch z) fun z => h.there z hp⟩
/-- a new store object -/
def Wd.ob (W : Wd) (p : Addr) : Wd := ⟨W.rho ++ [p], W.fz⟩
theorem Ok.newOb {k : Kx} {W : Wd} {H : Hp} {st : Sto} {p : Addr} {o : HO} {u : SO} (h : Ok k W H st) (hp : H p = none) (hu : RepO k (W.ob p) (upd H p o) u p) :
    Le W (W.ob p) H (upd H p o) ∧ Ok k (W.ob p) (upd H p o) (st ++ [u]) := by
  have l : Le W (W.ob p) H (upd H p o) := ⟨⟨[p], rfl⟩, fun _ h => h, (Le.new (W := W) hp).imm, (Le.new (W := W) hp).keep, (Le.new (W := W) hp).rest, fun q m => by
    rcases List.mem_append.mp (show q ∈ W.rho ++ [p] from m) with m | m
    · exact .inl m
    · exact .inr (by rw [List.mem_singleton.mp m]; exact hp), fun _ h => .inl h, fun _ h => upd_dom h⟩
  refine ⟨l, ⟨?_, ?_, fun q f => ?_, fun q m f => ?_, fun i v q e1 e2 => ?_⟩⟩
  · show (W.rho ++ [p]).Nodup
    rw [List.nodup_append]
    exact ⟨h.nd, by simp, fun a ha b hb e => h.there ha (by rw [e, List.mem_singleton.mp hb]; exact hp)⟩
  · show (W.rho ++ [p]).length = (st ++ [u]).length
    rw [List.length_append, List.length_append, h.len]
    rfl
  · by_cases e : q = p
    · rw [e, upd_same]
      exact fun z => nomatch z
    · rw [upd_ne e]
      exact h.fzs q f
  · rcases List.mem_append.mp (show q ∈ W.rho ++ [p] from m) with m | m
    · exact h.apart q m f
    · rw [List.mem_singleton.mp m] at f
      exact h.fzs p f hp
  · have e2' : (W.rho ++ [p])[i]? = some q := e2
    by_cases hi : i < st.length
    · rw [List.getElem?_append_left hi] at e1
      rw [List.getElem?_append_left (by rw [h.len]; exact hi)] at e2'
      have ne : q ≠ p := fun z => h.there (List.mem_of_getElem? e2') (by rw [z]; exact hp)
      exact (h.obj i v q e1 e2').le l (upd_ne ne)
    · rw [List.getElem?_append_right (by omega)] at e1
      rw [List.getElem?_append_right (by rw [h.len]; omega), h.len] at e2'
      have hz : i - st.length = 0 := by
        by_cases z : i - st.length = 0
        · exact z
        · rw [List.getElem?_eq_none (by simp; omega)] at e1
          cases e1
      rw [hz] at e1 e2'
      cases e1
      cases e2'
      exact hu
theorem nodup_ix_addr {l : List Addr} (nd : l.Nodup) {i j : Nat} {x : Addr} (a : l[i]? = some x) (b : l[j]? = some x) : i = j := by
  obtain ⟨h1, e1⟩ := List.getElem?_eq_some_iff.mp a
  obtain ⟨h2, e2⟩ := List.getElem?_eq_some_iff.mp b
  exact (List.getElem_inj nd).mp (e1.trans e2.symm)
/-- a store object is changed -/
theorem Ok.put {k : Kx} {W : Wd} {H : Hp} {st : Sto} {i : Nat} {p : Addr} {o o' : HO} {u : SO} (h : Ok k W H st) (hi : W.rho[i]? = some p) (ho : H p = some o) (hm : ¬ Imm o) (hu : RepO k W (upd H p o') u p) :
    Le W W H (upd H p o') ∧ Ok k W (upd H p o') (st.set i u) := by
  have hp : p ∈ W.rho := List.mem_of_getElem? hi
  have l : Le W W H (upd H p o') := ⟨⟨[], by simp⟩, fun _ h => h, fun q v e m => by
    have ne : q ≠ p := fun z => by
      rw [z, ho] at e
      cases e
      exact hm m
    rw [upd_ne ne]
    exact e, fun q v e f => by
    have ne : q ≠ p := fun z => h.apart p hp (z ▸ f)
    rw [upd_ne ne]
    exact e, fun q v e f => by
    have ne : q ≠ p := fun z => f (z ▸ hp)
    rw [upd_ne ne]
    exact e, fun _ h => .inl h, fun _ h => .inl h, fun _ h => upd_dom h⟩
  refine ⟨l, ⟨h.nd, by rw [List.length_set]; exact h.len, fun q f => ?_, h.apart, fun j v q e1 e2 => ?_⟩⟩
  · by_cases e : q = p
    · rw [e, upd_same]
      exact fun z => nomatch z
    · rw [upd_ne e]
      exact h.fzs q f
  · by_cases e : j = i
    · subst e
      rw [hi] at e2
      cases e2
      have hl : j < st.length := by
        rw [← h.len]
        exact (List.getElem?_eq_some_iff.mp hi).1
      rw [List.getElem?_set_self hl] at e1
      cases e1
      exact hu
    · rw [List.getElem?_set_ne (Ne.symm e)] at e1
      have ne : q ≠ p := fun z => by
        subst z
        exact e (nodup_ix_addr h.nd e2 hi)
      exact (h.obj j v q e1 e2).le l (upd_ne ne)
end Mi
namespace Mi
open PySem L2
/-! ### ends, readings -/
def RepX (k : Kx) (W : Wd) (H : Hp) (x : Exc) (c : Value) (d : Option Addr) : Prop :=
  c = .ref (k.cl x.cls) ∧ x.ks.length = x.xs.length ∧ (x.ks = [] ∧ d = none ∨ ∃ a vs, d = some a ∧ H a = some (.xd (x.ks.zip vs)) ∧ RepL k W H x.xs vs)
def Fin {α β : Type} (k : Kx) (R : Wd → Hp → α → β → Prop) (E : XK) (W : Wd) (H : Hp) (Q : β → Hp → Prop) : Except Exc α × Sto → Prop
  | (.ok r, st) => ∀ W' H' v, Le W W' H H' → Ok k W' H' st → R W' H' r v → Q v H'
  | (.error x, st) => ∀ W' H' c d, Le W W' H H' → Ok k W' H' st → RepX k W' H' x c d → E c d H'
theorem Fin.le {α β : Type} {k : Kx} {R : Wd → Hp → α → β → Prop} {E : XK} {W W1 : Wd} {H H1 : Hp} {Q : β → Hp → Prop} {o : Except Exc α × Sto} (l : Le W W1 H H1) (h : Fin k R E W H Q o) : Fin k R E W1 H1 Q o := by
  obtain ⟨r, st⟩ := o
  cases r with
  | ok r => exact fun W' H' v l' => h W' H' v (l.trans l')
  | error x => exact fun W' H' c d l' => h W' H' c d (l.trans l')
theorem Fin.mono {α β : Type} {k : Kx} {R : Wd → Hp → α → β → Prop} {E : XK} {W : Wd} {H : Hp} {Q Q' : β → Hp → Prop} {o : Except Exc α × Sto} (h : Fin k R E W H Q o) (q : ∀ v H, Q v H → Q' v H) : Fin k R E W H Q' o := by
  obtain ⟨r, st⟩ := o
  cases r with
  | ok r => exact fun W' H' v l o r => q _ _ (h W' H' v l o r)
  | error x => exact h
/-- at the world W -/
def At {α β : Type} (k : Kx) (R : Wd → Hp → α → β → Prop) (E : WX) (m : M α) (W : Wd) (σ : L2.St) (H : Hp) (Q : β → Hp → Prop) : Prop :=
  ∃ env st o, Ok k W H st ∧ RepE k W H env σ ∧ m env st = some o ∧ Fin k R (fun c d H' => E c d σ H') W H Q o
def tG {α β : Type} (k : Kx) (R : Wd → Hp → α → β → Prop) (E : WX) (m : M α) (σ : L2.St) (H : Hp) (Q : β → Hp → Prop) : Prop := ∃ W, At k R E m W σ H Q
def RB : Wd → Hp → Bool → Bool → Prop := fun _ _ a b => b = a
def tM (k : Kx) (E : WX) (m : M Val) : TE := fun σ H Q => tG k (RepV k) E m σ H Q
def tMb (k : Kx) (E : WX) (m : M Bool) : TT := fun σ H Q => tG k RB E m σ H Q
def tMa (k : Kx) (E : WX) (m : M (List Val)) : TA := fun σ H Q => tG k (RepL k) E m σ H Q
/-! ### the mirror's own words -/
def ret {α : Type} (a : α) : M α := fun _ st => some (.ok a, st)
def stuck {α : Type} : M α := fun _ _ => none
def bnd {α β : Type} (m : M α) (f : α → M β) : M β := fun env st =>
  match m env st with
  | some (.ok a, st1) => f a env st1
  | some (.error x, st1) => some (.error x, st1)
  | none => none
def lift {α : Type} (o : Sto → Option α) : M α := fun _ st => (o st).map fun c => (.ok c, st)
def var (i : Nat) : M Val := fun env st => match env[i]? with
  | some (some v) => some (.ok v, st)
  | _ => none
section
variable {k : Kx} {E : WX} {σ : L2.St} {W : Wd} {H : Hp}
theorem tG.mono {α β : Type} {R : Wd → Hp → α → β → Prop} {m : M α} {Q Q' : β → Hp → Prop} (h : tG k R E m σ H Q) (q : ∀ v H, Q v H → Q' v H) : tG k R E m σ H Q' := by
  obtain ⟨W, env, st, o, h1, h2, h3, h4⟩ := h
  exact ⟨W, env, st, o, h1, h2, h3, h4.mono q⟩
theorem At.bnd {α β γ δ : Type} {R1 : Wd → Hp → α → β → Prop} {R2 : Wd → Hp → γ → δ → Prop} {m : M α} {f : α → M γ} {Q : δ → Hp → Prop} (P : Wd → Hp → Prop) (mono : ∀ {W W' : Wd} {H H' : Hp}, Le W W' H H' → P W H → P W' H') (hp : P W H)
    (h : At k R2 E (bnd m f) W σ H Q) : tG k R1 E m σ H fun x H1 => ∃ W1 a, P W1 H1 ∧ R1 W1 H1 a x ∧ At k R2 E (f a) W1 σ H1 Q := by
  obtain ⟨env, st, o, h1, h2, h3, h4⟩ := h
  unfold Mi.bnd at h3
  cases e : m env st with
  | none =>
    rw [e] at h3
    cases h3
  | some p =>
    rw [e] at h3
    obtain ⟨r, st1⟩ := p
    cases r with
    | ok a => exact ⟨W, env, st, _, h1, h2, e, fun W' H' v l o' r' => ⟨W', a, mono l hp, r', env, st1, o, o', h2.le l, h3, h4.le l⟩⟩
    | error x =>
      cases h3
      exact ⟨W, env, st, _, h1, h2, e, h4⟩
theorem tG.bnd {α β γ δ : Type} {R1 : Wd → Hp → α → β → Prop} {R2 : Wd → Hp → γ → δ → Prop} {m : M α} {f : α → M γ} {Q : δ → Hp → Prop} (h : tG k R2 E (bnd m f) σ H Q) : tG k R1 E m σ H fun x H1 => ∃ W1 a, R1 W1 H1 a x ∧ At k R2 E (f a) W1 σ H1 Q := by
  obtain ⟨W, h⟩ := h
  exact (At.bnd (R1 := R1) (fun _ _ => True) (fun _ _ => trivial) trivial h).mono fun v H ⟨W1, a, _, h1, h2⟩ => ⟨W1, a, h1, h2⟩
theorem At.lift {α β : Type} {R : Wd → Hp → α → β → Prop} {o : Sto → Option α} {Q : β → Hp → Prop} (h : At k R E (lift o) W σ H Q) : ∃ c st, o st = some c ∧ Ok k W H st ∧ ∀ W' H' v, Le W W' H H' → Ok k W' H' st → R W' H' c v → Q v H' := by
  obtain ⟨env, st, r, h1, h2, h3, h4⟩ := h
  unfold Mi.lift at h3
  cases e : o st with
  | none =>
    rw [e] at h3
    cases h3
  | some c =>
    rw [e] at h3
    cases h3
    exact ⟨c, st, e, h1, h4⟩
/-- two operands -/
theorem tG.bin {γ δ : Type} {R2 : Wd → Hp → γ → δ → Prop} {ma mb : M Val} {f : Val → Val → M γ} {Q : δ → Hp → Prop} (h : tG k R2 E (Mi.bnd ma fun a => Mi.bnd mb fun b => f a b) σ H Q) :
    tM k E ma σ H fun x H1 => tM k E mb σ H1 fun y H2 => ∃ W a b, RepV k W H2 a x ∧ RepV k W H2 b y ∧ At k R2 E (f a b) W σ H2 Q := by
  refine tG.mono (tG.bnd (R1 := RepV k) h) fun x H1 ⟨W1, a, ra, h1⟩ => ?_
  exact (At.bnd (R1 := RepV k) (fun W H => RepV k W H a x) (fun l r => r.le l) ra h1).mono fun y H2 ⟨W2, b, r1, r2, h2⟩ => ⟨W2, a, b, r1, r2, h2⟩
end
section
variable {X : Cx} {k : Kx} {E : WX}
theorem imp {e : Expr} {t u : TE} (h : PE X e t) (i : ∀ σ H Q, u σ H Q → t σ H Q) : PE X e u := ⟨fun pins s σ H Q I q => h.run pins s σ H Q I (i σ H Q q)⟩
theorem impT {e : Expr} {t u : TT} (h : PT X e t) (i : ∀ σ H Q, u σ H Q → t σ H Q) : PT X e u := ⟨fun pins s σ H Q I q => h.run pins s σ H Q I (i σ H Q q)⟩
theorem impW {e : Expr} {t u : TT} (h : PW X e t) (i : ∀ σ H Q, u σ H Q → t σ H Q) : PW X e u := ⟨fun wh pins s σ H Q I q => h.run wh pins s σ H Q I (i σ H Q q)⟩
theorem impA {e : List Expr} {t u : TA} (h : PA X e t) (i : ∀ σ H Q, u σ H Q → t σ H Q) : PA X e u := ⟨fun pos pins s σ H Q I q => h.run pos pins s σ H Q I (i σ H Q q)⟩
theorem impS {e : Stmt} {t u : TS} (h : PS X e t) (i : ∀ D σ H, u D σ H → t D σ H) : PS X e u := ⟨fun pins s σ H D I q => h.run pins s σ H D I (i D σ H q)⟩
theorem impSs {e : List Stmt} {t u : TS} (h : PSs X e t) (i : ∀ D σ H, u D σ H → t D σ H) : PSs X e u := ⟨fun pins s σ H D I q => h.run pins s σ H D I (i D σ H q)⟩
/-! ### names, constants -/
theorem me_var (i : Nat) {x : Str} {pos : Pos} (h : PE X (.Name x pos) (tVar i)) : PE X (.Name x pos) (tM k E (var i)) := imp h fun σ H Q ⟨W, env, st, o, h1, h2, h3, h4⟩ => by
  unfold var at h3
  split at h3
  · next v e =>
    cases h3
    obtain ⟨u, e2, r⟩ := h2.get e
    exact ⟨u, e2, h4 W H u (Le.refl W H) h1 r⟩
  · cases h3
/-- a value that stands everywhere for the same thing -/
def Cst (k : Kx) (a : Val) (v : V) : Prop := ∀ W H, RepV k W H a v
theorem me_c {e : Expr} {a : Val} {v : V} (h : PE X e (tC v)) (c : Cst k a v) : PE X e (tM k E (ret a)) := imp h fun σ H Q ⟨W, env, st, o, h1, h2, h3, h4⟩ => by
  cases h3
  exact h4 W H v (Le.refl W H) h1 (c W H)
theorem me_int {i : Int} {j pos} : PE X (.Constant (.int i) j pos) (tM k E (ret (.int i))) := me_c pe_int fun _ _ => rfl
theorem me_bl {b : Bool} {j pos} : PE X (.Constant (.bool b) j pos) (tM k E (ret (.bl b))) := me_c pe_bl fun _ _ => rfl
theorem me_non {j pos} : PE X (.Constant .none j pos) (tM k E (ret .non)) := me_c pe_non fun _ _ => rfl
theorem me_str {x : Str} {j pos} : PE X (.Constant (.str x) j pos) (tM k E (ret (.str x))) := me_c pe_str fun _ _ => rfl
theorem me_glob {x : Str} {a : Val} {v : V} {u : Value} {pos : Pos} (hg : Gl X x) (hm : X.mg x = some u) (r : RelV v u) (c : Cst k a v) (hd : (x == ("__debug__" : Str)) = false := by decide) : PE X (.Name x pos) (tM k E (ret a)) := me_c (pe_glob hg hm r hd) c
/-! ### operators -/
/-- f is what r asks for (nothing of the store is changed) -/
def Rd2 (k : Kx) (f : Sto → Val → Val → Option Val) (r : R2) : Prop := ∀ W H st a b x y c Q, Ok k W H st → RepV k W H a x → RepV k W H b y → f st a b = some c → (∀ W' H' v, Le W W' H H' → Ok k W' H' st → RepV k W' H' c v → Q v H') → r x y H Q
def bin (f : Sto → Val → Val → Option Val) (ma mb : M Val) : M Val := bnd ma fun a => bnd mb fun b => lift fun st => f st a b
def un (f : Sto → Val → Option Val) (ma : M Val) : M Val := bnd ma fun a => lift fun st => f st a
theorem bin_read {f : Sto → Val → Val → Option Val} {r : R2} (hr : Rd2 k f r) {ma mb : M Val} {σ : L2.St} {H : Hp} {Q : VK} (h : tM k E (bin f ma mb) σ H Q) : tOp r (tM k E ma) (tM k E mb) σ H Q := by
  refine tG.mono (tG.bin h) fun x H1 h1 => tG.mono h1 fun y H2 ⟨W, a, b, ra, rb, h2⟩ => ?_
  obtain ⟨c, st, e, o, q⟩ := h2.lift
  exact hr W H2 st a b x y c Q o ra rb e q
theorem me_op {a b : Expr} {op : Operator} {pos : Pos} {f : Sto → Val → Val → Option Val} {r : R2} {ma mb : M Val} (hr : Rd2 k f r) (ho : OpR X (binaryOp op) r) (ha : PE X a (tM k E ma)) (hb : PE X b (tM k E mb)) : PE X (.BinOp a op b pos) (tM k E (bin f ma mb)) :=
  imp (pe_op ho ha hb) fun _ _ _ h => bin_read hr h
theorem me_cmp {a b : Expr} {op : CmpOp} {pos : Pos} {f : Sto → Val → Val → Option Val} {r : R2} {ma mb : M Val} (hr : Rd2 k f r) (ho : OpR X (compareOp op) r) (hm : behindInMarks op b = false) (ha : PE X a (tM k E ma)) (hb : PE X b (tM k E mb)) :
    PE X (.Compare a [op] [b] pos) (tM k E (bin f ma mb)) := imp (pe_cmpR ho ha hb hm) fun _ _ _ h => bin_read hr h
def asBool : Val → Option Bool
  | .bl b => some b
  | _ => none
def asB (m : M Val) : M Bool := bnd m fun a => lift fun _ => asBool a
theorem asB_read {m : M Val} {σ : L2.St} {H : Hp} {Q : Bool → Hp → Prop} (h : tMb k E (asB m) σ H Q) : tM k E m σ H fun x H1 => ∃ c, x = .bl c ∧ Q c H1 := by
  refine tG.mono (tG.bnd (R1 := RepV k) h) fun x H1 ⟨W, a, ra, h1⟩ => ?_
  obtain ⟨c, st, e, o, q⟩ := h1.lift
  cases a with
  | bl b =>
    cases e
    exact ⟨_, ra, q W H1 _ (Le.refl W H1) o rfl⟩
  | _ => cases e
/-- a comparison as a test -/
theorem mt_cmp {a b : Expr} {op : CmpOp} {pos : Pos} {f : Sto → Val → Val → Option Val} {r : R2} {ma mb : M Val} (hr : Rd2 k f r) (ho : OpR X (compareOp op) r) (hm : behindInMarks op b = false) (ha : PE X a (tM k E ma)) (hb : PE X b (tM k E mb)) :
    PT X (.Compare a [op] [b] pos) (tMb k E (asB (bin f ma mb))) := impT (pt_cmpR ho ha hb hm) fun σ H Q h => by
  have h1 := bin_read (Q := fun x H1 => ∃ c, x = .bl c ∧ Q c H1) hr (asB_read h)
  exact h1
theorem mt_val {e : Expr} {m : M Val} (h : PE X e (tM k E m)) (he : ∀ whole, isTrue e X.env whole = (do let v ← whole; standAt e.pos; holding [v] (truthy v)) := by intro _; rfl) : PT X e (tMb k E (asB m)) :=
  impT (pt_val h he) fun σ H Q h => asB_read h
def andB (a b : M Bool) : M Bool := bnd a fun c => if c then b else ret false
def orB (a b : M Bool) : M Bool := bnd a fun c => if c then ret true else b
def notB (a : M Bool) : M Bool := bnd a fun c => ret (!c)
theorem At.tG {α β : Type} {R : Wd → Hp → α → β → Prop} {m : M α} {W : Wd} {σ : L2.St} {H : Hp} {Q : β → Hp → Prop} (h : At k R E m W σ H Q) : tG k R E m σ H Q := ⟨W, h⟩
theorem At.ret {α β : Type} {R : Wd → Hp → α → β → Prop} {a : α} {W : Wd} {σ : L2.St} {H : Hp} {Q : β → Hp → Prop} (h : At k R E (ret a) W σ H Q) {v : β} (r : R W H a v) : Q v H := by
  obtain ⟨env, st, o, h1, h2, h3, h4⟩ := h
  cases h3
  exact h4 W H v (Le.refl W H) h1 r
theorem mw_and1 {a : Expr} {pos : Pos} {m : M Bool} (ha : PT X a (tMb k E m)) : PW X (.BoolOp .And [a] pos) (tMb k E m) := pw_and1 ha
theorem mw_or1 {a : Expr} {pos : Pos} {m : M Bool} (ha : PT X a (tMb k E m)) : PW X (.BoolOp .Or [a] pos) (tMb k E m) := pw_or1 ha
theorem mw_and {a b : Expr} {rest : List Expr} {pos : Pos} {m n : M Bool} (ha : PT X a (tMb k E m)) (hb : PW X (.BoolOp .And (b :: rest) pos) (tMb k E n)) : PW X (.BoolOp .And (a :: b :: rest) pos) (tMb k E (andB m n)) :=
  impW (pw_and ha hb) fun σ H Q h => tG.mono (tG.bnd (R1 := RB) h) fun c H1 ⟨W, a, ra, h1⟩ => by
    cases ra
    cases c with
    | true => exact h1.tG
    | false => exact h1.ret rfl
theorem mw_or {a b : Expr} {rest : List Expr} {pos : Pos} {m n : M Bool} (ha : PT X a (tMb k E m)) (hb : PW X (.BoolOp .Or (b :: rest) pos) (tMb k E n)) : PW X (.BoolOp .Or (a :: b :: rest) pos) (tMb k E (orB m n)) :=
  impW (pw_or ha hb) fun σ H Q h => tG.mono (tG.bnd (R1 := RB) h) fun c H1 ⟨W, a, ra, h1⟩ => by
    cases ra
    cases c with
    | true => exact h1.ret rfl
    | false => exact h1.tG
theorem mt_not {a : Expr} {pos : Pos} {m : M Bool} (ha : PT X a (tMb k E m)) : PT X (.UnaryOp .Not a pos) (tMb k E (notB m)) :=
  impT (pt_not ha) fun σ H Q h => tG.mono (tG.bnd (R1 := RB) h) fun c H1 ⟨W, a, ra, h1⟩ => by
    cases ra
    exact h1.ret rfl
/-- and, or, not as values (bools; the last one may be anything) -/
def andV (a b : M Val) : M Val := bnd (asB a) fun c => if c then b else ret (.bl false)
def orV (a b : M Val) : M Val := bnd (asB a) fun c => if c then ret (.bl true) else b
def notV (a : M Val) : M Val := bnd (asB a) fun c => ret (.bl (!c))
theorem valB {γ δ : Type} {R2 : Wd → Hp → γ → δ → Prop} {m : M Val} {f : Bool → M γ} {σ : L2.St} {H : Hp} {Q : δ → Hp → Prop} (h : tG k R2 E (bnd (asB m) f) σ H Q) : tM k E m σ H fun x H1 => ∃ c, x = .bl c ∧ ∃ W, At k R2 E (f c) W σ H1 Q := by
  have h1 := asB_read (k := k) (E := E) (tG.bnd (R1 := RB) h)
  exact tG.mono h1 fun x H1 ⟨c, e, W, a, ra, h2⟩ => by
    cases ra
    exact ⟨c, e, W, h2⟩
theorem me_one {a : Expr} {op : BoolOp} {pos : Pos} {m : M Val} (ha : PE X a (tM k E m)) : PE X (.BoolOp op [a] pos) (tM k E m) := pe_one ha
theorem me_and {a b : Expr} {rest : List Expr} {pos : Pos} {m n : M Val} (ha : PE X a (tM k E m)) (hb : PE X (.BoolOp .And (b :: rest) pos) (tM k E n)) : PE X (.BoolOp .And (a :: b :: rest) pos) (tM k E (andV m n)) :=
  imp (pe_and ha hb) fun σ H Q h => tG.mono (valB h) fun x H1 ⟨c, e, W, h1⟩ => ⟨c, e, by
    cases c with
    | true => exact h1.tG
    | false => exact h1.ret rfl⟩
theorem me_not {a : Expr} {pos : Pos} {m : M Val} (ha : PE X a (tM k E m)) : PE X (.UnaryOp .Not a pos) (tM k E (notV m)) :=
  imp (pe_not ha) fun σ H Q h => tG.mono (valB h) fun x H1 ⟨c, e, W, h1⟩ => ⟨c, e, h1.ret rfl⟩
def ifV (c : M Bool) (a b : M Val) : M Val := bnd c fun c => if c then a else b
theorem me_if {c a b : Expr} {pos : Pos} {mc : M Bool} {ma mb : M Val} (hc : PT X c (tMb k E mc)) (ha : PE X a (tM k E ma)) (hb : PE X b (tM k E mb)) : PE X (.IfExp c a b pos) (tM k E (ifV mc ma mb)) :=
  imp (pe_ifExp hc ha hb) fun σ H Q h => tG.mono (tG.bnd (R1 := RB) h) fun c H1 ⟨W, a, ra, h1⟩ => by
    cases ra
    cases c with
    | true => exact h1.tG
    | false => exact h1.tG
/-- a < b < c -/
def chain (f g : Sto → Val → Val → Option Val) (ma mb mc : M Val) : M Val := bnd ma fun a => bnd mb fun b => bnd (lift fun st => (f st a b).bind asBool) fun t => if t then bnd mc fun c => lift fun st => g st b c else ret (.bl false)
theorem chain_read {f g : Sto → Val → Val → Option Val} {r r' : R2} (hr : Rd2 k f r) (hr' : Rd2 k g r') {ma mb mc : M Val} {σ : L2.St} {H : Hp} {Q : VK} (h : tM k E (chain f g ma mb mc) σ H Q) : tChain r r' (tM k E ma) (tM k E mb) (tM k E mc) σ H Q := by
  refine tG.mono (tG.bin h) fun x H1 h1 => tG.mono h1 fun y H2 ⟨W, a, b, ra, rb, h2⟩ => ?_
  have h3 := At.bnd (R1 := RB) (fun W H => RepV k W H b y) (fun l r => r.le l) rb h2
  obtain ⟨W3, env, st, o, o1, e1, m1, f1⟩ := h3
  obtain ⟨env', st', o', o2, e2, m2, f2⟩ := h2
  unfold Mi.bnd Mi.lift at m2
  dsimp only at m2
  cases e : f st' a b with
  | none =>
    rw [e] at m2
    cases m2
  | some c =>
    rw [e] at m2
    cases c with
    | bl t =>
      refine hr W H2 st' a b x y (.bl t) _ o2 ra rb e fun W' H' v l ok rv => ⟨t, rv, ?_⟩
      have m3 : (if t then Mi.bnd mc fun c => Mi.lift fun st => g st b c else Mi.ret (.bl false)) env' st' = some o' := m2
      cases t with
      | true =>
        show tM k E mc σ H' fun w' H4 => r' y w' H4 Q
        have h4 : At k (RepV k) E (Mi.bnd mc fun c => Mi.lift fun st => g st b c) W' σ H' Q := ⟨env', st', o', ok, e2.le l, m3, f2.le l⟩
        refine tG.mono (At.bnd (R1 := RepV k) (fun W H => RepV k W H b y) (fun l r => r.le l) (rb.le l) h4) fun z H4 ⟨W4, c, rb4, rc, h5⟩ => ?_
        obtain ⟨d, st4, e4, o4, q4⟩ := h5.lift
        exact hr' W4 H4 st4 b c y z d Q o4 rb4 rc e4 q4
      | false =>
        show Q (.bl false) H'
        have h4 : At k (RepV k) E (Mi.ret (.bl false)) W' σ H' Q := ⟨env', st', o', ok, e2.le l, m3, f2.le l⟩
        exact h4.ret rfl
    | _ => cases m2
end
end Mi
namespace Mi
open PySem L2
theorem OpR_or {X : Cx} {f : Value → Value → Sem Value} {r r' : R2} (h : OpR X f r) (h' : OpR X f r') : OpR X f (fun x y H Q => r x y H Q ∨ r' x y H Q) := by
  intro pins s σ H x y v u Q I rx ry q
  rcases q with q | q
  · exact h pins s σ H x y v u Q I rx ry q
  · exact h' pins s σ H x y v u Q I rx ry q
theorem CallR_or {X : Cx} {f : Value} {r r' : List V → Hp → VK → Prop} (h : CallR X f r) (h' : CallR X f r') : CallR X f (fun xs H Q => r xs H Q ∨ r' xs H Q) := by
  intro pins s σ H xs us Q I rx q
  rcases q with q | q
  · exact h pins s σ H xs us Q I rx q
  · exact h' pins s σ H xs us Q I rx q
theorem SlR_or {X : Cx} {r r' : V → Option Int → Option Int → Hp → VK → Prop} (h : SlR X r) (h' : SlR X r') : SlR X (fun x lo hi H Q => r x lo hi H Q ∨ r' x lo hi H Q) := by
  intro pins s σ H x v vl vu lo hi sl Q I rx hs pl pu q
  rcases q with q | q
  · exact h pins s σ H x v vl vu lo hi sl Q I rx hs pl pu q
  · exact h' pins s σ H x v vl vu lo hi sl Q I rx hs pl pu q
/-! ### reading lists and tuples -/
def lstOf (st : Sto) : Val → Option (List Val)
  | .lst xs => some xs
  | .rol xs => some xs
  | .ref i => match st[i]? with
    | some (.lst xs) => some xs
    | _ => none
  | _ => none
def seqOf (st : Sto) (a : Val) : Option (List Val) := match a with
  | .tup xs => some xs
  | a => lstOf st a
abbrev LIM : Nat := 16000000
theorem lim_le {n : Nat} (h : n ≤ LIM) : n ≤ sizeLine := Nat.le_trans h (by decide)
theorem lim_lt {n : Nat} (h : n < LIM) : n < sizeLine := Nat.lt_of_lt_of_le h (by decide)
section
variable {k : Kx} {W : Wd} {H : Hp} {st : Sto} {a : Val} {x : V} {xs : List Val}
theorem lstOf_rep (o : Ok k W H st) (r : RepV k W H a x) (e : lstOf st a = some xs) : ∃ p vs, x = .ref p ∧ SqL k.K H p vs ∧ RepL k W H xs vs := by
  cases a with
  | lst ys =>
    cases e
    obtain ⟨p, vs, e, f, s, r⟩ := r
    exact ⟨p, vs, e, .inl (.inl s), r⟩
  | rol ys =>
    cases e
    obtain ⟨p, vs, e, s, r⟩ := r
    refine ⟨p, vs, e, ?_, r⟩
    rcases s with ⟨u, s⟩ | (s | ⟨u, s⟩) | s
    · exact .inl (.inr ⟨u, s⟩)
    · cases s
    · cases s
    · exact .inr s
  | ref i =>
    obtain ⟨p, e1, s⟩ := r
    dsimp only [lstOf] at e
    cases q : st[i]? with
    | none =>
      rw [q] at e
      cases e
    | some u =>
      rw [q] at e
      cases u with
      | lst ys =>
        cases e
        obtain ⟨vs, z, r⟩ := o.obj i _ p q s
        exact ⟨p, vs, e1, .inl (.inl z), r⟩
      | _ => cases e
  | _ => cases e
theorem seqOf_rep (o : Ok k W H st) (r : RepV k W H a x) (e : seqOf st a = some xs) : ∃ p vs, x = .ref p ∧ (SqL k.K H p vs ∨ SqT k.K H p vs) ∧ RepL k W H xs vs := by
  unfold seqOf at e
  split at e
  · cases e
    obtain ⟨p, vs, e, s, r⟩ := r
    exact ⟨p, vs, e, .inr s, r⟩
  · obtain ⟨p, vs, e, s, r⟩ := lstOf_rep o r e
    exact ⟨p, vs, e, .inl s, r⟩
/-- a new tuple, a new list that nobody changes -/
theorem newTup {Q : VK} {p : Addr} {vs : List V} (o : Ok k W H st) (hp : H p = none) (r : RepL k W H xs vs) (q : ∀ W' H' v, Le W W' H H' → Ok k W' H' st → RepV k W' H' (.tup xs) v → Q v H') : Q (.ref p) (upd H p (.tup vs)) :=
  q W _ _ (Le.new hp) (o.new hp) ⟨p, vs, rfl, .inl (.inl upd_same), r.le (Le.new hp)⟩
theorem newLst {Q : VK} {p : Addr} {vs : List V} (o : Ok k W H st) (hp : H p = none) (r : RepL k W H xs vs) (q : ∀ W' H' v, Le W W' H H' → Ok k W' H' st → RepV k W' H' (.lst xs) v → Q v H') : Q (.ref p) (upd H p (.lst vs)) := by
  obtain ⟨l, o'⟩ := o.newFr (o := .lst vs) hp
  exact q (W.fr p) _ _ l o' ⟨p, vs, rfl, .inr rfl, upd_same, r.le l⟩
theorem ints_rep : ∀ {xs : List Val} {vs : List V} {ns : List Int}, RepL k W H xs vs → xs = ns.map .int → vs = ns.map .int
  | [], vs, ns, r, e => by
    have e1 : vs = [] := r
    cases ns with
    | nil => exact e1
    | cons n ns => cases e
  | x :: xs, vs, ns, r, e => by
    obtain ⟨v, u, rfl, r1, r2⟩ := r
    cases ns with
    | nil => cases e
    | cons n ns =>
      injection e with e1 e2
      subst e1
      have e3 : v = .int n := r1
      rw [e3, ints_rep r2 e2]
      rfl
theorem strs_rep : ∀ {xs : List Val} {vs : List V} {ns : List Str}, RepL k W H xs vs → xs = ns.map .str → vs = ns.map .str
  | [], vs, ns, r, e => by
    have e1 : vs = [] := r
    cases ns with
    | nil => exact e1
    | cons n ns => cases e
  | x :: xs, vs, ns, r, e => by
    obtain ⟨v, u, rfl, r1, r2⟩ := r
    cases ns with
    | nil => cases e
    | cons n ns =>
      injection e with e1 e2
      subst e1
      have e3 : v = .str n := r1
      rw [e3, strs_rep r2 e2]
      rfl
theorem bls_rep : ∀ {xs : List Val} {vs : List V} {ns : List Bool}, RepL k W H xs vs → xs = ns.map .bl → vs = ns.map .bl
  | [], vs, ns, r, e => by
    have e1 : vs = [] := r
    cases ns with
    | nil => exact e1
    | cons n ns => cases e
  | x :: xs, vs, ns, r, e => by
    obtain ⟨v, u, rfl, r1, r2⟩ := r
    cases ns with
    | nil => cases e
    | cons n ns =>
      injection e with e1 e2
      subst e1
      have e3 : v = .bl n := r1
      rw [e3, bls_rep r2 e2]
      rfl
end
def intOf : Val → Option Int
  | .int i => some i
  | _ => none
def strOf : Val → Option Str
  | .str i => some i
  | _ => none
def allOf {α : Type} (f : Val → Option α) : List Val → Option (List α)
  | [] => some []
  | x :: xs => match f x, allOf f xs with
    | some a, some r => some (a :: r)
    | _, _ => none
theorem allOf_map {α : Type} {f : Val → Option α} {g : α → Val} (h : ∀ x a, f x = some a → x = g a) : ∀ {xs : List Val} {as : List α}, allOf f xs = some as → xs = as.map g
  | [], as, e => by
    cases e
    rfl
  | x :: xs, as, e => by
    unfold allOf at e
    cases e1 : f x with
    | none =>
      rw [e1] at e
      cases e
    | some a =>
      cases e2 : allOf f xs with
      | none =>
        rw [e1, e2] at e
        cases e
      | some r =>
        rw [e1, e2] at e
        cases e
        rw [h x a e1, allOf_map h e2]
        rfl
theorem intOf_eq (x : Val) (a : Int) (h : intOf x = some a) : x = .int a := by
  cases x <;> first | (cases h; rfl) | cases h
theorem strOf_eq (x : Val) (a : Str) (h : strOf x = some a) : x = .str a := by
  cases x <;> first | (cases h; rfl) | cases h
theorem asBool_eq (x : Val) (a : Bool) (h : asBool x = some a) : x = .bl a := by
  cases x <;> first | (cases h; rfl) | cases h
/-! ### + - * // % ** -/
def addV (_ : Sto) : Val → Val → Option Val
  | .int i, .int j => some (.int (i + j))
  | .str i, .str j => if i.length + j.length ≤ LIM then some (.str (i ++ j)) else none
  | .lst xs, .lst ys => if xs.length + ys.length ≤ LIM then some (.lst (xs ++ ys)) else none
  | .tup xs, .tup ys => if xs.length + ys.length ≤ LIM then some (.tup (xs ++ ys)) else none
  | _, _ => none
def small64 (i : Int) : Bool := decide (-(2 ^ 64) < i) && decide (i < 2 ^ 64)
def mulV (_ : Sto) : Val → Val → Option Val
  | .int i, .int j => if small64 i || small64 j then some (.int (i * j)) else none
  | .lst xs, .int j => if xs.length * j.toNat ≤ LIM ∧ -(2 ^ 63) ≤ j ∧ j < 2 ^ 63 then some (.lst (List.replicate j.toNat xs).flatten) else none
  | _, _ => none
def fdivV (_ : Sto) : Val → Val → Option Val
  | .int i, .int j => if 0 < j ∧ j < 1073741824 then some (.int (i / j)) else none
  | _, _ => none
def modV (_ : Sto) : Val → Val → Option Val
  | .int i, .int j => if 0 < j then some (.int (i % j)) else none
  | _, _ => none
def powV (_ : Sto) : Val → Val → Option Val
  | .int i, .int j => if 0 ≤ j ∧ j ≤ 1000 ∧ i.natAbs < 1000 then some (.int (i ^ j.toNat)) else none
  | _, _ => none
def cmpV (p : Int → Int → Bool) (_ : Sto) : Val → Val → Option Val
  | .int i, .int j => some (.bl (p i j))
  | _, _ => none
section
variable {k : Kx}
theorem rd_int {f : Sto → Val → Val → Option Val} {g : Int → Int → V} (h : ∀ st a b c, f st a b = some c → ∃ i j d, a = .int i ∧ b = .int j ∧ c = d ∧ Cst k d (g i j)) : Rd2 k f (rI0 g) := by
  intro W H st a b x y c Q o ra rb e q
  obtain ⟨i, j, d, rfl, rfl, rfl, hc⟩ := h st a b c e
  exact ⟨i, j, ra, rb, q W H _ (Le.refl W H) o (hc W H)⟩
theorem rd_cmp (p : Int → Int → Bool) : Rd2 k (cmpV p) (rI0 fun i j => .bl (p i j)) := rd_int fun st a b c e => by
  cases a <;> cases b <;> first | (cases e; exact ⟨_, _, _, rfl, rfl, rfl, fun _ _ => rfl⟩) | cases e
theorem rd_add : Rd2 k addV (fun x y H Q => (rI0 (fun i j => .int (i + j)) x y H Q ∨ (∃ i j, x = .str i ∧ y = .str j ∧ i.length + j.length ≤ sizeLine ∧ Q (.str (i ++ j)) H)) ∨ (rCat x y H Q ∨ rCatA k.K x y H Q)) := by
  intro W H st a b x y c Q o ra rb e q
  cases a <;> cases b <;> first | cases e | skip
  · exact .inl (.inl ⟨_, _, ra, rb, q W H _ (Le.refl W H) o rfl⟩)
  · rename_i i j
    dsimp only [addV] at e
    split at e
    · rename_i hl
      cases e
      exact .inl (.inr ⟨i, j, ra, rb, lim_le hl, q W H _ (Le.refl W H) o rfl⟩)
    · cases e
  · rename_i xs ys
    dsimp only [addV] at e
    split at e
    · rename_i hl
      cases e
      obtain ⟨p, vs, e1, s1, r1⟩ := ra
      obtain ⟨p2, us, e2, s2, r2⟩ := rb
      refine .inr (.inr ⟨p, p2, vs, us, e1, e2, s1, s2, by rw [r1.len, r2.len]; exact lim_le hl, fun z => ?_, fun z1 z2 => ?_, fun _ _ p hp => newTup o hp (r1.append r2) q⟩)
      · subst z
        have hx : xs = [] := List.length_eq_zero_iff.mp (by rw [← r1.len]; rfl)
        subst hx
        exact q W H _ (Le.refl W H) o ⟨p2, us, rfl, s2, r2⟩
      · subst z2
        have hy : ys = [] := List.length_eq_zero_iff.mp (by rw [← r2.len]; rfl)
        subst hy
        rw [List.append_nil] at q
        exact q W H _ (Le.refl W H) o ⟨p, vs, rfl, s1, r1⟩
    · cases e
  · rename_i xs ys
    dsimp only [addV] at e
    split at e
    · rename_i hl
      cases e
      obtain ⟨p, vs, e1, f1, s1, r1⟩ := ra
      obtain ⟨p2, us, e2, f2, s2, r2⟩ := rb
      exact .inr (.inl ⟨p, p2, vs, us, e1, e2, s1, s2, by rw [r1.len, r2.len]; exact lim_le hl, fun p hp => newLst o hp (r1.append r2) q⟩)
    · cases e
theorem rd_mul : Rd2 k mulV (fun x y H Q => rI CMul (fun i j => .int (i * j)) x y H Q ∨ rRep x y H Q) := by
  intro W H st a b x y c Q o ra rb e q
  cases a <;> cases b <;> first | cases e | skip
  · rename_i i j
    dsimp only [mulV] at e
    split at e
    · rename_i hl
      cases e
      refine .inl ⟨i, j, ra, rb, ?_, q W H _ (Le.refl W H) o rfl⟩
      rcases Bool.or_eq_true_iff.mp hl with z | z
      · have z2 := Bool.and_eq_true_iff.mp z
        exact .inl ⟨of_decide_eq_true z2.1, of_decide_eq_true z2.2⟩
      · have z2 := Bool.and_eq_true_iff.mp z
        exact .inr ⟨of_decide_eq_true z2.1, of_decide_eq_true z2.2⟩
    · cases e
  · rename_i xs j
    dsimp only [mulV] at e
    split at e
    · rename_i hl
      cases e
      obtain ⟨p, vs, e1, f1, s1, r1⟩ := ra
      refine .inr ⟨p, j, vs, e1, rb, s1, hl.2.1, hl.2.2, by rw [r1.len]; exact lim_le hl.1, fun p hp => newLst o hp ?_ q⟩
      generalize j.toNat = n
      induction n with
      | zero => exact rfl
      | succ n ih =>
        rw [List.replicate_succ, List.replicate_succ, List.flatten_cons, List.flatten_cons]
        exact r1.append ih
    · cases e
theorem rd_fdiv : Rd2 k fdivV (rI CDiv fun i j => .int (i / j)) := by
  intro W H st a b x y c Q o ra rb e q
  cases a <;> cases b <;> first | cases e | skip
  dsimp only [fdivV] at e
  split at e
  · rename_i hl
    cases e
    exact ⟨_, _, ra, rb, hl, q W H _ (Le.refl W H) o rfl⟩
  · cases e
theorem rd_mod : Rd2 k modV (rI (fun _ j => 0 < j) fun i j => .int (i % j)) := by
  intro W H st a b x y c Q o ra rb e q
  cases a <;> cases b <;> first | cases e | skip
  dsimp only [modV] at e
  split at e
  · rename_i hl
    cases e
    exact ⟨_, _, ra, rb, hl, q W H _ (Le.refl W H) o rfl⟩
  · cases e
theorem rd_pow : Rd2 k powV (rI CPow fun i j => .int (i ^ j.toNat)) := by
  intro W H st a b x y c Q o ra rb e q
  cases a <;> cases b <;> first | cases e | skip
  dsimp only [powV] at e
  split at e
  · rename_i hl
    cases e
    exact ⟨_, _, ra, rb, ⟨hl.1, by omega, Nat.lt_of_lt_of_le hl.2.2 (by decide)⟩, q W H _ (Le.refl W H) o rfl⟩
  · cases e
end
section
variable {X : Cx} {k : Kx} {E : WX} {a b : Expr} {ma mb : M Val} {pos : Pos}
theorem me_add (ha : PE X a (tM k E ma)) (hb : PE X b (tM k E mb)) (hk : X.K = k.K := by rfl) : PE X (.BinOp a .Add b pos) (tM k E (bin addV ma mb)) := me_op (hk ▸ rd_add) (OpR_or (OpR_or op_add op_add_str) (OpR_or op_cat op_catA)) ha hb
theorem me_mul (ha : PE X a (tM k E ma)) (hb : PE X b (tM k E mb)) : PE X (.BinOp a .Mult b pos) (tM k E (bin mulV ma mb)) := me_op rd_mul (OpR_or op_mul op_rep) ha hb
theorem me_fdiv (ha : PE X a (tM k E ma)) (hb : PE X b (tM k E mb)) : PE X (.BinOp a .FloorDiv b pos) (tM k E (bin fdivV ma mb)) := me_op rd_fdiv op_fdiv ha hb
theorem me_mod (ha : PE X a (tM k E ma)) (hb : PE X b (tM k E mb)) : PE X (.BinOp a .Mod b pos) (tM k E (bin modV ma mb)) := me_op rd_mod op_mod ha hb
theorem me_pow (ha : PE X a (tM k E ma)) (hb : PE X b (tM k E mb)) : PE X (.BinOp a .Pow b pos) (tM k E (bin powV ma mb)) := me_op rd_pow op_pow ha hb
end
end Mi
namespace Mi
open PySem L2
/-! ### data, == at any depth -/
mutual
def toD0 : Val → Option PyData
  | .non => some .none
  | .bl b => some (.bool b)
  | .int i => some (.int i)
  | .str x => some (.str x)
  | .tup xs => (toD0s xs).map .tuple
  | .lst xs => (toD0s xs).map .list
  | .rol xs => (toD0s xs).map .list
  | .ins _ _ _ => none
  | .ref _ => none
  | .exv _ _ _ => none
  | .lam _ _ _ _ _ _ => none
  | .cls _ => none
  | .tpd _ => none
def toD0s : List Val → Option (List PyData)
  | [] => some []
  | x :: xs => match toD0 x, toD0s xs with
    | some d, some ds => some (d :: ds)
    | _, _ => none
end
def toD (st : Sto) : Val → Option PyData
  | .ref i => match st[i]? with
    | some (.lst xs) => (toD0s xs).map .list
    | _ => none
  | a => toD0 a
def eqD (st : Sto) (a b : Val) : Option Val := match toD st a, toD st b with
  | some d, some e => if SeqAt.shaped d = true ∧ SeqAt.shaped e = true then some (.bl (d.eqv e)) else none
  | _, _ => none
def neD (st : Sto) (a b : Val) : Option Val := match toD st a, toD st b with
  | some d, some e => if SeqAt.shaped d = true ∧ SeqAt.shaped e = true then some (.bl (!d.eqv e)) else none
  | _, _ => none
def eqV (st : Sto) (a b : Val) : Option Val := match strOf a, strOf b with
  | some x, some y => some (.bl (x == y))
  | _, _ => eqD st a b
def neV (st : Sto) (a b : Val) : Option Val := match strOf a, strOf b with
  | some x, some y => some (.bl (!(x == y)))
  | _, _ => neD st a b
section
variable {k : Kx} {W : Wd} {H : Hp} {st : Sto}
theorem SqL.ro {K : PySem.W.Frag} {p : Addr} {vs : List V} {H : Hp} (h : SqL K (fun _ => none) p vs) : SqL K H p vs := by
  rcases h with (s | ⟨u, s⟩) | s
  · cases s
  · cases s
  · exact .inr s
theorem RoL.sq {p : Addr} {vs : List V} (h : RoL k H p vs) : SqL k.K H p vs := by
  rcases h with ⟨u, s⟩ | s
  · exact .inl (.inr ⟨u, s⟩)
  · exact SqL.ro s
mutual
theorem toD0_rep : ∀ {a : Val} {x : V} {d : PyData}, RepV k W H a x → toD0 a = some d → Dp k.K H x d
  | .non, x, d, r, e => by
    have r' : x = .non := r
    cases e
    rw [r']
    exact .non
  | .bl b, x, d, r, e => by
    have r' : x = .bl b := r
    cases e
    rw [r']
    exact .bl b
  | .int i, x, d, r, e => by
    have r' : x = .int i := r
    cases e
    rw [r']
    exact .int i
  | .str z, x, d, r, e => by
    have r' : x = .str z := r
    cases e
    rw [r']
    exact .str z
  | .tup xs, x, d, r, e => by
    obtain ⟨p, vs, e1, s, r⟩ := r
    dsimp only [toD0] at e
    cases q : toD0s xs with
    | none =>
      rw [q] at e
      cases e
    | some ds =>
      rw [q] at e
      cases e
      rw [e1]
      exact .tup s (toD0s_rep r q)
  | .lst xs, x, d, r, e => by
    obtain ⟨p, vs, e1, f, s, r⟩ := r
    dsimp only [toD0] at e
    cases q : toD0s xs with
    | none =>
      rw [q] at e
      cases e
    | some ds =>
      rw [q] at e
      cases e
      rw [e1]
      exact .lst (.inl (.inl s)) (toD0s_rep r q)
  | .rol xs, x, d, r, e => by
    obtain ⟨p, vs, e1, s, r⟩ := r
    dsimp only [toD0] at e
    cases q : toD0s xs with
    | none =>
      rw [q] at e
      cases e
    | some ds =>
      rw [q] at e
      cases e
      rw [e1]
      exact .lst (RoL.sq s) (toD0s_rep r q)
  | .ins _ _ _, _, _, _, e => by cases e
  | .ref _, _, _, _, e => by cases e
  | .exv _ _ _, x, d, r, e => by cases e
  | .lam _ _ _ _ _ _, x, d, r, e => by cases e
  | .cls _, x, d, r, e => by cases e
  | .tpd _, x, d, r, e => by cases e
theorem toD0s_rep : ∀ {xs : List Val} {vs : List V} {ds : List PyData}, RepL k W H xs vs → toD0s xs = some ds → DpAll k.K H vs ds
  | [], vs, ds, r, e => by
    have r' : vs = [] := r
    cases e
    rw [r']
    exact .nil
  | x :: xs, vs, ds, r, e => by
    obtain ⟨v, u, rfl, r1, r2⟩ := r
    dsimp only [toD0s] at e
    cases q1 : toD0 x with
    | none =>
      rw [q1] at e
      cases e
    | some d =>
      cases q2 : toD0s xs with
      | none =>
        rw [q1, q2] at e
        cases e
      | some ds' =>
        rw [q1, q2] at e
        cases e
        exact .cons (toD0_rep r1 q1) (toD0s_rep r2 q2)
end
theorem toD_rep {a : Val} {x : V} {d : PyData} (o : Ok k W H st) (r : RepV k W H a x) (e : toD st a = some d) : Dp k.K H x d := by
  unfold toD at e
  split at e
  · rename_i i
    split at e
    · rename_i xs q
      obtain ⟨p, e1, s⟩ := r
      obtain ⟨vs, z, r⟩ := o.obj i _ p q s
      cases q2 : toD0s xs with
      | none =>
        rw [q2] at e
        cases e
      | some ds =>
        rw [q2] at e
        cases e
        rw [e1]
        exact .lst (.inl (.inl z)) (toD0s_rep r q2)
    · cases e
  · exact toD0_rep r e
def orR (r q : R2) : R2 := fun x y H Q => r x y H Q ∨ q x y H Q
theorem OpR.or {X : Cx} {f : Value → Value → Sem Value} {r q : R2} (h : OpR X f r) (g : OpR X f q) : OpR X f (orR r q) := by
  intro pins s σ H x y v u Q I rx ry z
  rcases z with z | z
  · exact h pins s σ H x y v u Q I rx ry z
  · exact g pins s σ H x y v u Q I rx ry z
theorem strOf_is {a : Val} {x : Str} (h : strOf a = some x) : a = .str x := by
  cases a <;> cases h
  rfl
theorem rd_eq : Rd2 k eqV (orR (rEqD k.K) rEq) := by
  intro W H st a b x y c Q o ra rb e q
  unfold eqV at e
  split at e
  · rename_i u w hu hw
    have e1 := strOf_is hu
    have e2 := strOf_is hw
    subst e1 e2
    have r1 : x = .str u := ra
    have r2 : y = .str w := rb
    subst r1 r2
    cases e
    exact .inr ⟨rfl, q W H _ (Le.refl W H) o (by rw [dec_str]; rfl)⟩
  unfold eqD at e
  split at e
  · rename_i d f hd hf
    split at e
    · rename_i hs
      cases e
      exact .inl ⟨d, f, toD_rep o ra hd, toD_rep o rb hf, hs.1, hs.2, q W H _ (Le.refl W H) o rfl⟩
    · cases e
  · cases e
theorem rd_ne : Rd2 k neV (orR (rNeD k.K) rNe) := by
  intro W H st a b x y c Q o ra rb e q
  unfold neV at e
  split at e
  · rename_i u w hu hw
    have e1 := strOf_is hu
    have e2 := strOf_is hw
    subst e1 e2
    have r1 : x = .str u := ra
    have r2 : y = .str w := rb
    subst r1 r2
    cases e
    exact .inr ⟨rfl, q W H _ (Le.refl W H) o (by rw [dec_str]; rfl)⟩
  unfold neD at e
  split at e
  · rename_i d f hd hf
    split at e
    · rename_i hs
      cases e
      exact .inl ⟨d, f, toD_rep o ra hd, toD_rep o rb hf, hs.1, hs.2, q W H _ (Le.refl W H) o rfl⟩
    · cases e
  · cases e
end
/-! ### is None; in -/
def isNon : Val → Bool
  | .non => true
  | _ => false
def isNV (_ : Sto) (a b : Val) : Option Val := if isNon b then some (.bl (isNon a)) else none
def notNV (_ : Sto) (a b : Val) : Option Val := if isNon b then some (.bl (!isNon a)) else none
def flat : Val → Option V
  | .non => some .non
  | .bl b => some (.bl b)
  | .int i => some (.int i)
  | .str x => some (.str x)
  | _ => none
def inStr (a b : Str) : Bool := match a.cps.toList with
  | [c] => decide (c ∈ b.cps.toList)
  | _ => !(Builtin.Str.occurrences b a 0 b.length 1).isEmpty
/-- x in ..: a text in a text; a flat thing in a list or a tuple of such -/
def inB (st : Sto) (a b : Val) : Option Bool := match a, b with
  | .str x, .str y => some (inStr x y)
  | a, b => match flat a, seqOf st b with
    | some x, some ys => match allOf flat ys with
      | some us => some (inV x us)
      | none => none
    | _, _ => none
def inVal (st : Sto) (a b : Val) : Option Val := (inB st a b).map .bl
section
variable {k : Kx} {W : Wd} {H : Hp} {st : Sto}
theorem isNon_rep {a : Val} {x : V} (r : RepV k W H a x) : decide (x = .non) = isNon a := by
  cases a with
  | non =>
    have r' : x = .non := r
    rw [r']
    rfl
  | bl b =>
    have r' : x = .bl b := r
    rw [r']
    rfl
  | int b =>
    have r' : x = .int b := r
    rw [r']
    rfl
  | str b =>
    have r' : x = .str b := r
    rw [r']
    rfl
  | tup xs =>
    obtain ⟨p, vs, e, _⟩ := r
    rw [e]
    rfl
  | lst xs =>
    obtain ⟨p, vs, e, _⟩ := r
    rw [e]
    rfl
  | rol xs =>
    obtain ⟨p, vs, e, _⟩ := r
    rw [e]
    rfl
  | ins c ks xs =>
    obtain ⟨p, dx, vs, e, _⟩ := r
    rw [e]
    rfl
  | ref i =>
    obtain ⟨p, e, _⟩ := r
    rw [e]
    rfl
  | exv c ks xs =>
    obtain ⟨p, _, _, _, e, _⟩ := r
    rw [e]
    rfl
  | lam f c o τ js xs =>
    obtain ⟨vs, e, _⟩ := r
    rw [e]
    rfl
  | cls c =>
    have e : x = .ref (k.cl c) := r
    rw [e]
    rfl
  | tpd xs =>
    obtain ⟨p, _, _, e, _⟩ := r
    rw [e]
    rfl
theorem rd_isN : Rd2 k isNV (fun x y H Q => y = .non ∧ Q (.bl (decide (x = .non))) H) := by
  intro W H st a b x y c Q o ra rb e q
  unfold isNV at e
  split at e
  · rename_i hb
    cases e
    have hy := isNon_rep rb
    rw [hb] at hy
    refine ⟨of_decide_eq_true hy, ?_⟩
    rw [isNon_rep ra]
    exact q W H _ (Le.refl W H) o rfl
  · cases e
theorem flat_rep {a : Val} {x u : V} (r : RepV k W H a x) (e : flat a = some u) : x = u ∧ flatV u = true := by
  cases a <;> first | (cases e; exact ⟨r, rfl⟩) | cases e
theorem flats_rep : ∀ {xs : List Val} {vs us : List V}, RepL k W H xs vs → allOf flat xs = some us → vs = us ∧ us.all flatV = true
  | [], vs, us, r, e => by
    cases e
    exact ⟨r, rfl⟩
  | x :: xs, vs, us, r, e => by
    obtain ⟨v, w, rfl, r1, r2⟩ := r
    unfold allOf at e
    cases q1 : flat x with
    | none =>
      rw [q1] at e
      cases e
    | some d =>
      cases q2 : allOf flat xs with
      | none =>
        rw [q1, q2] at e
        cases e
      | some ds =>
        rw [q1, q2] at e
        cases e
        obtain ⟨e1, f1⟩ := flat_rep r1 q1
        obtain ⟨e2, f2⟩ := flats_rep r2 q2
        exact ⟨by rw [e1, e2], by rw [List.all_cons, f1, f2]; rfl⟩
abbrev rInU (K : PySem.W.Frag) (neg : Bool) : R2 := fun x y H Q => (rIn K neg x y H Q) ∨ ((∃ (c : Nat) (z : Str), x = .str ⟨#[c]⟩ ∧ y = .str z ∧ Q (.bl (if neg then !decide (c ∈ z.cps.toList) else decide (c ∈ z.cps.toList))) H) ∨
  (∃ i j, x = .str i ∧ y = .str j ∧ Q (.bl (if neg then !(!(Builtin.Str.occurrences j i 0 j.length 1).isEmpty) else !(Builtin.Str.occurrences j i 0 j.length 1).isEmpty)) H))
theorem inStr_cases (i j : Str) : (∃ c, i = ⟨#[c]⟩ ∧ inStr i j = decide (c ∈ j.cps.toList)) ∨ inStr i j = !(Builtin.Str.occurrences j i 0 j.length 1).isEmpty := by
  unfold inStr
  split
  · rename_i c hc
    refine .inl ⟨c, ?_, rfl⟩
    cases i with
    | mk cps =>
      have e1 : cps = #[c] := Array.toList_inj.mp hc
      rw [e1]
  · exact .inr rfl
theorem inB_read {neg : Bool} {a b : Val} {x y : V} {t : Bool} {Q : VK} (o : Ok k W H st) (ra : RepV k W H a x) (rb : RepV k W H b y) (e : inB st a b = some t) (q : Q (.bl (if neg then !t else t)) H) : rInU k.K neg x y H Q := by
  unfold inB at e
  split at e
  · rename_i i j
    cases e
    have ea : x = .str i := ra
    have eb : y = .str j := rb
    subst ea eb
    rcases inStr_cases i j with ⟨c, hi, z⟩ | z
    · rw [z] at q
      rw [hi]
      exact .inr (.inl ⟨c, j, rfl, rfl, q⟩)
    · rw [z] at q
      exact .inr (.inr ⟨i, j, rfl, rfl, q⟩)
  · split at e
    · rename_i u ys hu hys
      split at e
      · rename_i us hus
        cases e
        obtain ⟨e1, f1⟩ := flat_rep ra hu
        obtain ⟨p, vs, e2, s, r⟩ := seqOf_rep o rb hys
        obtain ⟨e3, f3⟩ := flats_rep r hus
        subst e1 e3
        exact .inl ⟨p, _, e2, s, f1, f3, q⟩
      · cases e
    · cases e
theorem rd_in : Rd2 k inVal (rInU k.K false) := by
  intro W H st a b x y c Q o ra rb e q
  unfold inVal at e
  cases h : inB st a b with
  | none =>
    rw [h] at e
    cases e
  | some t =>
    rw [h] at e
    cases e
    exact inB_read (neg := false) o ra rb h (q W H _ (Le.refl W H) o rfl)
end
theorem op_inU {X : Cx} : OpR X (compareOp .In) (rInU X.K false) := OpR_or op_in_seq (OpR_or op_in_sign op_in_str)
/-! ### a[i], a[i:j] -/
def idxV (st : Sto) (a b : Val) : Option Val := match b with
  | .int i => match a with
    | .str z => if z.length ≤ LIM then (atI z.cps.toList i).map fun c => .str ⟨#[c]⟩ else none
    | a => match seqOf st a with
      | some xs => atI xs i
      | none => none
  | _ => none
theorem atI_rep {k : Kx} {W : Wd} {H : Hp} {xs : List Val} {vs : List V} {i : Int} {x : Val} (r : RepL k W H xs vs) (h : atI xs i = some x) : ∃ v, atI vs i = some v ∧ RepV k W H x v := by
  unfold atI at h ⊢
  rw [r.len]
  cases e : ixN xs.length i with
  | none =>
    rw [e] at h
    cases h
  | some j =>
    rw [e] at h
    exact r.get h
theorem rd_idx {k : Kx} : Rd2 k idxV (fun x y H Q => rIxL k.K x y H Q ∨ (rIxT k.K x y H Q ∨ rIxS x y H Q)) := by
  intro W H st a b x y c Q o ra rb e q
  unfold idxV at e
  split at e
  · rename_i i
    split at e
    · rename_i z
      split at e
      · rename_i hl
        cases h : atI z.cps.toList i with
        | none =>
          rw [h] at e
          cases e
        | some d =>
          rw [h] at e
          cases e
          exact .inr (.inr ⟨z, i, d, ra, rb, lim_le hl, h, q W H _ (Le.refl W H) o rfl⟩)
      · cases e
    · split at e
      · rename_i xs hxs
        obtain ⟨p, vs, e1, s, r⟩ := seqOf_rep o ra hxs
        obtain ⟨v, hv, rv⟩ := atI_rep r e
        rcases s with s | s
        · exact .inl ⟨p, vs, i, v, e1, rb, s, hv, q W H v (Le.refl W H) o rv⟩
        · exact .inr (.inl ⟨p, vs, i, v, e1, rb, s, hv, q W H v (Le.refl W H) o rv⟩)
      · cases e
  · cases e
def cutL {α : Type} (xs : List α) (lo hi : Option Int) : List α := (xs.drop (HT.sIx xs.length 0 lo)).take (HT.sIx xs.length xs.length hi - HT.sIx xs.length 0 lo)
theorem cutL_rep {k : Kx} {W : Wd} {H : Hp} {xs : List Val} {vs : List V} (r : RepL k W H xs vs) (lo hi : Option Int) : RepL k W H (cutL xs lo hi) (cutV vs lo hi) := by
  unfold cutL cutV
  rw [r.len]
  exact (r.drop _).take _
def cutVal (st : Sto) (a : Val) (lo hi : Option Int) : Option Val := match a with
  | .str z => if z.length ≤ LIM then some (.str (cutS z lo hi)) else none
  | .tup xs => some (.tup (cutL xs lo hi))
  | a => match lstOf st a with
    | some xs => some (.lst (cutL xs lo hi))
    | none => none
def part (m : M Val) : M (Option Int) := bnd m fun a => lift fun _ => (intOf a).map some
def nopart : M (Option Int) := ret none
def RO : Wd → Hp → Option Int → Option Int → Prop := fun _ _ a b => b = a
def tMo (k : Kx) (E : WX) (m : M (Option Int)) : TO := fun σ H Q => tG k RO E m σ H Q
def sliceM (ma : M Val) (ml mh : M (Option Int)) : M Val := bnd ma fun a => bnd ml fun lo => bnd mh fun hi => lift fun st => cutVal st a lo hi
section
variable {X : Cx} {k : Kx} {E : WX}
theorem mo_none : PO X none (tMo k E nopart) := by
  refine ⟨fun pins s σ H Q I h => po_none.run pins s σ H Q I ?_⟩
  obtain ⟨W, h⟩ := h
  exact h.ret rfl
theorem mo_some {e : Expr} {m : M Val} (h : PE X e (tM k E m)) : PO X (some e) (tMo k E (part m)) := by
  refine ⟨fun pins s σ H Q I h' => (po_some h).run pins s σ H Q I ?_⟩
  show tM k E m σ H _
  refine tG.mono (tG.bnd (R1 := RepV k) h') fun x H1 ⟨W, a, ra, h1⟩ => ?_
  obtain ⟨c, st, e, o, q⟩ := h1.lift
  cases a with
  | int i =>
    cases e
    exact ⟨i, ra, q W H1 _ (Le.refl W H1) o rfl⟩
  | _ => cases e
theorem me_slice {e : Expr} {lo hi : Option Expr} {p2 pos : Pos} {ma : M Val} {ml mh : M (Option Int)} (he : PE X e (tM k E ma)) (hl : PO X lo (tMo k E ml)) (hh : PO X hi (tMo k E mh)) (hk : X.K = k.K := by rfl) :
    PE X (.Subscript e (.Slice lo hi none p2) pos) (tM k E (sliceM ma ml mh)) := by
  refine imp (pe_slice (SlR_or sl_list (SlR_or sl_tupA sl_str)) he hl hh) fun σ H Q h => ?_
  rw [hk]
  refine tG.mono (tG.bnd (R1 := RepV k) h) fun x H1 ⟨W, a, ra, h1⟩ => ?_
  refine tG.mono (At.bnd (R1 := RO) (fun W H => RepV k W H a x) (fun l r => r.le l) ra h1) fun lo H2 ⟨W2, lo', ra2, el, h2⟩ => ?_
  cases el
  refine tG.mono (At.bnd (R1 := RO) (fun W H => RepV k W H a x) (fun l r => r.le l) ra2 h2) fun hi H3 ⟨W3, hi', ra3, eh, h3⟩ => ?_
  cases eh
  obtain ⟨c, st, e, o, q⟩ := h3.lift
  have lists : ∀ xs, lstOf st a = some xs → c = .lst (cutL xs lo hi) → rSlL k.K x lo hi H3 Q := fun xs hxs hc => by
    subst hc
    obtain ⟨p, vs, e1, s, r⟩ := lstOf_rep o ra3 hxs
    exact ⟨p, vs, e1, s, fun p hp => newLst o hp (cutL_rep r _ _) q⟩
  cases a with
  | str z =>
    dsimp only [cutVal] at e
    split at e
    · rename_i hl
      cases e
      exact .inr (.inr ⟨z, ra3, lim_le hl, q W3 H3 _ (Le.refl _ _) o rfl⟩)
    · cases e
  | tup xs =>
    cases e
    obtain ⟨p, vs, e1, s, r⟩ := ra3
    refine .inr (.inl ⟨p, vs, e1, s, fun z => ?_, fun _ p hp => newTup o hp (cutL_rep r _ _) q⟩)
    have e2 : cutL xs lo hi = xs := by
      unfold cutL
      rw [r.len] at z
      rw [z.1, z.2]
      simp
    rw [e2] at q
    exact q W3 H3 _ (Le.refl _ _) o ⟨p, vs, rfl, s, r⟩
  | lst xs =>
    cases e
    exact .inl (lists xs rfl rfl)
  | rol xs =>
    cases e
    exact .inl (lists xs rfl rfl)
  | ref i =>
    dsimp only [cutVal] at e
    cases h : lstOf st (.ref i) with
    | none =>
      rw [h] at e
      cases e
    | some xs =>
      rw [h] at e
      cases e
      exact .inl (lists xs h rfl)
  | _ => cases e
def revV (st : Sto) (a : Val) : Option Val := (lstOf st a).map fun xs => .lst xs.reverse
theorem me_idx {a b : Expr} {ma mb : M Val} {pos : Pos} (ha : PE X a (tM k E ma)) (hb : PE X b (tM k E mb)) (hs : PlainIx b) (hk : X.K = k.K := by rfl) : PE X (.Subscript a b pos) (tM k E (bin idxV ma mb)) :=
  imp (pe_ix (ix_list.or (ix_tup.or ix_str)) ha hb hs) fun σ H Q h => by
    rw [hk]
    exact bin_read rd_idx h
theorem me_neg {a : Expr} {m : M Val} {pos : Pos} (ha : PE X a (tM k E m)) : PE X (.UnaryOp .USub a pos) (tM k E (un (fun _ a => (intOf a).map fun i => .int (-i)) m)) := by
  refine imp (pe_un un_neg ha) fun σ H Q h => ?_
  refine tG.mono (tG.bnd (R1 := RepV k) h) fun x H1 ⟨W, a, ra, h1⟩ => ?_
  obtain ⟨c, st, e, o, q⟩ := h1.lift
  cases a with
  | int i =>
    cases e
    exact ⟨i, ra, q W H1 _ (Le.refl W H1) o rfl⟩
  | _ => cases e
end
end Mi
namespace Mi
open PySem L2
/-! ### comparisons, bundled -/
def CmpU (X : Cx) (k : Kx) (op : CmpOp) (f : Sto → Val → Val → Option Val) : Prop := ∃ r, Rd2 k f r ∧ OpR X (compareOp op) r
section
variable {X : Cx} {k : Kx} {E : WX}
theorem cu_lt : CmpU X k .Lt (cmpV fun i j => decide (i < j)) := ⟨_, rd_cmp _, op_lt⟩
theorem cu_le : CmpU X k .LtE (cmpV fun i j => decide (i ≤ j)) := ⟨_, rd_cmp _, op_le⟩
theorem cu_ge : CmpU X k .GtE (cmpV fun i j => decide (j ≤ i)) := ⟨_, rd_cmp _, op_ge⟩
theorem cu_eq {n : Nat} (hr : Room n X.A) (hk : X.K = k.K := by rfl) : CmpU X k .Eq eqV := ⟨_, hk ▸ rd_eq, OpR.or (op_eqD hr.units) op_eq⟩
theorem cu_ne {n : Nat} (hr : Room n X.A) (hk : X.K = k.K := by rfl) : CmpU X k .NotEq neV := ⟨_, hk ▸ rd_ne, OpR.or (op_neD hr.units) op_ne⟩
theorem cu_in (hk : X.K = k.K := by rfl) : CmpU X k .In inVal := ⟨_, hk ▸ rd_in, op_inU⟩
theorem cu_is : CmpU X k .Is isNV := ⟨_, rd_isN, op_isN⟩
variable {a b c : Expr} {op op' : CmpOp} {pos : Pos} {f g : Sto → Val → Val → Option Val} {ma mb mc : M Val}
theorem me_cu (h : CmpU X k op f) (ha : PE X a (tM k E ma)) (hb : PE X b (tM k E mb)) (hm : behindInMarks op b = false := by first | exact nomark _ | rfl) : PE X (.Compare a [op] [b] pos) (tM k E (bin f ma mb)) := by
  obtain ⟨r, h1, h2⟩ := h
  exact me_cmp h1 h2 hm ha hb
theorem mt_cu (h : CmpU X k op f) (ha : PE X a (tM k E ma)) (hb : PE X b (tM k E mb)) (hm : behindInMarks op b = false := by first | exact nomark _ | rfl) : PT X (.Compare a [op] [b] pos) (tMb k E (asB (bin f ma mb))) := by
  obtain ⟨r, h1, h2⟩ := h
  exact mt_cmp h1 h2 hm ha hb
theorem me_ch (h : CmpU X k op f) (h' : CmpU X k op' g) (ha : PE X a (tM k E ma)) (hb : PE X b (tM k E mb)) (hc : PE X c (tM k E mc)) (hm : lastMarks [op, op'] [b, c] = false := by with_unfolding_all rfl) :
    PE X (.Compare a [op, op'] [b, c] pos) (tM k E (chain f g ma mb mc)) := by
  obtain ⟨r, h1, h2⟩ := h
  obtain ⟨r', h3, h4⟩ := h'
  exact imp (pe_chain h2 h4 ha hb hc hm) fun _ _ _ h => chain_read h1 h3 h
theorem mt_ch (h : CmpU X k op f) (h' : CmpU X k op' g) (ha : PE X a (tM k E ma)) (hb : PE X b (tM k E mb)) (hc : PE X c (tM k E mc)) (hm : lastMarks [op, op'] [b, c] = false := by with_unfolding_all rfl) :
    PT X (.Compare a [op, op'] [b, c] pos) (tMb k E (asB (chain f g ma mb mc))) := by
  obtain ⟨r, h1, h2⟩ := h
  obtain ⟨r', h3, h4⟩ := h'
  exact impT (pt_chain h2 h4 ha hb hc hm) fun σ H Q h => chain_read (Q := fun x H1 => ∃ c, x = .bl c ∧ Q c H1) h1 h3 (asB_read h)
/-! ### argument lists, displays -/
def consM (m : M Val) (ms : M (List Val)) : M (List Val) := bnd m fun a => bnd ms fun as => ret (a :: as)
def nilM : M (List Val) := ret []
theorem ma_nil : PA X [] (tMa k E nilM) := impA pa_nil fun σ H Q ⟨W, h⟩ => h.ret rfl
theorem ma_cons {e : Expr} {es : List Expr} {m : M Val} {ms : M (List Val)} (h : PE X e (tM k E m)) (t : PA X es (tMa k E ms)) (hs : starEach (e :: es) X.env = (false, eval e X.env) :: starEach es X.env := by rfl) : PA X (e :: es) (tMa k E (consM m ms)) :=
  impA (pa_cons h t hs) fun σ H Q h => tG.mono (tG.bnd (R1 := RepV k) h) fun x H1 ⟨W, a, ra, h1⟩ =>
    tG.mono (At.bnd (R1 := RepL k) (fun W H => RepV k W H a x) (fun l r => r.le l) ra h1) fun xs H2 ⟨W2, as, ra2, rs, h2⟩ => h2.ret (RepL.cons ra2 rs)
def liftS {α : Type} (f : Sto → Option (α × Sto)) : M α := fun _ st => (f st).map fun p => (.ok p.1, p.2)
theorem At.liftS {α β : Type} {R : Wd → Hp → α → β → Prop} {W : Wd} {σ : L2.St} {H : Hp} {f : Sto → Option (α × Sto)} {Q : β → Hp → Prop} (h : At k R E (liftS f) W σ H Q) :
    ∃ c st st', f st = some (c, st') ∧ Ok k W H st ∧ ∀ W' H' v, Le W W' H H' → Ok k W' H' st' → R W' H' c v → Q v H' := by
  obtain ⟨env, st, r, h1, h2, h3, h4⟩ := h
  unfold Mi.liftS at h3
  cases e : f st with
  | none =>
    rw [e] at h3
    cases h3
  | some p =>
    rw [e] at h3
    cases h3
    exact ⟨p.1, st, p.2, e, h1, h4⟩
theorem newLstM {W : Wd} {H : Hp} {st : Sto} {xs : List Val} {Q : VK} {p : Addr} {vs : List V} (o : Ok k W H st) (hp : H p = none) (r : RepL k W H xs vs) (q : ∀ W' H' v, Le W W' H H' → Ok k W' H' (st ++ [.lst xs]) → RepV k W' H' (.ref st.length) v → Q v H') : Q (.ref p) (upd H p (.lst vs)) := by
  have l0 : Le W (W.ob p) H (upd H p (.lst vs)) := (o.newOb (u := .lst []) (o := .lst []) hp ⟨[], upd_same, rfl⟩).1 |> fun _ => ⟨⟨[p], rfl⟩, fun _ h => h, (Le.new (W := W) hp).imm, (Le.new (W := W) hp).keep, (Le.new (W := W) hp).rest, fun q m => by
    rcases List.mem_append.mp (show q ∈ W.rho ++ [p] from m) with m | m
    · exact .inl m
    · exact .inr (by rw [List.mem_singleton.mp m]; exact hp), fun _ h => .inl h, fun _ h => upd_dom h⟩
  obtain ⟨l, o'⟩ := o.newOb (u := .lst xs) (o := .lst vs) hp ⟨vs, upd_same, r.le l0⟩
  refine q (W.ob p) _ _ l o' ⟨p, rfl, ?_⟩
  show (W.rho ++ [p])[st.length]? = some p
  rw [List.getElem?_append_right (by rw [o.len]; exact Nat.le_refl _), o.len, Nat.sub_self]
  rfl
def mkTup (ms : M (List Val)) : M Val := bnd ms fun xs => lift fun _ => if xs.length ≤ LIM then some (.tup xs) else none
def mkLst (ms : M (List Val)) : M Val := bnd ms fun xs => lift fun _ => if xs.length ≤ LIM then some (.lst xs) else none
/-- a list that will be changed -/
def mkLstM (ms : M (List Val)) : M Val := bnd ms fun xs => liftS fun st => if xs.length ≤ LIM then some (.ref st.length, st ++ [.lst xs]) else none
theorem me_tup {es : List Expr} {x1 : Nat} {ms : M (List Val)} (h : PA X es (tMa k E ms)) : PE X (.Tuple es x1 pos) (tM k E (mkTup ms)) :=
  imp (pe_tup h) fun σ H Q h => tG.mono (tG.bnd (R1 := RepL k) h) fun xs H1 ⟨W, as, ra, h1⟩ => by
    obtain ⟨c, st, e, o, q⟩ := h1.lift
    split at e
    · rename_i hl
      cases e
      exact ⟨by rw [ra.len]; exact lim_le hl, fun p hp => newTup o hp ra q⟩
    · cases e
theorem me_lst {es : List Expr} {ms : M (List Val)} (h : PA X es (tMa k E ms)) : PE X (.List es pos) (tM k E (mkLst ms)) :=
  imp (pe_lst h) fun σ H Q h => tG.mono (tG.bnd (R1 := RepL k) h) fun xs H1 ⟨W, as, ra, h1⟩ => by
    obtain ⟨c, st, e, o, q⟩ := h1.lift
    split at e
    · rename_i hl
      cases e
      exact ⟨by rw [ra.len]; exact lim_le hl, fun p hp => newLst o hp ra q⟩
    · cases e
theorem me_lstM {es : List Expr} {ms : M (List Val)} (h : PA X es (tMa k E ms)) : PE X (.List es pos) (tM k E (mkLstM ms)) :=
  imp (pe_lst h) fun σ H Q h => tG.mono (tG.bnd (R1 := RepL k) h) fun xs H1 ⟨W, as, ra, h1⟩ => by
    obtain ⟨c, st, st', e, o, q⟩ := h1.liftS
    split at e
    · rename_i hl
      cases e
      exact ⟨by rw [ra.len]; exact lim_le hl, fun p hp => newLstM o hp ra q⟩
    · cases e
/-! ### built-ins by values -/
def RdN (k : Kx) (f : Sto → List Val → Option Val) (r : List V → Hp → VK → Prop) : Prop := ∀ W H st as xs c Q, Ok k W H st → RepL k W H as xs → f st as = some c → (∀ W' H' v, Le W W' H H' → Ok k W' H' st → RepV k W' H' c v → Q v H') → r xs H Q
def RdNS (k : Kx) (f : Sto → List Val → Option (Val × Sto)) (r : List V → Hp → VK → Prop) : Prop := ∀ W H st as xs c st' Q, Ok k W H st → RepL k W H as xs → f st as = some (c, st') → (∀ W' H' v, Le W W' H H' → Ok k W' H' st' → RepV k W' H' c v → Q v H') → r xs H Q
def app (f : Sto → List Val → Option Val) (ms : M (List Val)) : M Val := bnd ms fun as => lift fun st => f st as
def appS (f : Sto → List Val → Option (Val × Sto)) (ms : M (List Val)) : M Val := bnd ms fun as => liftS fun st => f st as
def CallU (X : Cx) (k : Kx) (v : Value) (f : Sto → List Val → Option Val) : Prop := ∃ r, RdN k f r ∧ CallR X v r
def CallUS (X : Cx) (k : Kx) (v : Value) (f : Sto → List Val → Option (Val × Sto)) : Prop := ∃ r, RdNS k f r ∧ CallR X v r
theorem app_read {f : Sto → List Val → Option Val} {r : List V → Hp → VK → Prop} (h : RdN k f r) {ms : M (List Val)} {σ : L2.St} {H : Hp} {Q : VK} (h1 : tM k E (app f ms) σ H Q) : tCB r (tMa k E ms) σ H Q :=
  tG.mono (tG.bnd (R1 := RepL k) h1) fun xs H1 ⟨W, as, ra, h1⟩ => by
    obtain ⟨c, st, e, o, q⟩ := h1.lift
    exact h W H1 st as xs c Q o ra e q
theorem appS_read {f : Sto → List Val → Option (Val × Sto)} {r : List V → Hp → VK → Prop} (h : RdNS k f r) {ms : M (List Val)} {σ : L2.St} {H : Hp} {Q : VK} (h1 : tM k E (appS f ms) σ H Q) : tCB r (tMa k E ms) σ H Q :=
  tG.mono (tG.bnd (R1 := RepL k) h1) fun xs H1 ⟨W, as, ra, h1⟩ => by
    obtain ⟨c, st, st', e, o, q⟩ := h1.liftS
    exact h W H1 st as xs c st' Q o ra e q
variable {x : Str} {p : Pos} {e : Expr} {es : List Expr} {ms : M (List Val)} {id T : String}
theorem me_cb {fv : Sto → List Val → Option Val} (h : CallU X k (.builtin id) fv) (hg : Gl X x) (hm : X.mg x = none) (hv : bootBuiltins x = some (.builtin id)) (ha : PA X (e :: es) (tMa k E ms)) (hn : x ≠ "__name__" := by decide) (hdb : (x == ("__debug__" : Str)) = false := by decide)
    (he : starEach (e :: es) X.env = (false, eval e X.env) :: starEach es X.env := by rfl) (hpl : (backTo pos (starEach es X.env)).any (·.1) = false := by rfl) : PE X (.Call (.Name x p) (e :: es) [] pos) (tM k E (app fv ms)) := by
  obtain ⟨r, h1, h2⟩ := h
  exact imp (pe_callB h2 hg hm hv ha hn hdb he hpl) fun σ H Q q => app_read h1 q
theorem me_ct {fv : Sto → List Val → Option Val} (h : CallU X k (.type T) fv) (hg : Gl X x) (hm : X.mg x = none) (hv : bootBuiltins x = some (.type T)) (ha : PA X (e :: es) (tMa k E ms)) (hn : x ≠ "__name__" := by decide) (hdb : (x == ("__debug__" : Str)) = false := by decide)
    (he : starEach (e :: es) X.env = (false, eval e X.env) :: starEach es X.env := by rfl) (hpl : (backTo pos (starEach es X.env)).any (·.1) = false := by rfl) : PE X (.Call (.Name x p) (e :: es) [] pos) (tM k E (app fv ms)) := by
  obtain ⟨r, h1, h2⟩ := h
  exact imp (pe_callTy h2 hg hm hv ha hn hdb he hpl) fun σ H Q q => app_read h1 q
theorem me_ctS {fv : Sto → List Val → Option (Val × Sto)} (h : CallUS X k (.type T) fv) (hg : Gl X x) (hm : X.mg x = none) (hv : bootBuiltins x = some (.type T)) (ha : PA X (e :: es) (tMa k E ms)) (hn : x ≠ "__name__" := by decide) (hdb : (x == ("__debug__" : Str)) = false := by decide)
    (he : starEach (e :: es) X.env = (false, eval e X.env) :: starEach es X.env := by rfl) (hpl : (backTo pos (starEach es X.env)).any (·.1) = false := by rfl) : PE X (.Call (.Name x p) (e :: es) [] pos) (tM k E (appS fv ms)) := by
  obtain ⟨r, h1, h2⟩ := h
  exact imp (pe_callTy h2 hg hm hv ha hn hdb he hpl) fun σ H Q q => appS_read h1 q
end
def one : List Val → Option Val
  | [a] => some a
  | _ => none
def lenV (st : Sto) : List Val → Option Val
  | [.str z] => if z.length ≤ LIM then some (.int z.length) else none
  | [a] => (seqOf st a).map fun xs => .int xs.length
  | _ => none
def absV' (_ : Sto) : List Val → Option Val
  | [.int i] => some (.int (if i < 0 then -i else i))
  | _ => none
def intV (_ : Sto) : List Val → Option Val
  | [.int i] => some (.int i)
  | [.bl b] => some (.int (if b then 1 else 0))
  | [.str z] => if z.length ≤ 640 then (PySem.intText? z).map .int else none
  | _ => none
def strV (_ : Sto) : List Val → Option Val
  | [.int i] => if i.natAbs.log2 < 1920 then some (.str (toString i : String)) else none
  | [.str z] => some (.str z)
  | _ => none
def max2V (_ : Sto) : List Val → Option Val
  | [.int i, .int j] => some (.int (if j > i then j else i))
  | _ => none
def min2V (_ : Sto) : List Val → Option Val
  | [.int i, .int j] => some (.int (if j < i then j else i))
  | _ => none
def maxL : List Int → Option Int
  | [] => none
  | [x] => some x
  | x :: xs => (maxL xs).map fun m => if x < m then m else x
def maxV (st : Sto) : List Val → Option Val
  | [a] => match lstOf st a with
    | some xs => match allOf intOf xs with
      | some ns => (maxL ns).map .int
      | none => none
    | none => none
  | _ => none
def allV (st : Sto) : List Val → Option Val
  | [a] => match lstOf st a with
    | some xs => (allOf asBool xs).map fun bs => .bl (bs.all id)
    | none => none
  | _ => none
def tupleV (st : Sto) : List Val → Option Val
  | [a] => (seqOf st a).map .tup
  | _ => none
def listVM (st : Sto) : List Val → Option (Val × Sto)
  | [a] => (seqOf st a).map fun xs => (.ref st.length, st ++ [.lst xs])
  | _ => none
section
variable {X : Cx} {k : Kx}
theorem rep1 {W : Wd} {H : Hp} {a : Val} {xs : List V} (r : RepL k W H [a] xs) : ∃ v, xs = [v] ∧ RepV k W H a v := by
  obtain ⟨v, u, rfl, r1, r2⟩ := r
  have e : u = [] := r2
  rw [e]
  exact ⟨v, rfl, r1⟩
theorem rep2 {W : Wd} {H : Hp} {a b : Val} {xs : List V} (r : RepL k W H [a, b] xs) : ∃ v u, xs = [v, u] ∧ RepV k W H a v ∧ RepV k W H b u := by
  obtain ⟨v, u, rfl, r1, r2⟩ := r
  obtain ⟨u, rfl, r3⟩ := rep1 r2
  exact ⟨v, u, rfl, r1, r3⟩
theorem cu_len (hk : X.K = k.K := by rfl) : CallU X k (.builtin "len") lenV := by
  refine ⟨_, ?_, CallR_or call_len_seq call_len_str⟩
  intro W H st as xs c Q o r e q
  unfold lenV at e
  split at e
  · rename_i z
    obtain ⟨v, rfl, r1⟩ := rep1 r
    split at e
    · rename_i hl
      cases e
      exact .inr ⟨z, by rw [show v = .str z from r1], lim_le hl, q W H _ (Le.refl _ _) o rfl⟩
    · cases e
  · rename_i a hne
    obtain ⟨v, rfl, r1⟩ := rep1 r
    cases h : seqOf st a with
    | none =>
      rw [h] at e
      cases e
    | some ys =>
      rw [h] at e
      cases e
      obtain ⟨p, vs, rfl, s, r2⟩ := seqOf_rep o r1 h
      rw [hk]
      exact .inl ⟨p, vs, rfl, s, q W H _ (Le.refl _ _) o (by show _ = _; rw [r2.len])⟩
  · cases e
theorem cu_abs : CallU X k (.builtin "abs") absV' := by
  refine ⟨_, ?_, call_abs⟩
  intro W H st as xs c Q o r e q
  unfold absV' at e
  split at e
  · rename_i i
    obtain ⟨v, rfl, r1⟩ := rep1 r
    cases e
    exact ⟨i, by rw [show v = .int i from r1], q W H _ (Le.refl _ _) o rfl⟩
  · cases e
theorem cu_int : CallU X k (.type "int") intV := by
  refine ⟨_, ?_, CallR_or call_int1 call_int_str⟩
  intro W H st as xs c Q o r e q
  unfold intV at e
  split at e
  · rename_i i
    obtain ⟨v, rfl, r1⟩ := rep1 r
    cases e
    exact .inl (.inl ⟨i, by rw [show v = .int i from r1], q W H _ (Le.refl _ _) o rfl⟩)
  · rename_i i
    obtain ⟨v, rfl, r1⟩ := rep1 r
    cases e
    exact .inl (.inr ⟨i, by rw [show v = .bl i from r1], q W H _ (Le.refl _ _) o rfl⟩)
  · rename_i z
    obtain ⟨v, rfl, r1⟩ := rep1 r
    split at e
    · rename_i hl
      cases h : PySem.intText? z with
      | none =>
        rw [h] at e
        cases e
      | some n =>
        rw [h] at e
        cases e
        exact .inr ⟨z, n, by rw [show v = .str z from r1], h, hl, q W H _ (Le.refl _ _) o rfl⟩
    · cases e
  · cases e
theorem cu_str : CallU X k (.type "str") strV := by
  refine ⟨_, ?_, CallR_or call_str_int SkE.call_str_str⟩
  intro W H st as xs c Q o r e q
  unfold strV at e
  split at e
  · rename_i i
    obtain ⟨v, rfl, r1⟩ := rep1 r
    split at e
    · rename_i hl
      cases e
      exact .inl ⟨i, by rw [show v = .int i from r1], hl, q W H _ (Le.refl _ _) o rfl⟩
    · cases e
  · rename_i i
    obtain ⟨v, rfl, r1⟩ := rep1 r
    cases e
    exact .inr ⟨i, by rw [show v = .str i from r1], q W H _ (Le.refl _ _) o rfl⟩
  · cases e
theorem cu_max2 (hc : X.calm = true) : CallU X k (.builtin "max") max2V := by
  refine ⟨_, ?_, call_max2 hc⟩
  intro W H st as xs c Q o r e q
  unfold max2V at e
  split at e
  · rename_i i j
    obtain ⟨v, u, rfl, r1, r2⟩ := rep2 r
    cases e
    exact ⟨i, j, by rw [show v = .int i from r1, show u = .int j from r2], q W H _ (Le.refl _ _) o rfl⟩
  · cases e
theorem cu_min2 (hc : X.calm = true) : CallU X k (.builtin "min") min2V := by
  refine ⟨_, ?_, call_min2 hc⟩
  intro W H st as xs c Q o r e q
  unfold min2V at e
  split at e
  · rename_i i j
    obtain ⟨v, u, rfl, r1, r2⟩ := rep2 r
    cases e
    exact ⟨i, j, by rw [show v = .int i from r1, show u = .int j from r2], q W H _ (Le.refl _ _) o rfl⟩
  · cases e
theorem maxL_spec : ∀ {ns : List Int} {m : Int}, maxL ns = some m → m ∈ ns ∧ ∀ y ∈ ns, y ≤ m
  | [], m, h => by cases h
  | [x], m, h => by
    cases h
    exact ⟨List.mem_singleton.mpr rfl, fun y hy => by rw [List.mem_singleton.mp hy]; exact Int.le_refl _⟩
  | x :: y :: ns, m, h => by
    unfold maxL at h
    cases e : maxL (y :: ns) with
    | none =>
      rw [e] at h
      cases h
    | some z =>
      rw [e] at h
      obtain ⟨h1, h2⟩ := maxL_spec e
      cases h
      dsimp only
      split
      · rename_i hl
        exact ⟨List.mem_cons_of_mem _ h1, fun w hw => by
          rcases List.mem_cons.mp hw with rfl | hw
          · omega
          · exact h2 w hw⟩
      · rename_i hl
        exact ⟨List.mem_cons_self, fun w hw => by
          rcases List.mem_cons.mp hw with rfl | hw
          · omega
          · have := h2 w hw
            omega⟩
theorem cu_max (hc : X.calm = true) (hk : X.K = k.K := by rfl) : CallU X k (.builtin "max") maxV := by
  refine ⟨_, ?_, cr_max hc⟩
  intro W H st as xs c Q o r e q
  unfold maxV at e
  split at e
  · rename_i a
    obtain ⟨v, rfl, r1⟩ := rep1 r
    split at e
    · rename_i ys hys
      split at e
      · rename_i ns hns
        cases h : maxL ns with
        | none =>
          rw [h] at e
          cases e
        | some m =>
          rw [h] at e
          cases e
          obtain ⟨p, vs, rfl, s, r2⟩ := lstOf_rep o r1 hys
          have e3 := ints_rep r2 (allOf_map intOf_eq hns)
          obtain ⟨m1, m2⟩ := maxL_spec h
          rw [e3] at s
          rw [hk]
          refine ⟨p, ns, rfl, s, List.length_pos_of_mem m1, fun m' h1 h2 => ?_⟩
          have em : m' = m := Int.le_antisymm (m2 _ h1) (h2 _ m1)
          rw [em]
          exact q W H _ (Le.refl _ _) o rfl
      · cases e
    · cases e
  · cases e
theorem cu_all (hc : X.calm = true) (hk : X.K = k.K := by rfl) : CallU X k (.builtin "all") allV := by
  refine ⟨_, ?_, cr_all hc⟩
  intro W H st as xs c Q o r e q
  unfold allV at e
  split at e
  · rename_i a
    obtain ⟨v, rfl, r1⟩ := rep1 r
    split at e
    · rename_i ys hys
      cases h : allOf asBool ys with
      | none =>
        rw [h] at e
        cases e
      | some bs =>
        rw [h] at e
        cases e
        obtain ⟨p, vs, rfl, s, r2⟩ := lstOf_rep o r1 hys
        have e3 := bls_rep r2 (allOf_map asBool_eq h)
        rw [e3] at s
        rw [hk]
        exact ⟨p, bs, rfl, s, q W H _ (Le.refl _ _) o rfl⟩
    · cases e
  · cases e
theorem cu_tuple (hk : X.K = k.K := by rfl) : CallU X k (.type "tuple") tupleV := by
  refine ⟨_, ?_, call_tuple_of⟩
  intro W H st as xs c Q o r e q
  unfold tupleV at e
  split at e
  · rename_i a
    obtain ⟨v, rfl, r1⟩ := rep1 r
    cases h : seqOf st a with
    | none =>
      rw [h] at e
      cases e
    | some ys =>
      rw [h] at e
      cases e
      obtain ⟨p, vs, rfl, s, r2⟩ := seqOf_rep o r1 h
      rw [hk]
      refine ⟨p, vs, rfl, ?_⟩
      rcases s with s | s
      · exact .inl ⟨s, fun l hl => newTup o hl r2 q⟩
      · exact .inr ⟨s, q W H _ (Le.refl _ _) o ⟨p, vs, rfl, s, r2⟩⟩
  · cases e
theorem cu_listM (hk : X.K = k.K := by rfl) : CallUS X k (.type "list") listVM := by
  refine ⟨_, ?_, call_list_of⟩
  intro W H st as xs c st' Q o r e q
  unfold listVM at e
  split at e
  · rename_i a
    obtain ⟨v, rfl, r1⟩ := rep1 r
    cases h : seqOf st a with
    | none =>
      rw [h] at e
      cases e
    | some ys =>
      rw [h] at e
      cases e
      obtain ⟨p, vs, rfl, s, r2⟩ := seqOf_rep o r1 h
      rw [hk]
      exact ⟨p, vs, rfl, s, fun l hl => newLstM o hl r2 q⟩
  · cases e
end
end Mi
namespace Mi
open PySem L2
/-! ### statements -/
inductive Out where
  | next | brk | cont | ret (v : Val) | err (x : Exc)
abbrev S := Env → Sto → Option (Out × Env × Sto)
def FinS (k : Kx) (E : WX) (W : Wd) (H : Hp) (D : Ends) : Out × Env × Sto → Prop
  | (.next, env, st) => ∀ W' H' σ, Le W W' H H' → Ok k W' H' st → RepE k W' H' env σ → D.nx σ H'
  | (.brk, env, st) => ∀ W' H' σ, Le W W' H H' → Ok k W' H' st → RepE k W' H' env σ → D.bk σ H'
  | (.cont, env, st) => ∀ W' H' σ, Le W W' H H' → Ok k W' H' st → RepE k W' H' env σ → D.ct σ H'
  | (.ret v, _, st) => ∀ W' H' u, Le W W' H H' → Ok k W' H' st → RepV k W' H' v u → D.rt u H'
  | (.err x, env, st) => ∀ W' H' σ c d, Le W W' H H' → Ok k W' H' st → RepE k W' H' env σ → RepX k W' H' x c d → E c d σ H'
def AtS (k : Kx) (E : WX) (s : S) (W : Wd) (D : Ends) (σ : L2.St) (H : Hp) : Prop := ∃ env st o, Ok k W H st ∧ RepE k W H env σ ∧ s env st = some o ∧ FinS k E W H D o
def tS (k : Kx) (E : WX) (s : S) : TS := fun D σ H => ∃ W, AtS k E s W D σ H
theorem FinS.le {k : Kx} {E : WX} {W W1 : Wd} {H H1 : Hp} {D : Ends} {o : Out × Env × Sto} (l : Le W W1 H H1) (h : FinS k E W H D o) : FinS k E W1 H1 D o := by
  obtain ⟨r, env, st⟩ := o
  cases r with
  | next => exact fun W' H' σ l' => h W' H' σ (l.trans l')
  | brk => exact fun W' H' σ l' => h W' H' σ (l.trans l')
  | cont => exact fun W' H' σ l' => h W' H' σ (l.trans l')
  | ret v => exact fun W' H' u l' => h W' H' u (l.trans l')
  | err x => exact fun W' H' σ c d l' => h W' H' σ c d (l.trans l')
def sNext : S := fun env st => some (.next, env, st)
def sSeq (a b : S) : S := fun env st => match a env st with
  | some (.next, env1, st1) => b env1 st1
  | o => o
/-- run m, then go on with its value -/
def sBnd {α : Type} (m : M α) (f : α → S) : S := fun env st => match m env st with
  | some (.ok a, st1) => f a env st1
  | some (.error x, st1) => some (.err x, env, st1)
  | none => none
def sExpr (m : M Val) : S := sBnd m fun _ => sNext
def sRet (m : M Val) : S := sBnd m fun v env st => some (.ret v, env, st)
def sIf (c : M Bool) (a b : S) : S := sBnd c fun t => if t then a else b
def sSet (i : Nat) (m : M Val) : S := sBnd m fun v env st => some (.next, env.set i (some v), st)
section
variable {X : Cx} {k : Kx} {E : WX}
theorem AtS.tS {s : S} {W : Wd} {D : Ends} {σ : L2.St} {H : Hp} (h : AtS k E s W D σ H) : tS k E s D σ H := ⟨W, h⟩
theorem tS.bnd {α β : Type} {R : Wd → Hp → α → β → Prop} {m : M α} {f : α → S} {D : Ends} {σ : L2.St} {H : Hp} (h : tS k E (sBnd m f) D σ H) : tG k R E m σ H fun x H1 => ∃ W a, R W H1 a x ∧ AtS k E (f a) W D σ H1 := by
  obtain ⟨W, env, st, o, h1, h2, h3, h4⟩ := h
  unfold sBnd at h3
  cases e : m env st with
  | none =>
    rw [e] at h3
    cases h3
  | some p =>
    rw [e] at h3
    obtain ⟨r, st1⟩ := p
    cases r with
    | ok a => exact ⟨W, env, st, _, h1, h2, e, fun W' H' v l o' r' => ⟨W', a, r', env, st1, o, o', h2.le l, h3, h4.le l⟩⟩
    | error x =>
      cases h3
      exact ⟨W, env, st, _, h1, h2, e, fun W' H' c d l o r => h4 W' H' σ c d l o (h2.le l) r⟩
theorem AtS.next {W : Wd} {D : Ends} {σ : L2.St} {H : Hp} (h : AtS k E sNext W D σ H) : D.nx σ H := by
  obtain ⟨env, st, o, h1, h2, h3, h4⟩ := h
  cases h3
  exact h4 W H σ (Le.refl W H) h1 h2
theorem ms_nil : PSs X [] (tS k E sNext) := impSs pss_nil fun D σ H ⟨W, h⟩ => h.next
theorem seq_read {a b : S} {D : Ends} {σ : L2.St} {H : Hp} (h : tS k E (sSeq a b) D σ H) : tSeq (tS k E a) (tS k E b) D σ H := by
  obtain ⟨W, env, st, o, h1, h2, h3, h4⟩ := h
  unfold sSeq at h3
  cases e : a env st with
  | none =>
    rw [e] at h3
    cases h3
  | some p =>
    obtain ⟨r, env1, st1⟩ := p
    rw [e] at h3
    cases r with
    | next => exact ⟨W, env, st, _, h1, h2, e, fun W' H' σ' l o' r' => ⟨W', env1, st1, o, o', r', h3, h4.le l⟩⟩
    | brk =>
      cases h3
      exact ⟨W, env, st, _, h1, h2, e, h4⟩
    | cont =>
      cases h3
      exact ⟨W, env, st, _, h1, h2, e, h4⟩
    | ret v =>
      cases h3
      exact ⟨W, env, st, _, h1, h2, e, h4⟩
    | err x =>
      cases h3
      exact ⟨W, env, st, _, h1, h2, e, h4⟩
theorem ms_cons {st : Stmt} {rest : List Stmt} {a b : S} (h1 : PS X st (tS k E a)) (h2 : PSs X rest (tS k E b)) : PSs X (st :: rest) (tS k E (sSeq a b)) := impSs (pss_cons h1 h2) fun _ _ _ h => seq_read h
theorem ms_one {st : Stmt} {a : S} (h1 : PS X st (tS k E a)) : PSs X [st] (tS k E a) := pss_one h1
theorem ms_expr {e : Expr} {m : M Val} {pos : Pos} (h : PE X e (tM k E m)) (hs : swapsWith e none pos.line X.env = pure false := by rfl) : PS X (.Expr e pos) (tS k E (sExpr m)) :=
  impS (ps_expr h hs) fun D σ H h => tG.mono (tS.bnd (R := RepV k) h) fun x H1 ⟨W, a, ra, h1⟩ => h1.next
theorem ms_ret {e : Expr} {m : M Val} {pos : Pos} (h : PE X e (tM k E m)) : PS X (.Return (some e) pos) (tS k E (sRet m)) :=
  impS (ps_ret h) fun D σ H h => tG.mono (tS.bnd (R := RepV k) h) fun x H1 ⟨W, a, ra, env, st, o, h1, h2, h3, h4⟩ => by
    cases h3
    exact h4 W H1 x (Le.refl _ _) h1 ra
theorem ms_if {c : Expr} {a b : List Stmt} {m : M Bool} {s t : S} {pos : Pos} (hc : PT X c (tMb k E m)) (ha : PSs X a (tS k E s)) (hb : PSs X b (tS k E t)) : PS X (.If c a b pos) (tS k E (sIf m s t)) :=
  impS (ps_if hc ha hb) fun D σ H h => tG.mono (tS.bnd (R := RB) h) fun x H1 ⟨W, a, ra, h1⟩ => by
    cases ra
    cases x with
    | true => exact h1.tS
    | false => exact h1.tS
theorem set_read {i : Nat} {m : M Val} {D : Ends} {σ : L2.St} {H : Hp} (h : tS k E (sSet i m) D σ H) : tAsg (tM k E m) (gName i) D σ H :=
  tG.mono (tS.bnd (R := RepV k) h) fun x H1 ⟨W, a, ra, env, st, o, h1, h2, h3, h4⟩ => by
    cases h3
    exact h4 W H1 _ (Le.refl _ _) h1 (h2.set ra i)
theorem ms_set {i : Nat} {x : Str} {e : Expr} {m : M Val} {pos pos' : Pos} (hN : X.N.Nodup) (hi : X.N[i]? = some x) (hx : Loc X.env.scope x) (he : PE X e (tM k E m)) (hs : swapsWith e (some (.Name x pos')) pos.line X.env = pure false := by rfl)
    (hf : X.fn x = true ∨ X.env.scope.names.lookup x = some .local := by first | exact .inl rfl | exact .inr rfl | assumption) : PS X (.Assign [.Name x pos'] e pos) (tS k E (sSet i m)) := impS (ps_set hN hi hx he hs hf) fun _ _ _ h => set_read h
/-! ### targets -/
inductive Tg where
  | name (i : Nat) | tup (ts : List Tg)
mutual
def bindT : Tg → Val → Env → Option Env
  | .name i, v, env => some (env.set i (some v))
  | .tup ts, v, env => match v with
    | .tup xs => if xs.length = ts.length then bindTs ts xs env else none
    | _ => none
def bindTs : List Tg → List Val → Env → Option Env
  | [], _, env => some env
  | t :: ts, xs, env => match xs with
    | x :: xs => match bindT t x env with
      | some env1 => bindTs ts xs env1
      | none => none
    | [] => none
end
mutual
def gT (K : PySem.W.Frag) : Tg → TG
  | .name i => gName i
  | .tup ts => gTup K ts.length (gTs K ts)
def gTs (K : PySem.W.Frag) : List Tg → TGs
  | [] => gNil
  | t :: ts => gCons (gT K t) (gTs K ts)
end
mutual
def slots : Tg → List Nat
  | .name i => [i]
  | .tup ts => slotss ts
def slotss : List Tg → List Nat
  | [] => []
  | t :: ts => slots t ++ slotss ts
end
/-- σ and σ' differ at most at the slots vs -/
def OnlyAt (vs : List Nat) (σ σ' : L2.St) : Prop := σ'.length = σ.length ∧ ∀ j, j ∉ vs → σ'[j]? = σ[j]?
theorem OnlyAt.refl {vs : List Nat} {σ : L2.St} : OnlyAt vs σ σ := ⟨rfl, fun _ _ => rfl⟩
theorem OnlyAt.trans {vs us : List Nat} {σ σ1 σ2 : L2.St} (a : OnlyAt vs σ σ1) (b : OnlyAt us σ1 σ2) : OnlyAt (vs ++ us) σ σ2 := ⟨b.1.trans a.1, fun j hj => (b.2 j fun z => hj (List.mem_append_right _ z)).trans (a.2 j fun z => hj (List.mem_append_left _ z))⟩
mutual
theorem gT_of : ∀ {t : Tg} {a : Val} {x : V} {W : Wd} {H : Hp} {env env' : Env} {σ : L2.St} {Q : L2.St → Hp → Prop}, RepV k W H a x → RepE k W H env σ → bindT t a env = some env' → (∀ σ', RepE k W H env' σ' → OnlyAt (slots t) σ σ' → Q σ' H) → gT k.K t x σ H Q
  | .name i, a, x, W, H, env, env', σ, Q, ra, re, e, q => by
    cases e
    exact q _ (re.set ra i) ⟨by simp, fun j hj => List.getElem?_set_ne (fun z => hj (by rw [z]; exact List.mem_singleton.mpr rfl))⟩
  | .tup ts, a, x, W, H, env, env', σ, Q, ra, re, e, q => by
    cases a with
    | tup xs =>
      dsimp only [bindT] at e
      split at e
      · rename_i hl
        obtain ⟨p, vs, e1, s, r⟩ := ra
        exact ⟨p, vs, e1, s, by rw [r.len]; exact hl, gTs_of r hl re e q⟩
      · cases e
    | _ => cases e
theorem gTs_of : ∀ {ts : List Tg} {xs : List Val} {vs : List V} {W : Wd} {H : Hp} {env env' : Env} {σ : L2.St} {Q : L2.St → Hp → Prop}, RepL k W H xs vs → xs.length = ts.length → RepE k W H env σ → bindTs ts xs env = some env' → (∀ σ', RepE k W H env' σ' → OnlyAt (slotss ts) σ σ' → Q σ' H) → gTs k.K ts vs σ H Q
  | [], xs, vs, W, H, env, env', σ, Q, ra, hl, re, e, q => by
    cases e
    have hx : xs = [] := List.length_eq_zero_iff.mp hl
    subst hx
    exact ⟨ra, q σ re OnlyAt.refl⟩
  | t :: ts, xs, vs, W, H, env, env', σ, Q, ra, hl, re, e, q => by
    cases xs with
    | nil => cases hl
    | cons y ys =>
      obtain ⟨v, r, rfl, r1, r2⟩ := ra
      dsimp only [bindTs] at e
      cases h : bindT t y env with
      | none =>
        rw [h] at e
        cases e
      | some env1 =>
        rw [h] at e
        refine ⟨v, r, rfl, gT_of r1 re h fun σ1 re1 o1 => ?_⟩
        exact gTs_of r2 (by simpa using hl) re1 e fun σ2 re2 o2 => q σ2 re2 (o1.trans o2)
end
/-- (a, b) = a tuple -/
def sSetT (t : Tg) (m : M Val) : S := sBnd m fun v env st => match bindT t v env with
  | some env' => some (.next, env', st)
  | none => none
/-- a, b = x, y -/
def sPar (i j : Nat) (ms : M (List Val)) : S := sBnd ms fun xs env st => match xs with
  | [v, w] => some (.next, (env.set i (some v)).set j (some w), st)
  | _ => none
theorem par_read {i j : Nat} {ms : M (List Val)} {D : Ends} {σ : L2.St} {H : Hp} (h : tS k E (sPar i j ms) D σ H) : tPar i j (tMa k E ms) D σ H :=
  tG.mono (tS.bnd (R := RepL k) h) fun xs H1 ⟨W, as, ra, env, st, o, h1, h2, h3, h4⟩ => by
    split at h3
    · rename_i v w
      cases h3
      obtain ⟨x, y, rfl, r1, r2⟩ := rep2 ra
      exact ⟨x, y, rfl, h4 W H1 _ (Le.refl _ _) h1 ((h2.set r1 i).set r2 j)⟩
    · cases h3
end
end Mi
namespace Mi
open PySem L2
/-! ### what is walked -/
def Walks (k : Kx) (W : Wd) (H : Hp) (xs : List Val) (J : It) : Prop := ∀ W' H' st, Le W W' H H' → Ok k W' H' st → J.stop xs.length H' ∧
  ∀ i x, xs[i]? = some x → J.go i H' ∧ ∀ v H'', J.yld i H' v H'' → ∃ W'', Le W' W'' H' H'' ∧ Ok k W'' H'' st ∧ RepV k W'' H'' x v
def tMi (k : Kx) (E : WX) (m : M (List Val)) : TI := fun σ H R => tG k (fun W H xs J => Walks k W H xs J) E m σ H R
theorem PI_or {X : Cx} {tg e : Expr} {w w' : TI} (h : PI X tg e w) (h' : PI X tg e w') : PI X tg e (fun σ H R => w σ H R ∨ w' σ H R) :=
  ⟨fun pins s σ H R I q => q.elim (h.run pins s σ H R I) (h'.run pins s σ H R I)⟩
theorem impI {X : Cx} {tg e : Expr} {w w' : TI} (h : PI X tg e w) (i : ∀ σ H R, w' σ H R → w σ H R) : PI X tg e w' := ⟨fun pins s σ H R I q => h.run pins s σ H R I (i σ H R q)⟩
def signs (z : Str) : List Val := z.cps.toList.map fun c => .str ⟨#[c]⟩
/-- a list that nobody changes, a tuple, a text -/
def stillOf : Val → Option (List Val)
  | .lst xs => some xs
  | .rol xs => some xs
  | .tup xs => some xs
  | .str z => some (signs z)
  | _ => none
def itS (m : M Val) : M (List Val) := bnd m fun a => lift fun _ => stillOf a
section
variable {k : Kx} {W : Wd} {H : Hp}
theorem walks_list {p : Addr} {vs : List V} {xs : List Val} (hs : ∀ W' H', Le W W' H H' → SqL k.K H' p vs) (r : RepL k W H xs vs) : Walks k W H xs (Itl k.K p) := fun W' H' st l o =>
  ⟨⟨vs, hs W' H' l, by rw [r.len]; exact Nat.le_refl _⟩, fun i x e => by
    obtain ⟨v, ev, rv⟩ := r.get e
    refine ⟨⟨vs, v, hs W' H' l, ev⟩, fun u H'' y => ?_⟩
    obtain ⟨e1, e2⟩ := y
    subst e1
    have e3 : v = u := Option.some.inj (ev.symm.trans (e2 vs (hs W' H'' l)))
    subst e3
    exact ⟨W', Le.refl _ _, o, rv.le l⟩⟩
theorem walks_tup {p : Addr} {vs : List V} {xs : List Val} (hs : SqT k.K H p vs) (r : RepL k W H xs vs) : Walks k W H xs (Itt k.K p) := fun W' H' st l o =>
  ⟨⟨vs, l.sqT hs, by rw [r.len]; exact Nat.le_refl _⟩, fun i x e => by
    obtain ⟨v, ev, rv⟩ := r.get e
    refine ⟨⟨vs, v, l.sqT hs, ev⟩, fun u H'' y => ?_⟩
    obtain ⟨e1, e2⟩ := y
    subst e1
    have e3 : v = u := Option.some.inj (ev.symm.trans (e2 vs (l.sqT hs)))
    subst e3
    exact ⟨W', Le.refl _ _, o, rv.le l⟩⟩
theorem walks_str {z : Str} : Walks k W H (signs z) (Its z) := fun W' H' st l o =>
  ⟨by
    show z.cps.size ≤ (signs z).length
    unfold signs
    simp, fun i x e => by
    unfold signs at e
    rw [List.getElem?_map] at e
    cases q : z.cps.toList[i]? with
    | none =>
      rw [q] at e
      cases e
    | some c =>
      rw [q] at e
      cases e
      have hc : z.cps[i]? = some c := by simpa using q
      refine ⟨?_, fun u H'' y => ?_⟩
      · show i < z.cps.size
        exact (Array.getElem?_eq_some_iff.mp hc).1
      · obtain ⟨e1, c', e2, e3⟩ := y
        subst e1
        rw [hc] at e2
        cases e2
        exact ⟨W', Le.refl _ _, o, e3⟩⟩
theorem walks_range {lo : Int} {n : Nat} : Walks k W H ((List.range n).map fun (i : Nat) => .int (lo + i)) (Itr lo n) := fun W' H' st l o =>
  ⟨by
    show n ≤ _
    simp, fun i x e => by
    rw [List.getElem?_map] at e
    cases q : (List.range n)[i]? with
    | none =>
      rw [q] at e
      cases e
    | some c =>
      rw [q] at e
      cases e
      obtain ⟨hi, hc⟩ := List.getElem?_eq_some_iff.mp q
      have hc' : i = c := by simpa using hc
      subst hc'
      refine ⟨by show i < n; simpa using hi, fun u H'' y => ?_⟩
      obtain ⟨e1, e2⟩ := y
      subst e1
      exact ⟨W', Le.refl _ _, o, e2⟩⟩
end
def rng1 (ms : M (List Val)) : M (List Val) := bnd ms fun as => lift fun _ => match as with
  | [.int j] => if -(2 ^ 62) ≤ j ∧ j < 2 ^ 62 then some ((List.range j.toNat).map fun (i : Nat) => .int (0 + i)) else none
  | _ => none
def pairs (xs : List Val) : List Val := xs.zipIdx.map fun p => .tup [.int (p.2 : Nat), p.1]
section
variable {X : Cx} {k : Kx} {E : WX} {tg : Expr}
theorem mi_still {e : Expr} {m : M Val} (h : PE X e (tM k E m)) (hk : X.K = k.K := by rfl) : PI X tg e (tMi k E (itS m)) := by
  refine impI (PI_or (pi_list h) (PI_or (pi_tup h) (pi_str h))) fun σ H R q => ?_
  rw [hk]
  obtain ⟨W, env, st, o, h1, h2, h3, h4⟩ := q
  unfold itS Mi.bnd at h3
  cases em : m env st with
  | none =>
    rw [em] at h3
    cases h3
  | some p =>
    obtain ⟨r, st1⟩ := p
    rw [em] at h3
    cases r with
    | error x =>
      cases h3
      exact .inl ⟨W, env, st, _, h1, h2, em, h4⟩
    | ok a =>
      have h5 : (stillOf a).map (fun c => ((.ok c : Except Exc (List Val)), st1)) = some o := h3
      cases a with
      | lst xs =>
        cases h5
        refine .inl ⟨W, env, st, _, h1, h2, em, fun W' H' v l o' r' => ?_⟩
        obtain ⟨p, vs, e1, f, s, r⟩ := r'
        exact ⟨p, e1, ⟨vs, .inl (.inl s)⟩, h4 W' H' _ l o' (walks_list (fun W2 H2 l2 => .inl (.inl (l2.keep _ _ s f))) r)⟩
      | rol xs =>
        cases h5
        refine .inl ⟨W, env, st, _, h1, h2, em, fun W' H' v l o' r' => ?_⟩
        obtain ⟨p, vs, e1, s, r⟩ := r'
        refine ⟨p, e1, ⟨vs, RoL.sq s⟩, h4 W' H' _ l o' (walks_list (fun W2 H2 l2 => ?_) r)⟩
        rcases s with ⟨u, s⟩ | s
        · exact .inl (.inr ⟨u, l2.imm _ _ s trivial⟩)
        · exact SqL.ro s
      | tup xs =>
        cases h5
        refine .inr (.inl ⟨W, env, st, _, h1, h2, em, fun W' H' v l o' r' => ?_⟩)
        obtain ⟨p, vs, e1, s, r⟩ := r'
        exact ⟨p, e1, ⟨vs, s⟩, h4 W' H' _ l o' (walks_tup s r)⟩
      | str z =>
        cases h5
        exact .inr (.inr ⟨W, env, st, _, h1, h2, em, fun W' H' v l o' r' => ⟨z, r', h4 W' H' _ l o' walks_str⟩⟩)
      | _ => cases h5
theorem mi_range1 {a : Expr} {ms : M (List Val)} {p pos : Pos} (h : PI X tg (.Call (.Name "range" p) [a] [] pos) (iRng1 (tMa k E ms))) : PI X tg (.Call (.Name "range" p) [a] [] pos) (tMi k E (rng1 ms)) :=
  impI h fun σ H R q => tG.mono (tG.bnd (R1 := RepL k) q) fun vs H1 ⟨W, as, ra, h1⟩ => by
    obtain ⟨c, st, e, o, q⟩ := h1.lift
    split at e
    · rename_i j
      split at e
      · rename_i hl
        cases e
        obtain ⟨v, rfl, r1⟩ := rep1 ra
        exact ⟨j, by rw [show v = .int j from r1], hl.1, hl.2, q W H1 _ (Le.refl _ _) o walks_range⟩
      · cases e
    · cases e
/-! ### for -/
def loop (t : Tg) (body : S) : List Val → S
  | [], env, st => some (.next, env, st)
  | x :: xs, env, st => match bindT t x env with
    | none => none
    | some env1 => match body env1 st with
      | some (.next, e, s) => loop t body xs e s
      | some (.cont, e, s) => loop t body xs e s
      | some (.brk, e, s) => some (.next, e, s)
      | o => o
def sFor (mi : M (List Val)) (t : Tg) (body : S) : S := sBnd mi fun xs => loop t body xs
theorem for_read {mi : M (List Val)} {t : Tg} {body : S} {D : Ends} {σ : L2.St} {H : Hp} (h : tS k E (sFor mi t body) D σ H) : tFor (tMi k E mi) (gT k.K t) (tS k E body) D σ H := by
  refine tG.mono (tS.bnd (R := fun W H xs J => Walks k W H xs J) h) fun J H1 ⟨W, xs, walks, env, st, o, h1, h2, h3, h4⟩ => ?_
  refine ⟨fun i m σ H => i + m = xs.length ∧ ∃ W' env st, Le W W' H1 H ∧ Ok k W' H st ∧ RepE k W' H env σ ∧ loop t body (xs.drop i) env st = some o, ⟨xs.length, by omega, W, env, st, Le.refl _ _, h1, h2, h3⟩, ?_⟩
  rintro i m σ H ⟨hi, W', env, st, l, ok, re, hl⟩
  obtain ⟨stop, go⟩ := walks W' H st l ok
  by_cases hlt : i < xs.length
  · obtain ⟨g, y⟩ := go i xs[i] (List.getElem?_eq_getElem hlt)
    refine .inr ⟨g, fun σ' H' => ∃ W'' env st, Le W W'' H1 H' ∧ Ok k W'' H' st ∧ RepE k W'' H' env σ' ∧ loop t body (xs.drop (i + 1)) env st = some o, fun σ' H' ⟨W2, env2, st2, l2, o2, r2, e2⟩ => ⟨m - 1, by omega, by omega, W2, env2, st2, l2, o2, r2, e2⟩, fun v H' hy => ?_⟩
    obtain ⟨W2, l2, ok2, rv⟩ := y v H' hy
    rw [List.drop_eq_getElem_cons hlt] at hl
    dsimp only [loop] at hl
    cases e : bindT t xs[i] env with
    | none =>
      rw [e] at hl
      cases hl
    | some env1 =>
      rw [e] at hl
      dsimp only at hl
      refine gT_of rv (re.le l2) e fun σ2 re2 _ => ?_
      cases eb : body env1 st with
      | none =>
        rw [eb] at hl
        cases hl
      | some p =>
        obtain ⟨r, e', s'⟩ := p
        rw [eb] at hl
        refine ⟨W2, env1, st, _, ok2, re2, eb, ?_⟩
        cases r with
        | next => exact fun W3 H3 σ3 l3 o3 r3 => ⟨W3, e', s', (l.trans l2).trans l3, o3, r3, hl⟩
        | cont => exact fun W3 H3 σ3 l3 o3 r3 => ⟨W3, e', s', (l.trans l2).trans l3, o3, r3, hl⟩
        | brk =>
          cases hl
          exact fun W3 H3 σ3 l3 o3 r3 => h4 W3 H3 σ3 ((l.trans l2).trans l3) o3 r3
        | ret u =>
          cases hl
          exact fun W3 H3 v l3 o3 r3 => h4 W3 H3 v ((l.trans l2).trans l3) o3 r3
        | err x =>
          cases hl
          exact fun W3 H3 σ3 c d l3 o3 r3 r4 => h4 W3 H3 σ3 c d ((l.trans l2).trans l3) o3 r3 r4
  · have e : i = xs.length := by omega
    subst e
    rw [List.drop_length] at hl
    cases hl
    exact .inl ⟨stop, h4 W' H σ l ok re⟩
theorem ms_for {iter : Expr} {body : List Stmt} {mi : M (List Val)} {t : Tg} {s : S} {pos : Pos} (hp : PassesOwn (model X.prog X.w) X.A X.env X.xe) (hc : X.calm = true) (hi : PI X tg iter (tMi k E mi)) (hg : PG X tg (gT X.K t)) (hb : PSs X body (tS k E s))
    (hs : ∀ x, foldedSetIterable iter X.env x = pure x := by intro _; rfl) (hk : X.K = k.K := by rfl) : PS X (.For tg iter body [] pos) (tS k E (sFor mi t s)) :=
  impS (ps_for hp hc hi hg hb hs) fun D σ H h => by
    rw [hk]
    exact for_read h
/-! ### while -/
def sWhile (c : M Bool) (body : S) : Nat → S
  | 0, _, _ => none
  | n + 1, env, st => sBnd c (fun t env st => if t then match body env st with
      | some (.next, e, s) => sWhile c body n e s
      | some (.cont, e, s) => sWhile c body n e s
      | some (.brk, e, s) => some (.next, e, s)
      | o => o
    else some (.next, env, st)) env st
theorem while_read {c : M Bool} {body : S} {n : Nat} {D : Ends} {σ : L2.St} {H : Hp} (h : tS k E (sWhile c body n) D σ H) : tWhile (tMb k E c) (tS k E body) D σ H := by
  obtain ⟨W, env, st, o, h1, h2, h3, h4⟩ := h
  refine ⟨fun m σ H1 => ∃ W' env st, Le W W' H H1 ∧ Ok k W' H1 st ∧ RepE k W' H1 env σ ∧ sWhile c body m env st = some o, ⟨n, W, env, st, Le.refl _ _, h1, h2, h3⟩, ?_⟩
  rintro m σ' H1 ⟨W', env, st, l, ok, re, e⟩
  cases m with
  | zero => cases e
  | succ m =>
    dsimp only [sWhile] at e
    have hs : tS k E (sBnd c (fun t env st => if t then match body env st with
      | some (.next, e, s) => sWhile c body m e s
      | some (.cont, e, s) => sWhile c body m e s
      | some (.brk, e, s) => some (.next, e, s)
      | o => o
    else some (.next, env, st))) D σ' H1 := ⟨W', env, st, o, ok, re, e, h4.le l⟩
    -- the test
    unfold sBnd at e
    cases ec : c env st with
    | none =>
      rw [ec] at e
      cases e
    | some p =>
      obtain ⟨r, st1⟩ := p
      rw [ec] at e
      cases r with
      | error x =>
        cases e
        exact ⟨W', env, st, _, ok, re, ec, fun W2 H2 cc d l2 o2 r2 => h4 W2 H2 σ' cc d (l.trans l2) o2 (re.le l2) r2⟩
      | ok t =>
        refine ⟨W', env, st, _, ok, re, ec, fun W2 H2 b l2 o2 r2 => ?_⟩
        cases r2
        cases t with
        | false =>
          have e' : some (Out.next, env, st1) = some o := e
          cases e'
          exact h4 W2 H2 σ' (l.trans l2) o2 (re.le l2)
        | true =>
          refine ⟨fun σ3 H3 => ∃ W3 env st, Le W W3 H H3 ∧ Ok k W3 H3 st ∧ RepE k W3 H3 env σ3 ∧ sWhile c body m env st = some o, fun σ3 H3 q => ⟨m, Nat.lt_succ_self m, q⟩, ?_⟩
          dsimp only at e
          rw [if_pos rfl] at e
          cases eb : body env st1 with
          | none =>
            rw [eb] at e
            cases e
          | some q =>
            obtain ⟨r, e', s'⟩ := q
            rw [eb] at e
            refine ⟨W2, env, st1, _, o2, re.le l2, eb, ?_⟩
            cases r with
            | next => exact fun W3 H3 σ3 l3 o3 r3 => ⟨W3, e', s', (l.trans l2).trans l3, o3, r3, e⟩
            | cont => exact fun W3 H3 σ3 l3 o3 r3 => ⟨W3, e', s', (l.trans l2).trans l3, o3, r3, e⟩
            | brk =>
              cases e
              exact fun W3 H3 σ3 l3 o3 r3 => h4 W3 H3 σ3 ((l.trans l2).trans l3) o3 r3
            | ret u =>
              cases e
              exact fun W3 H3 v l3 o3 r3 => h4 W3 H3 v ((l.trans l2).trans l3) o3 r3
            | err x =>
              cases e
              exact fun W3 H3 σ3 c d l3 o3 r3 r4 => h4 W3 H3 σ3 c d ((l.trans l2).trans l3) o3 r3 r4
theorem ms_while {c : Expr} {body : List Stmt} {m : M Bool} {s : S} {pos : Pos} (n : Nat) (hp : PassesOwn (model X.prog X.w) X.A X.env X.xe) (hc : PT X c (tMb k E m)) (hb : PSs X body (tS k E s)) : PS X (.While c body [] pos) (tS k E (sWhile m s n)) :=
  impS (ps_while hp hc hb) fun D σ H h => while_read h
end
end Mi
namespace Mi
open PySem L2
/-! ### comprehensions -/
def wipeE (env : Env) : List Nat → Env
  | [] => env
  | v :: vs => (wipeE env vs).set v none
theorem RepE.wipe {k : Kx} {W : Wd} {H : Hp} {env : Env} {σ : L2.St} (h : RepE k W H env σ) : ∀ vs : List Nat, RepE k W H (wipeE env vs) (wipe σ vs)
  | [] => h
  | v :: vs => RepE.wipe1 v none (RepE.wipe h vs)
theorem RepE.aside {k : Kx} {W : Wd} {H : Hp} {D : Addr} {acc : List V} {o : HO} (hf : ¬ W.fz D) (hD : H D = some (.lst acc)) : ∀ {env : Env} {σ : L2.St}, RepE k W H env σ → RepE k W (upd H D o) env σ
  | [], _, h => h
  | e :: es, _, h => by
    obtain ⟨u, r, e1, h1, h2⟩ := h
    refine ⟨u, r, e1, fun x hx => ?_, RepE.aside hf hD h2⟩
    obtain ⟨v, e2, h3⟩ := h1 x hx
    exact ⟨v, e2, h3.aside hf hD⟩
theorem Le.aside {W W' : Wd} {H H' : Hp} {D : Addr} {o : HO} (l : Le W W' H H') (h : H D = none) : Le W W' H (upd H' D o) := by
  have ne : ∀ p u, H p = some u → p ≠ D := fun p u e z => by
    rw [z, h] at e
    cases e
  exact ⟨l.rho, l.fz, fun p u e i => by rw [upd_ne (ne p u e)]; exact l.imm p u e i, fun p u e i => by rw [upd_ne (ne p u e)]; exact l.keep p u e i, fun p u e i => by rw [upd_ne (ne p u e)]; exact l.rest p u e i, l.newr, l.newf, fun p e => upd_dom (l.dom p e)⟩
theorem Ok.aside {k : Kx} {W : Wd} {H : Hp} {st : Sto} {D : Addr} {acc : List V} {o : HO} (h : Ok k W H st) (hf : ¬ W.fz D) (hr : D ∉ W.rho) (hD : H D = some (.lst acc)) : Ok k W (upd H D o) st :=
  ⟨h.nd, h.len, fun p f => upd_dom (h.fzs p f), h.apart, fun i u p e1 e2 => by
    have ne : p ≠ D := fun z => hr (z ▸ List.mem_of_getElem? e2)
    have r := h.obj i u p e1 e2
    cases u with
    | lst xs =>
      obtain ⟨vs, z, r⟩ := r
      exact ⟨vs, by rw [upd_ne ne]; exact z, r.aside hf hD⟩
    | ins c ks xs =>
      obtain ⟨dx, vs, z, n, r⟩ := r
      exact ⟨dx, vs, by rw [upd_ne ne]; exact z, n, r.aside hf hD⟩
    | dk ks xs =>
      obtain ⟨vs, z, n, r⟩ := r
      exact ⟨vs, by rw [upd_ne ne]; exact z, n, r.aside hf hD⟩
    | dn ks xs =>
      obtain ⟨ns, as, us, z, n, r, r2⟩ := r
      exact ⟨ns, as, us, by rw [upd_ne ne]; exact z, n, r.aside hf hD, r2.aside hf hD⟩
    | dz =>
      obtain ⟨od, u, z⟩ := r
      exact ⟨od, u, by rw [upd_ne ne]; exact z⟩
    | exo c ks xs =>
      obtain ⟨d, z, n, r⟩ := r
      refine ⟨d, by rw [upd_ne ne]; exact z, n, ?_⟩
      rcases r with r | ⟨dx, vs, r1, r2, r3⟩
      · exact .inl r
      · exact .inr ⟨dx, vs, r1, by rw [upd_ne (fun e => by rw [e, hD] at r2; cases r2)]; exact r2, r3.aside hf hD⟩
    | tb =>
      obtain ⟨o, ps, z0, z, t, r⟩ := r
      refine ⟨o, ps, z0, by rw [upd_ne ne]; exact z, t, fun pos v q => ?_⟩
      obtain ⟨d, e1, e2, e3⟩ := r pos v q
      have nd : d ≠ D := fun z => hf (z ▸ e2)
      exact ⟨d, e1, e2, by rw [upd_ne nd]; exact e3⟩⟩
theorem Le.frD {W W' : Wd} {H H' : Hp} {D : Addr} (l : Le W W' H H') (h : H D = none) : Le W (W'.fr D) H H' :=
  ⟨l.rho, fun p f => .inl (l.fz p f), l.imm, l.keep, l.rest, l.newr, fun p f => by
    rcases f with f | f
    · exact l.newf p f
    · exact .inr (f ▸ h), l.dom⟩
theorem wipe_get (σ : L2.St) : ∀ (vs : List Nat) (j : Nat), (wipe σ vs)[j]? = if j ∈ vs then (if j < σ.length then some none else none) else σ[j]?
  | [], j => by simp [wipe]
  | v :: vs, j => by
    show ((wipe σ vs).set v none)[j]? = _
    by_cases e : v = j
    · subst e
      by_cases hl : v < σ.length
      · rw [List.getElem?_set_self (by rw [wipe_length]; exact hl)]
        simp [hl]
      · rw [List.getElem?_eq_none (by rw [List.length_set, wipe_length]; omega)]
        simp [hl]
    · rw [List.getElem?_set_ne e, wipe_get σ vs j]
      by_cases hm : j ∈ vs
      · simp [hm]
      · have : ¬ j = v := fun z => e z.symm
        simp [hm, this]
theorem wipe_only {σ σ2 : L2.St} {us vs : List Nat} (o : OnlyAt us (wipe σ vs) σ2) (hs : ∀ u ∈ us, u ∈ vs) : wipe σ2 vs = wipe σ vs := by
  apply List.ext_getElem?
  intro j
  have hl : σ2.length = σ.length := by
    rw [o.1, wipe_length]
  rw [wipe_get, wipe_get, hl]
  by_cases hm : j ∈ vs
  · rw [if_pos hm, if_pos hm]
  · rw [if_neg hm, if_neg hm, o.2 j fun z => hm (hs j z), wipe_get, if_neg hm]
def E0 : WX := fun _ _ _ _ => False
def compLoop (t : Tg) (own : List Nat) (cond : M Bool) (elt : M Val) : List Val → Env → Sto → Res (List Val)
  | [], _, st => some (.ok [], st)
  | x :: xs, env, st => match bindT t x (wipeE env own) with
    | none => none
    | some env1 => match cond env1 st with
      | some (.ok true, st1) => match elt env1 st1 with
        | some (.ok y, st2) => match compLoop t own cond elt xs env st2 with
          | some (.ok ys, st3) => some (.ok (y :: ys), st3)
          | _ => none
        | _ => none
      | some (.ok false, st1) => compLoop t own cond elt xs env st1
      | _ => none
def compM (mi : M (List Val)) (t : Tg) (own : List Nat) (cond : M Bool) (elt : M Val) : M (List Val) := bnd mi fun xs env st => if xs.length ≤ LIM then compLoop t own cond elt xs env st else none
def yes : M Bool := ret true
def comp (mi : M (List Val)) (t : Tg) (own : List Nat) (cond : M Bool) (elt : M Val) : M Val := bnd (compM mi t own cond elt) fun ys => ret (.lst ys)
section
variable {X : Cx} {k : Kx} {E : WX}
theorem comp_core {mi : M (List Val)} {t : Tg} {own : List Nat} {cond : M Bool} {elt : M Val} {f : List Val → M Val} {σ : L2.St} {H : Hp} {Q : VK} (hs : ∀ u ∈ slots t, u ∈ own)
    (fin : ∀ (W W' : Wd) (H1 H' : Hp) (st : Sto) (D : Addr) (acc : List V) (ys : List Val), Le W W' H1 H' → H1 D = none → Ok k W' H' st → ¬ W'.fz D → D ∉ W'.rho → H' D = some (.lst acc) → RepL k W' H' ys acc → ∀ env o, f ys env st = some o → Fin k (RepV k) (fun c d H' => E c d σ H') W H1 Q o → Q (.ref D) H')
    (h : tM k E (bnd (compM mi t own cond elt) f) σ H Q) : tLc (tMi k E mi) (gT k.K t) (tMb k E0 cond) (tM k E0 elt) own σ H Q := by
  obtain ⟨W, env, st, o, h1, h2, h3, h4⟩ := h
  unfold Mi.bnd compM at h3
  unfold Mi.bnd at h3
  cases em : mi env st with
  | none =>
    rw [em] at h3
    cases h3
  | some p =>
    obtain ⟨r, st1⟩ := p
    rw [em] at h3
    cases r with
    | error x =>
      cases h3
      exact ⟨W, env, st, _, h1, h2, em, h4⟩
    | ok xs =>
      refine ⟨W, env, st, _, h1, h2, em, fun W1 H1 J l1 o1 walks D hD => ?_⟩
      dsimp only at h3
      by_cases hlim : xs.length ≤ LIM
      · rw [if_pos hlim] at h3
        cases ec : compLoop t own cond elt xs env st1 with
        | none =>
          rw [ec] at h3
          cases h3
        | some p =>
          obtain ⟨r, st2⟩ := p
          rw [ec] at h3
          cases r with
          | error x =>
            -- no turn raises
            exfalso
            clear h3 h4
            have all : ∀ (xs : List Val) st, compLoop t own cond elt xs env st ≠ some (.error x, st2) := by
              intro xs
              induction xs with
              | nil =>
                intro st e
                cases e
              | cons y ys ih =>
                intro st e
                dsimp only [compLoop] at e
                split at e
                · cases e
                · split at e
                  · split at e
                    · split at e
                      · cases e
                      · cases e
                    · cases e
                  · exact ih _ e
                  · cases e
            exact all xs st1 ec
          | ok ys =>
            dsimp only at h3
            refine ⟨fun i m Hc => i + m = xs.length ∧ ∃ W' st acc done rest, Le W1 W' H1 Hc ∧ Ok k W' Hc st ∧ ¬ W'.fz D ∧ D ∉ W'.rho ∧ Hc D = some (.lst acc) ∧ RepL k W' Hc done acc ∧ RepE k W' Hc env σ ∧ done.length ≤ i ∧ compLoop t own cond elt (xs.drop i) env st = some (.ok rest, st2) ∧ ys = done ++ rest,
              ⟨xs.length, by omega, W1, st1, [], [], ys, Le.new hD, o1.new hD, fun z => o1.fzs D z hD, fun z => o1.there z hD, upd_same, rfl, (h2.le l1).le (Le.new hD), Nat.le_refl _, ec, rfl⟩, ?_⟩
            rintro i m Hc ⟨hi, W', st, acc, done, rest, l, ok, nf, nr, hacc, ra, re, hlen, hl, hys⟩
            have l' : Le W1 W' H1 Hc := l
            obtain ⟨stop, go⟩ := walks W' Hc st l' ok
            by_cases hlt : i < xs.length
            · obtain ⟨g, y⟩ := go i xs[i] (List.getElem?_eq_getElem hlt)
              refine .inr ⟨g, fun Hn => ∃ W' st acc done rest, Le W1 W' H1 Hn ∧ Ok k W' Hn st ∧ ¬ W'.fz D ∧ D ∉ W'.rho ∧ Hn D = some (.lst acc) ∧ RepL k W' Hn done acc ∧ RepE k W' Hn env σ ∧ done.length ≤ i + 1 ∧ compLoop t own cond elt (xs.drop (i + 1)) env st = some (.ok rest, st2) ∧ ys = done ++ rest,
                fun Hn q => ⟨m - 1, by omega, by omega, q⟩, fun v H' hy => ?_⟩
              obtain ⟨W2, l2, ok2, rv⟩ := y v H' hy
              -- D stays aside
              have step : ∀ {Wa Wb : Wd} {Ha Hb : Hp}, Le Wa Wb Ha Hb → ¬ Wa.fz D → D ∉ Wa.rho → Ha D = some (.lst acc) → ¬ Wb.fz D ∧ D ∉ Wb.rho ∧ Hb D = some (.lst acc) := fun {Wa Wb Ha Hb} l a b c => by
                refine ⟨fun z => ?_, fun z => ?_, l.rest _ _ c b⟩
                · rcases l.newf D z with z | z
                  · exact a z
                  · rw [c] at z
                    cases z
                · rcases l.newr D z with z | z
                  · exact b z
                  · rw [c] at z
                    cases z
              obtain ⟨nf2, nr2, hacc2⟩ := step l2 nf nr hacc
              rw [List.drop_eq_getElem_cons hlt] at hl
              dsimp only [compLoop] at hl
              cases e : bindT t xs[i] (wipeE env own) with
              | none =>
                rw [e] at hl
                cases hl
              | some env1 =>
                rw [e] at hl
                dsimp only at hl
                refine gT_of rv ((re.le l2).wipe own) e fun σ2 re2 only => ⟨wipe_only only hs, ?_⟩
                cases et : cond env1 st with
                | none =>
                  rw [et] at hl
                  cases hl
                | some p =>
                  obtain ⟨b, st3⟩ := p
                  rw [et] at hl
                  cases b with
                  | error x => cases hl
                  | ok b =>
                    refine ⟨W2, env1, st, _, ok2, re2, et, fun W3 H3 b' l3 o3 r3 => ?_⟩
                    cases r3
                    obtain ⟨nf3, nr3, hacc3⟩ := step l3 nf2 nr2 hacc2
                    cases b with
                    | false =>
                      rw [if_neg Bool.false_ne_true]
                      exact ⟨W3, st3, acc, done, rest, (l'.trans l2).trans l3, o3, nf3, nr3, hacc3, (ra.le l2).le l3, (re.le l2).le l3, by omega, hl, hys⟩
                    | true =>
                      rw [if_pos rfl]
                      dsimp only at hl
                      cases ee : elt env1 st3 with
                      | none =>
                        rw [ee] at hl
                        cases hl
                      | some p =>
                        obtain ⟨r, st4⟩ := p
                        rw [ee] at hl
                        cases r with
                        | error x => cases hl
                        | ok z =>
                          dsimp only at hl
                          cases er : compLoop t own cond elt (xs.drop (i + 1)) env st4 with
                          | none =>
                            rw [er] at hl
                            cases hl
                          | some p =>
                            obtain ⟨r, st5⟩ := p
                            rw [er] at hl
                            cases r with
                            | error x => cases hl
                            | ok rest' =>
                              have hl' : (some ((.ok (z :: rest') : Except Exc (List Val)), st5)) = some (.ok rest, st2) := hl
                              cases hl'
                              refine ⟨W3, env1, st3, _, o3, re2.le l3, ee, fun W4 H4 v4 l4 o4 r4 => ?_⟩
                              obtain ⟨nf4, nr4, hacc4⟩ := step l4 nf3 nr3 hacc3
                              have ra4 := ((ra.le l2).le l3).le l4
                              refine ⟨acc, hacc4, ?_, W4, st4, acc ++ [v4], done ++ [z], rest', Le.aside (((l'.trans l2).trans l3).trans l4) hD, o4.aside nf4 nr4 hacc4, nf4, nr4, upd_same, (ra4.append (RepL.cons r4 (show RepL k W4 H4 [] [] from rfl))).aside nf4 hacc4, (((re.le l2).le l3).le l4).aside nf4 hacc4, ?_, er, ?_⟩
                              · rw [ra4.len]
                                exact lim_lt (Nat.lt_of_lt_of_le (Nat.lt_of_le_of_lt hlen hlt) hlim)
                              · rw [List.length_append]
                                show done.length + 1 ≤ i + 1
                                omega
                              · rw [hys, List.append_assoc]
                                rfl
            · have e : i = xs.length := by omega
              subst e
              rw [List.drop_length] at hl
              have hl' : (some ((.ok [] : Except Exc (List Val)), st)) = some (.ok rest, st2) := hl
              cases hl'
              rw [List.append_nil] at hys
              subst hys
              refine .inl ⟨stop, fin W1 W' H1 Hc _ D acc _ l' hD ok nf nr hacc ra env o h3 (h4.le l1)⟩
      · rw [if_neg hlim] at h3
        cases h3
theorem comp_read {mi : M (List Val)} {t : Tg} {own : List Nat} {cond : M Bool} {elt : M Val} {σ : L2.St} {H : Hp} {Q : VK} (hs : ∀ u ∈ slots t, u ∈ own) (h : tM k E (comp mi t own cond elt) σ H Q) : tLc (tMi k E mi) (gT k.K t) (tMb k E0 cond) (tM k E0 elt) own σ H Q :=
  comp_core hs (fun W W' H1 H' st D acc ys l hD ok nf nr hacc ra env o e fn => by
    cases e
    refine fn (W'.fr D) H' _ (l.frD hD) (ok.fr (by rw [hacc]; exact fun z => nomatch z) nr) ⟨D, acc, rfl, .inr rfl, hacc, ra.more (W := W') (W' := W'.fr D) (fun _ _ h => h) fun _ h => Or.inl h⟩) h
theorem mts_nil {X : Cx} : PTs X [] (tMb k E yes) := ⟨fun pins s σ H Q I h => pts_nil.run pins s σ H Q I (by
  obtain ⟨W, h⟩ := h
  exact h.ret rfl)⟩
theorem me_comp {elt tg iter : Expr} {ifs : List Expr} {scope : Scope} {own : List (Str × Nat)} {pos : Pos} {mi : M (List Val)} {t : Tg} {cond : M Bool} {m : M Val} (hs : ∀ u ∈ slots t, u ∈ own.map (·.2))
    (h : PE X (.ListComp elt [⟨tg, iter, ifs, 0⟩] scope pos) (tLc (tMi k E mi) (gT X.K t) (tMb k E0 cond) (tM k E0 m) (own.map (·.2)))) (hk : X.K = k.K := by rfl) : PE X (.ListComp elt [⟨tg, iter, ifs, 0⟩] scope pos) (tM k E (comp mi t (own.map (·.2)) cond m)) :=
  imp h fun σ H Q q => by
    rw [hk]
    exact comp_read hs q
/-- y = [..] -/
theorem ms_comp {i : Nat} {elt tg iter : Expr} {ifs : List Expr} {scope : Scope} {own : List (Str × Nat)} {st : Stmt} {mi : M (List Val)} {t : Tg} {cond : M Bool} {m : M Val} (hs : ∀ u ∈ slots t, u ∈ own.map (·.2))
    (h : PS X st (tAsg (tLc (tMi k E mi) (gT X.K t) (tMb k E0 cond) (tM k E0 m) (own.map (·.2))) (gName i))) (hk : X.K = k.K := by rfl) : PS X st (tS k E (sSet i (comp mi t (own.map (·.2)) cond m))) :=
  impS h fun D σ H q => by
    rw [hk]
    exact comp_read hs (set_read q)
end
end Mi
namespace Mi
open PySem PySem.Spec PyProof.Rows L2
/-! ### defs and their calls -/
abbrev CF := List Val → Sto → Res Val
def spM (k : Kx) (n : Nat) (c : CF) : Sp := fun vs H Q E => ∃ W us st o, us.length = n ∧ Ok k W H st ∧ RepL k W H us vs ∧ c us st = some o ∧ Fin k (RepV k) E W H Q o
def env0 (N : Nat) (us : List Val) : Env := us.map some ++ List.replicate (N - us.length) none
def callS (N : Nat) (s : S) : CF := fun us st => match s (env0 N us) st with
  | some (.ret v, _, st') => some (.ok v, st')
  | some (.next, _, st') => some (.ok .non, st')
  | some (.err x, _, st') => some (.error x, st')
  | _ => none
def callM (n : Nat) (c : CF) (ds : List Val) (ms : M (List Val)) : M Val := bnd ms fun us _ st => if (us ++ ds).length = n then c (us ++ ds) st else none
section
variable {k : Kx}
theorem RepE.of_list {W : Wd} {H : Hp} : ∀ {us : List Val} {vs : List V}, RepL k W H us vs → RepE k W H (us.map some) (vs.map some)
  | [], vs, r => by
    have e : vs = [] := r
    rw [e]
    rfl
  | x :: xs, vs, r => by
    obtain ⟨v, u, rfl, r1, r2⟩ := r
    exact ⟨some v, _, rfl, fun y hy => ⟨v, rfl, by cases hy; exact r1⟩, RepE.of_list r2⟩
theorem RepE.nones {W : Wd} {H : Hp} : ∀ n : Nat, RepE k W H (List.replicate n none) (List.replicate n none)
  | 0 => rfl
  | n + 1 => ⟨none, _, rfl, fun y hy => (by cases hy), RepE.nones n⟩
theorem RepE.append {W : Wd} {H : Hp} : ∀ {e1 e2 : Env} {s1 s2 : L2.St}, RepE k W H e1 s1 → RepE k W H e2 s2 → RepE k W H (e1 ++ e2) (s1 ++ s2)
  | [], _, _, _, h, g => by
    have e : _ = _ := h
    rw [e]
    exact g
  | x :: xs, _, _, _, h, g => by
    obtain ⟨o, r, rfl, h1, h2⟩ := h
    exact ⟨o, _, rfl, h1, RepE.append h2 g⟩
theorem RepE.begin {W : Wd} {H : Hp} {us : List Val} {vs : List V} {N : List Str} (r : RepL k W H us vs) : RepE k W H (env0 N.length us) (L2.start N vs) := by
  unfold env0 L2.start
  rw [r.len]
  exact RepE.append (RepE.of_list r) (RepE.nones _)
/-- a def keeps its mirror -/
theorem ok_def {P : Program} {w : World} {mg : Str → Option Value} {base : Heap} {x qual : Str} {st : Stmt} {f : Addr} {fd : FuncData} {N ps : List Str} {j n nN : Nat} {s : S} {c : CF} (F : Fun k.K x qual st f fd) (S : FnScope N ps (defScope st)) (hc : c = callS nN s) (hN : N.length = nN) (hn : ps.length = n)
    (body : ∀ (cdv : Value) (A : Around) (outer : List PySem.Env) (s0 : Shared) (H : Hp) (E : XK), Room j (A.deeper (envOfC qual (defScope st) s0.heap.objs.size f cdv)) →
      PSs (cxOf (L2.CX P w) P w k.K mg base N qual (defScope st) f cdv A outer s0 H E) (defBody st) (tS k (fun c d _ H' => E c d H') s)) :
    FnOk P w k.K mg base (L2.CX P w) (j + 1) f fd ps (spM k n c) := by
  subst hc hN
  refine F.okX S (fun vs H Q E h => ?_) (fun cdv A outer s0 H vs Q E hr h => ⟨_, body cdv A outer s0 H E hr, ?_⟩)
  · obtain ⟨W, us, st, o, h0, h1, h2, h3, h4⟩ := h
    rw [h2.len, h0, hn]
  · obtain ⟨W, us, st, o, h0, h1, h2, h3, h4⟩ := h
    unfold callS at h3
    cases e : s (env0 N.length us) st with
    | none =>
      rw [e] at h3
      cases h3
    | some p =>
      obtain ⟨r, env, st'⟩ := p
      rw [e] at h3
      refine ⟨W, _, st, _, h1, RepE.begin h2, e, ?_⟩
      cases r with
      | next =>
        cases h3
        exact fun W' H' σ l o r => h4 W' H' .non l o rfl
      | brk => cases h3
      | cont => cases h3
      | ret v =>
        cases h3
        exact fun W' H' u l o r => h4 W' H' u l o r
      | err x =>
        cases h3
        exact fun W' H' σ c d l o _ r => h4 W' H' c d l o r
end
section
variable {X : Cx} {k : Kx} {E : WX} {pos p : Pos} {e : Expr} {es : List Expr} {ms : M (List Val)}
theorem call_read {n : Nat} {c : CF} {ds : List Val} {dvs : List V} (hd : ∀ W H, RepL k W H ds dvs) {σ : L2.St} {H : Hp} {Q : VK} (h : tM k E (callM n c ds ms) σ H Q) : tCallSD (spM k n c) dvs (WE E) (tMa k E ms) σ H Q :=
  tG.mono (tG.bnd (R1 := RepL k) h) fun vs H1 ⟨W, us, ru, env, st, o, h1, h2, h3, h4⟩ => by
    dsimp only at h3
    split at h3
    · rename_i hl
      exact ⟨W, us ++ ds, st, o, hl, h1, ru.append (hd W H1), h3, h4⟩
    · cases h3
theorem me_call {x : Str} {j n : Nat} {f : Addr} {fd : FuncData} {ps : List Str} {c : CF} {ds : List Val} {dvs : List V} {dus : List Value} (F : FnOk X.prog X.w X.K X.mg X.base (L2.CX X.prog X.w) j f fd ps (spM k n c)) (hr : Room j X.A) (hg : Gl X x) (hm : X.mg x = some (.ref f)) (hk : PySem.W.keepIn X.K (.ref f) = true)
    (hb : Binds X.K fd ps dus) (hv : Vals dvs dus) (hd : ∀ W H, RepL k W H ds dvs) (tk : Takes X E) (ha : PA X (e :: es) (tMa k E ms)) (hdb : (x == ("__debug__" : Str)) = false := by decide)
    (he : starEach (e :: es) X.env = (false, eval e X.env) :: starEach es X.env := by rfl) (hpl : (backTo pos (starEach es X.env)).any (·.1) = false := by rfl) : PE X (.Call (.Name x p) (e :: es) [] pos) (tM k E (callM n c ds ms)) :=
  imp (pe_callSD F hr hg hm hk hb hv (fun σ => passAt tk σ) ha hdb he hpl) fun σ H Q h => call_read hd h
/-! ### isinstance -/
def tyName (st : Sto) : Val → Option String
  | .non => some "NoneType"
  | .bl _ => some "bool"
  | .int _ => some "int"
  | .str _ => some "str"
  | .tup _ => some "tuple"
  | .lst _ => some "list"
  | .rol _ => some "list"
  | .ref i => match st[i]? with
    | some (.lst _) => some "list"
    | _ => none
  | .ins _ _ _ => none
  | .exv _ _ _ => none
  | .lam _ _ _ _ _ _ => none
  | .cls _ => none
  | .tpd _ => none
/-- tb: the answer for a built-in type, own: for an instance of an own class -/
def isiV (tb : String → Option Bool) (own : Str → Option Bool) (st : Sto) (a : Val) : Option Val := match a with
  | .ins c _ _ => (own c).map .bl
  | .ref i => match st[i]? with
    | some (.ins c _ _) => (own c).map .bl
    | some (.lst _) => (tb "list").map .bl
    | _ => none
  | a => match tyName st a with
    | some n => (tb n).map .bl
    | none => none
/-- what isinstance asks of an own class -/
structure ClsT (K : PySem.W.Frag) (C : Addr) : Prop where
  cl : Cls K C
  ha : PySem.W.findIn K (.ref C) "__class__" = some (some (.builtin "object.__class__"))
  hn : PySem.W.specialIn K (.builtin "object.__class__") "__get__" = some (some (.builtin "getset_descriptor.__get__"))
  htk : PySem.W.takesIn K (.builtin "object.__class__") = some true
  hm : PySem.W.mroIn K C (.type "object") = some true
theorem SqT.ty {K : PySem.W.Frag} {H : Hp} {p : Addr} {vs : List V} (h : SqT K H p vs) : TyX K H (.ref p) (.type "tuple") := by
  rcases h with (h | ⟨o, h⟩) | h
  · exact .base (.tup h)
  · exact .fTuple h
  · obtain ⟨o, its, n, e, c, _⟩ := h
    exact .kTuple e c
theorem RoL.ty {H : Hp} {p : Addr} {vs : List V} (h : RoL k H p vs) : TyX k.K H (.ref p) (.type "list") := by
  rcases h with ⟨o, h⟩ | (h | ⟨o, h⟩) | h
  · exact .base (.frz h)
  · cases h
  · cases h
  · obtain ⟨o, its, n, e, c, _⟩ := h
    exact .kList e c
theorem isi_rep {tb : String → Option Bool} {own : Str → Option Bool} {u : Value → Option Bool} (h1 : ∀ n b, tb n = some b → u (.type n) = some b) (h2 : ∀ c b, own c = some b → ClsT k.K (k.cl c) ∧ u (.ref (k.cl c)) = some b)
    {W : Wd} {H : Hp} {st : Sto} {a c : Val} {x : V} (o : Ok k W H st) (r : RepV k W H a x) (e : isiV tb own st a = some c) : ∃ t b, TyX k.K H x t ∧ u t = some b ∧ c = .bl b := by
  have ty : ∀ n (t : TyX k.K H x (.type n)), (tb n).map Val.bl = some c → ∃ t b, TyX k.K H x t ∧ u t = some b ∧ c = .bl b := fun n t e => by
    cases q : tb n with
    | none =>
      rw [q] at e
      cases e
    | some b =>
      rw [q] at e
      cases e
      exact ⟨_, b, t, h1 _ _ q, rfl⟩
  have ow : ∀ n p dx fs, x = .ref p → H p = some (.ins (k.cl n) dx fs) → (own n).map Val.bl = some c → ∃ t b, TyX k.K H x t ∧ u t = some b ∧ c = .bl b := fun n p dx fs ex hp e => by
    cases q : own n with
    | none =>
      rw [q] at e
      cases e
    | some b =>
      rw [q] at e
      cases e
      obtain ⟨T, hu⟩ := h2 _ _ q
      subst ex
      exact ⟨_, b, .base (.ins hp T.cl T.ha T.hn T.htk T.hm), hu, rfl⟩
  cases a with
  | non =>
    have r' : x = .non := r
    subst r'
    exact ty _ (.base .non) e
  | bl b =>
    have r' : x = .bl b := r
    subst r'
    exact ty _ (.base (.bl b)) e
  | int b =>
    have r' : x = .int b := r
    subst r'
    exact ty _ (.base (.int b)) e
  | str b =>
    have r' : x = .str b := r
    subst r'
    exact ty _ (.base (.str b)) e
  | tup xs =>
    obtain ⟨p, vs, rfl, s, _⟩ := r
    exact ty _ (SqT.ty s) e
  | lst xs =>
    obtain ⟨p, vs, rfl, f, s, _⟩ := r
    exact ty _ (.base (.lst s)) e
  | rol xs =>
    obtain ⟨p, vs, rfl, s, _⟩ := r
    exact ty _ (RoL.ty s) e
  | ins n ks xs =>
    obtain ⟨p, dx, vs, ex, f, s, _⟩ := r
    exact ow n p dx _ ex s e
  | ref i =>
    obtain ⟨p, ex, s⟩ := r
    dsimp only [isiV] at e
    cases q : st[i]? with
    | none =>
      rw [q] at e
      cases e
    | some ob =>
      rw [q] at e
      have rr := o.obj i ob p q s
      cases ob with
      | lst xs =>
        obtain ⟨vs, z, _⟩ := rr
        subst ex
        exact ty _ (.base (.lst z)) e
      | ins n ks xs =>
        obtain ⟨dx, vs, z, _⟩ := rr
        exact ow n p dx _ ex z e
      | _ => cases e
  | exv n ks xs => cases e
  | lam f c o τ js xs => cases e
  | cls n => cases e
  | tpd xs => cases e
theorem me_isi {a c : Expr} {m : M Val} {cv : V} {u : Value} {tb : String → Option Bool} {own : Str → Option Bool} (hc : ClsV cv u) (h1 : ∀ n b, tb n = some b → PySem.W.kitOne k.K (.type n) u = some b) (h2 : ∀ c b, own c = some b → ClsT k.K (k.cl c) ∧ PySem.W.kitOne k.K (.ref (k.cl c)) u = some b)
    (hg : Gl X "isinstance") (hm : X.mg "isinstance" = none) (ha : PE X a (tM k E m)) (hcl : PE X c (tC cv)) (hs1 : starEach [a, c] X.env = (false, eval a X.env) :: starEach [c] X.env := by rfl) (hs2 : starEach [c] X.env = (false, eval c X.env) :: starEach [] X.env := by rfl) (hk : X.K = k.K := by rfl)
    (hpl : (backTo pos (starEach [c] X.env)).any (·.1) = false := by rfl) : PE X (.Call (.Name "isinstance" p) [a, c] [] pos) (tM k E (un (isiV tb own) m)) := by
  refine imp (pe_callB call_isi hg hm boot_isinstance (pa_cons ha (pa_cons hcl pa_nil hs2) hs1) (by decide) (by decide) hs1 hpl) fun σ H Q h => ?_
  rw [hk]
  refine tG.mono (tG.bnd (R1 := RepV k) h) fun x H1 ⟨W, b, rb, h3⟩ => ?_
  obtain ⟨c, st, e, o, q⟩ := h3.lift
  obtain ⟨t, b, ty, hu, hc'⟩ := isi_rep (u := fun t => PySem.W.kitOne k.K t u) h1 h2 o rb e
  subst hc'
  exact ⟨x, cv, t, u, b, rfl, hc, ty, hu, q W H1 _ (Le.refl _ _) o rfl⟩
/-- isinstance(x, (c1, c2)) -/
theorem me_isi2 {a c1 c2 : Expr} {m : M Val} {cv1 cv2 : V} {u1 u2 : Value} {x1 : Nat} {tp : Pos} {tb : String → Option Bool} {own : Str → Option Bool} (hc1 : ClsV cv1 u1) (hc2 : ClsV cv2 u2) (h1 : ∀ n b, tb n = some b → PySem.W.kitAny k.K (.type n) [u1, u2] = some b) (h2 : ∀ c b, own c = some b → ClsT k.K (k.cl c) ∧ PySem.W.kitAny k.K (.ref (k.cl c)) [u1, u2] = some b)
    (hg : Gl X "isinstance") (hm : X.mg "isinstance" = none) (ha : PE X a (tM k E m)) (hcl1 : PE X c1 (tC cv1)) (hcl2 : PE X c2 (tC cv2)) (hs1 : starEach [a, .Tuple [c1, c2] x1 tp] X.env = (false, eval a X.env) :: starEach [.Tuple [c1, c2] x1 tp] X.env := by rfl) (hs2 : starEach [.Tuple [c1, c2] x1 tp] X.env = (false, eval (.Tuple [c1, c2] x1 tp) X.env) :: starEach [] X.env := by rfl)
    (hs3 : starEach [c1, c2] X.env = (false, eval c1 X.env) :: starEach [c2] X.env := by rfl) (hs4 : starEach [c2] X.env = (false, eval c2 X.env) :: starEach [] X.env := by rfl) (hk : X.K = k.K := by rfl)
    (hpl : (backTo pos (starEach [.Tuple [c1, c2] x1 tp] X.env)).any (·.1) = false := by rfl) : PE X (.Call (.Name "isinstance" p) [a, .Tuple [c1, c2] x1 tp] [] pos) (tM k E (un (isiV tb own) m)) := by
  refine imp (pe_callB call_isiT hg hm boot_isinstance (pa_cons ha (pa_cons (pe_tup (pa_cons hcl1 (pa_cons hcl2 pa_nil hs4) hs3)) pa_nil hs2) hs1) (by decide) (by decide) hs1 hpl) fun σ H Q h => ?_
  rw [hk]
  refine tG.mono (tG.bnd (R1 := RepV k) h) fun x H1 ⟨W, b, rb, h3⟩ => ?_
  obtain ⟨c, st, e, o, q⟩ := h3.lift
  refine ⟨by show 2 ≤ sizeLine; decide, fun tp htp => ?_⟩
  have l : Le W W H1 (upd H1 tp (.tup [cv1, cv2])) := Le.new htp
  have o' := o.new (o := .tup [cv1, cv2]) htp
  obtain ⟨t, b, ty, hu, hc'⟩ := isi_rep (u := fun t => PySem.W.kitAny k.K t [u1, u2]) h1 h2 o' (rb.le l) e
  subst hc'
  exact ⟨x, tp, [cv1, cv2], t, [u1, u2], b, rfl, upd_same, .cons hc1 (.cons hc2 .nil), ty, hu, q W _ _ l o' rfl⟩
/-! ### methods of texts -/
def m1 (f : Sto → Val → Val → Option Val) (mo ma : M Val) : M Val := bnd mo fun a => bnd (lift fun _ => strOf a) fun _ => bnd ma fun b => lift fun st => f st a b
theorem m1_read {f : Sto → Val → Val → Option Val} {r : V → List V → Hp → VK → Prop} (hf : ∀ W H st a b x y c Q, Ok k W H st → RepV k W H a x → RepV k W H b y → f st a b = some c → (∀ W' H' v, Le W W' H H' → Ok k W' H' st → RepV k W' H' c v → Q v H') → r x [y] H Q)
    {mo ma : M Val} {σ : L2.St} {H : Hp} {Q : VK} (h : tM k E (m1 f mo ma) σ H Q) : tM1 r (tM k E mo) (tM k E ma) σ H Q :=
  tG.mono (tG.bnd (R1 := RepV k) h) fun x H1 ⟨W, a, ra, env, st, o, h1, h2, h3, h4⟩ => by
    cases a with
    | str z =>
      refine ⟨⟨z, ra⟩, ?_⟩
      have h5 : At k (RepV k) E (bnd ma fun b => lift fun st => f st (.str z) b) W σ H1 Q := ⟨env, st, o, h1, h2, h3, h4⟩
      refine tG.mono (At.bnd (R1 := RepV k) (fun W H => RepV k W H (.str z) x) (fun l r => r.le l) ra h5) fun y H2 ⟨W2, b, ra2, rb, h6⟩ => ?_
      obtain ⟨c, st, e, o, q⟩ := h6.lift
      exact hf W2 H2 st _ b x y c Q o ra2 rb e q
    | _ => cases h3
def splitV (_ : Sto) : Val → Val → Option Val
  | .str a, .str b => if b.length ≠ 0 ∧ a.length + 2 ≤ LIM then some (.lst ((Txt.split a b).map .str)) else none
  | _, _ => none
def joinV (st : Sto) : Val → Val → Option Val
  | .str a, b => match seqOf st b with
    | some xs => match allOf strOf xs with
      | some ys => if (ys.map (·.length)).sum + ys.length * a.length ≤ LIM then some (.str (Txt.join a ys)) else none
      | none => none
    | none => none
  | _, _ => none
theorem me_split {o : Expr} {mo ma : M Val} {apos : Pos} (ho : PE X o (tM k E mo)) (he : PE X e (tM k E ma)) (hs : starEach [e] X.env = [(false, eval e X.env)] := by rfl) (hbase : attributeBase o "split" X.env (eval o X.env) = eval o X.env := by rfl) (hline : (apos.endLine == pos.line) = true := by rfl) :
    PE X (.Call (.Attribute o "split" apos) [e] [] pos) (tM k E (m1 splitV mo ma)) := by
  refine imp (pe_split ho he hs hbase hline) fun σ H Q h => m1_read (fun W H st a b x y c Q o ra rb e q => ?_) h
  cases a <;> cases b <;> first | cases e | skip
  rename_i a b
  dsimp only [splitV] at e
  split at e
  · rename_i hl
    cases e
    refine ⟨a, b, ra, by rw [show y = .str b from rb], ?_, lim_le hl.2, fun p hp => newLst o hp (RepL.map (f := Val.str) (g := V.str) (fun _ => rfl) _) q⟩
    have := hl.1
    simpa using this
  · cases e
theorem me_join {o : Expr} {mo ma : M Val} {apos : Pos} (ho : PE X o (tM k E mo)) (he : PE X e (tM k E ma)) (hs : starEach [e] X.env = [(false, eval e X.env)] := by rfl) (hbase : attributeBase o "join" X.env (eval o X.env) = eval o X.env := by rfl) (hline : (apos.endLine == pos.line) = true := by rfl) (hk : X.K = k.K := by rfl) :
    PE X (.Call (.Attribute o "join" apos) [e] [] pos) (tM k E (m1 joinV mo ma)) := by
  refine imp (pe_join ho he hs hbase hline) fun σ H Q h => ?_
  rw [hk]
  refine m1_read (fun W H st a b x y c Q o ra rb e q => ?_) h
  cases a with
  | str a =>
    dsimp only [joinV] at e
    split at e
    · rename_i xs hxs
      split at e
      · rename_i ys hys
        split at e
        · rename_i hl
          cases e
          obtain ⟨p, vs, e1, s, r⟩ := seqOf_rep o rb hxs
          have e2 := strs_rep r (allOf_map strOf_eq hys)
          rw [e2] at s
          exact ⟨a, p, ys, ra, by rw [e1], s, Nat.le_trans hl (by decide), q W H _ (Le.refl _ _) o rfl⟩
        · cases e
      · cases e
    · cases e
  | _ => cases e
/-! ### methods of lists of the store -/
def isLst (st : Sto) (a : Val) : Option Unit := match lstOf st a with
  | some _ => some ()
  | none => none
def lm (f : Sto → Val → List Val → Option (Val × Sto)) (mo : M Val) (ms : M (List Val)) : M Val := bnd mo fun a => bnd (lift fun st => isLst st a) fun _ => bnd ms fun as => liftS fun st => f st a as
theorem lm_read {f : Sto → Val → List Val → Option (Val × Sto)} {r : V → List V → Hp → VK → Prop} (hf : ∀ W H st a as x xs c st' Q, Ok k W H st → RepV k W H a x → RepL k W H as xs → f st a as = some (c, st') → (∀ W' H' v, Le W W' H H' → Ok k W' H' st' → RepV k W' H' c v → Q v H') → r x xs H Q)
    {mo : M Val} {ms : M (List Val)} {σ : L2.St} {H : Hp} {Q : VK} (h : tM k E (lm f mo ms) σ H Q) : tM k E mo σ H fun x H1 => tyV k.K "list" x H1 ∧ tMa k E ms σ H1 fun xs H2 => r x xs H2 Q :=
  tG.mono (tG.bnd (R1 := RepV k) h) fun x H1 ⟨W, a, ra, env, st, o, h1, h2, h3, h4⟩ => by
    unfold bnd lift at h3
    dsimp only at h3
    cases hx : isLst st a with
    | none =>
      rw [hx] at h3
      cases h3
    | some z =>
      rw [hx] at h3
      unfold isLst at hx
      cases hy : lstOf st a with
      | none =>
        rw [hy] at hx
        cases hx
      | some ys =>
        obtain ⟨p, vs, e1, s, r1⟩ := lstOf_rep h1 ra hy
        refine ⟨by rw [e1]; exact .inl ⟨rfl, vs, s⟩, ?_⟩
        have h5 : At k (RepV k) E (bnd ms fun as => liftS fun st => f st a as) W σ H1 Q := ⟨env, st, o, h1, h2, h3, h4⟩
        refine tG.mono (At.bnd (R1 := RepL k) (fun W H => RepV k W H a x) (fun l r => r.le l) ra h5) fun xs H2 ⟨W2, as, ra2, rs, h6⟩ => ?_
        obtain ⟨c, st, st', e, o, q⟩ := h6.liftS
        exact hf W2 H2 st a as x xs c st' Q o ra2 rs e q
def appendV (st : Sto) : Val → List Val → Option (Val × Sto)
  | .ref i, [a] => match st[i]? with
    | some (.lst xs) => if xs.length < LIM then some (.non, st.set i (.lst (xs ++ [a]))) else none
    | _ => none
  | _, _ => none
def popV (st : Sto) : Val → List Val → Option (Val × Sto)
  | .ref i, [] => match st[i]? with
    | some (.lst xs) => match xs[xs.length - 1]? with
      | some y => some (y, st.set i (.lst xs.dropLast))
      | none => none
    | _ => none
  | _, _ => none
def popAtV (st : Sto) : Val → List Val → Option (Val × Sto)
  | .ref i, [.int j] => match st[i]? with
    | some (.lst xs) => if 0 ≤ j ∧ j < xs.length ∧ j < 16000000 then match xs[j.toNat]? with
      | some y => some (y, st.set i (.lst (xs.eraseIdx j.toNat)))
      | none => none
      else none
    | _ => none
  | _, _ => none
theorem Ok.putLe {W : Wd} {H : Hp} {st : Sto} {i : Nat} {p : Addr} {o o' : HO} (h : Ok k W H st) (hi : W.rho[i]? = some p) (ho : H p = some o) (hm : ¬ Imm o) : Le W W H (upd H p o') := by
  have hp : p ∈ W.rho := List.mem_of_getElem? hi
  exact ⟨⟨[], by simp⟩, fun _ h => h, fun q v e m => by
    have ne : q ≠ p := fun z => by
      rw [z, ho] at e
      cases e
      exact hm m
    rw [upd_ne ne]
    exact e, fun q v e f => by
    have ne : q ≠ p := fun z => h.apart p hp (z ▸ f)
    rw [upd_ne ne]
    exact e, fun q v e f => by
    have ne : q ≠ p := fun z => f (z ▸ hp)
    rw [upd_ne ne]
    exact e, fun _ h => .inl h, fun _ h => .inl h, fun _ h => upd_dom h⟩
theorem Ok.putL {W : Wd} {H : Hp} {st : Sto} {i : Nat} {p : Addr} {xs ys : List Val} {vs us : List V} (h : Ok k W H st) (hi : W.rho[i]? = some p) (ho : H p = some (.lst vs)) (r : RepL k W H ys us) : Le W W H (upd H p (.lst us)) ∧ Ok k W (upd H p (.lst us)) (st.set i (.lst ys)) := by
  have l : Le W W H (upd H p (.lst us)) := h.putLe hi ho (fun z => z)
  exact h.put hi ho (fun z => z) ⟨us, upd_same, r.le l⟩
theorem append_hf : ∀ W H st a as x xs c st' (Q : VK), Ok k W H st → RepV k W H a x → RepL k W H as xs → appendV st a as = some (c, st') → (∀ W' H' v, Le W W' H H' → Ok k W' H' st' → RepV k W' H' c v → Q v H') → rAppend x xs H Q := by
  intro W H st a as x xs c st' Q o ra rs e q
  unfold appendV at e
  split at e
  · rename_i i b
    split at e
    · rename_i ys hys
      split at e
      · rename_i hl
        cases e
        obtain ⟨p, e1, hp⟩ := ra
        obtain ⟨vs, hv, rv⟩ := o.obj i _ p hys hp
        obtain ⟨v, rfl, rb⟩ := rep1 rs
        obtain ⟨l, o'⟩ := o.putL (xs := ys) hp hv (rv.append (RepL.cons rb (show RepL k W H [] [] from rfl)))
        exact ⟨p, vs, v, e1, rfl, hv, by rw [rv.len]; exact lim_lt hl, q W _ _ l o' rfl⟩
      · cases e
    · cases e
  · cases e
theorem RepL.dropLast {W : Wd} {H : Hp} {xs : List Val} {vs : List V} (r : RepL k W H xs vs) : RepL k W H xs.dropLast vs.dropLast := by
  rw [List.dropLast_eq_take, List.dropLast_eq_take, r.len]
  exact r.take _
theorem pop_hf : ∀ W H st a as x xs c st' (Q : VK), Ok k W H st → RepV k W H a x → RepL k W H as xs → popV st a as = some (c, st') → (∀ W' H' v, Le W W' H H' → Ok k W' H' st' → RepV k W' H' c v → Q v H') → rPop x xs H Q := by
  intro W H st a as x xs c st' Q o ra rs e q
  unfold popV at e
  split at e
  · rename_i i
    split at e
    · rename_i ys hys
      split at e
      · rename_i y hy
        cases e
        obtain ⟨p, e1, hp⟩ := ra
        obtain ⟨vs, hv, rv⟩ := o.obj i _ p hys hp
        have exs : xs = [] := rs
        subst exs
        obtain ⟨v, hv2, ry⟩ := rv.get hy
        obtain ⟨l, o'⟩ := o.putL (xs := ys) hp hv rv.dropLast
        exact ⟨p, vs, v, e1, rfl, hv, by rw [rv.len]; exact hv2, q W _ _ l o' (ry.le l)⟩
      · cases e
    · cases e
  · cases e
theorem popAt_hf : ∀ W H st a as x xs c st' (Q : VK), Ok k W H st → RepV k W H a x → RepL k W H as xs → popAtV st a as = some (c, st') → (∀ W' H' v, Le W W' H H' → Ok k W' H' st' → RepV k W' H' c v → Q v H') → rPopAt x xs H Q := by
  intro W H st a as x xs c st' Q o ra rs e q
  unfold popAtV at e
  split at e
  · rename_i i j
    split at e
    · rename_i ys hys
      split at e
      · rename_i hl
        split at e
        · rename_i y hy
          cases e
          obtain ⟨p, e1, hp⟩ := ra
          obtain ⟨vs, hv, rv⟩ := o.obj i _ p hys hp
          obtain ⟨w, rfl, rb⟩ := rep1 rs
          obtain ⟨v, hv2, ry⟩ := rv.get hy
          obtain ⟨l, o'⟩ := o.putL (xs := ys) hp hv (rv.eraseIdx j.toNat)
          refine ⟨p, vs, j, j.toNat, v, e1, by rw [show w = .int j from rb], hv, by omega, by omega, ?_, hv2, q W _ _ l o' (ry.le l)⟩
          rw [rv.len]
          exact (ixN_seq (show ixN ys.length j = some j.toNat from by unfold ixN; rw [if_pos hl.1, if_pos hl.2.1])).1
        · cases e
      · cases e
    · cases e
  · cases e
theorem me_append {o : Expr} {mo ma : M Val} {apos : Pos} (ho : PE X o (tM k E mo)) (ha : PA X [e] (tMa k E ms)) (h : PE X (.Call (.Attribute o "append" apos) [e] [] pos) (tBM X.K "list" rAppend (tM k E mo) (tMa k E ms))) (hk : X.K = k.K := by rfl) :
    PE X (.Call (.Attribute o "append" apos) [e] [] pos) (tM k E (lm appendV mo ms)) := imp h fun σ H Q q => by
  rw [hk]
  exact lm_read append_hf q
theorem me_popAt {o : Expr} {mo ma : M Val} {apos : Pos} (ho : PE X o (tM k E mo)) (ha : PA X [e] (tMa k E ms)) (h : PE X (.Call (.Attribute o "pop" apos) [e] [] pos) (tBM X.K "list" rPopAt (tM k E mo) (tMa k E ms))) (hk : X.K = k.K := by rfl) :
    PE X (.Call (.Attribute o "pop" apos) [e] [] pos) (tM k E (lm popAtV mo ms)) := imp h fun σ H Q q => by
  rw [hk]
  exact lm_read popAt_hf q
theorem me_pop {o : Expr} {mo : M Val} {apos : Pos} (h : PE X (.Call (.Attribute o "pop" apos) [] [] pos) (tBM0 X.K "list" rPop (tM k E mo))) (hk : X.K = k.K := by rfl) :
    PE X (.Call (.Attribute o "pop" apos) [] [] pos) (tM k E (lm popV mo nilM)) := imp h fun σ H Q q => by
  rw [hk]
  refine tG.mono (lm_read pop_hf q) fun x H1 ⟨ty, h1⟩ => ⟨ty, ?_⟩
  obtain ⟨W, h1⟩ := h1
  exact h1.ret (show RepL k W H1 [] [] from rfl)
/-! ### xs[i] = e -/
def sSub (me mo mi : M Val) : S := sBnd me fun v => sBnd mo fun a => sBnd mi fun j env st => match a, j with
  | .ref i, .int n => match st[i]? with
    | some (.lst xs) => match ixN xs.length n with
      | some l => some (.next, env, st.set i (.lst (xs.set l v)))
      | none => none
    | _ => none
  | _, _ => none
theorem AtS.bnd {α β : Type} {R : Wd → Hp → α → β → Prop} {m : M α} {f : α → S} {D : Ends} {σ : L2.St} {H : Hp} {W : Wd} (P : Wd → Hp → Prop) (mono : ∀ {W W' : Wd} {H H' : Hp}, Le W W' H H' → P W H → P W' H') (hp : P W H)
    (h : AtS k E (sBnd m f) W D σ H) : tG k R E m σ H fun x H1 => ∃ W1 a, P W1 H1 ∧ R W1 H1 a x ∧ AtS k E (f a) W1 D σ H1 := by
  obtain ⟨env, st, o, h1, h2, h3, h4⟩ := h
  unfold sBnd at h3
  cases e : m env st with
  | none =>
    rw [e] at h3
    cases h3
  | some p =>
    rw [e] at h3
    obtain ⟨r, st1⟩ := p
    cases r with
    | ok a => exact ⟨W, env, st, _, h1, h2, e, fun W' H' v l o' r' => ⟨W', a, mono l hp, r', env, st1, o, o', h2.le l, h3, h4.le l⟩⟩
    | error x =>
      cases h3
      exact ⟨W, env, st, _, h1, h2, e, fun W' H' c d l o r => h4 W' H' σ c d l o (h2.le l) r⟩
theorem ms_sub {o i : Expr} {me mo mi : M Val} (h : PS X (.Assign [.Subscript o i p] e pos) (tAsg (tM k E me) (gSub (tM k E mo) (tM k E mi) rSetL))) : PS X (.Assign [.Subscript o i p] e pos) (tS k E (sSub me mo mi)) :=
  impS h fun D σ H q => tG.mono (tS.bnd (R := RepV k) q) fun x H1 ⟨W, v, rv, h1⟩ =>
    tG.mono (AtS.bnd (R := RepV k) (fun W H => RepV k W H v x) (fun l r => r.le l) rv h1) fun y H2 ⟨W2, a, rv2, ra, h2⟩ =>
      tG.mono (AtS.bnd (R := RepV k) (fun W H => RepV k W H v x ∧ RepV k W H a y) (fun l r => ⟨r.1.le l, r.2.le l⟩) ⟨rv2, ra⟩ h2) fun z H3 ⟨W3, j, ⟨rv3, ra3⟩, rj, env, st, o, g1, g2, g3, g4⟩ => by
        cases a with
        | ref i =>
          cases j with
          | int n =>
            dsimp only at g3
            split at g3
            · rename_i ys hys
              split at g3
              · rename_i l hl
                cases g3
                obtain ⟨p, e1, hp⟩ := ra3
                obtain ⟨vs, hv, rvs⟩ := g1.obj i _ p hys hp
                obtain ⟨le, o'⟩ := g1.putL (xs := ys) hp hv (rvs.set rv3 l)
                exact ⟨p, vs, n, l, e1, rj, hv, by rw [rvs.len]; exact hl, g4 W3 _ σ le o' (g2.le le)⟩
              · cases g3
            · cases g3
          | _ => cases g3
        | _ => cases g3
end
end Mi
namespace PySem
open Sem (wp)
/-- enumerate(v), v told by how its walk begins -/
theorem mi_enumNew {v : Value} {o : Obj} {Hh : Heap → Prop} (B : Begins v o Hh) : Meets (Builtin.«enumerate.__new__» ⟨[.type "enumerate", v], []⟩) (fun _ R s => Hh s.heap ∧
    R (.ok (.ret (.ref (s.heap.push o).objs.size))) { s with heap := (s.heap.push o).push { cls := .type "enumerate", data := .fields #[.none, .bool false, .ref s.heap.objs.size, rawInt 0, .none, .none] } }) :=
  .of_wp fun prog w A R s h => by
    obtain ⟨hp, g, d, tk, os⟩ := s
    obtain ⟨h1, h⟩ := h
    have hsub := sub_enumerate
    have walk : ∀ {A' : Around} {E : Value → Shared → Prop} {Q : Value → Shared → Prop}, Q (.ref hp.objs.size) ⟨hp.push o, g, d, tk, os⟩ → wpAny (model prog w) A' (pyIter v) Q E ⟨hp, g, d, tk, os⟩ := fun q => B.iter prog w _ _ _ _ h1 q
    wp_walk using walk
    refine wpAny_stack_any fun st => wpAny_pure ?_
    split
    · rename_i c _ _ _ _ _
      cases (c == Value.type "enumerate") <;> (wp_walk using walk; exact ⟨_, rfl, h⟩)
    · wp_walk using walk
      exact ⟨_, rfl, h⟩
theorem mi_enumCall {prog : Program} {w : World} {A : Around} {E : Value → Shared → Prop} {s : Shared} {v : Value} {o : Obj} {Hh : Heap → Prop} {Q : Value → Shared → Prop} (B : Begins v o Hh) (h1 : Hh s.heap)
    (h : ∀ h', IsEnum h' (s.heap.objs.size + 1) s.heap.objs.size 0 .none → h'.get? s.heap.objs.size = some o → (∀ b u, s.heap.get? b = some u → h'.get? b = some u) → Q (.ref (s.heap.objs.size + 1)) { s with heap := h' }) :
    wpAny (model prog w) A (call (.type "enumerate") [v]) Q E s := by
  refine callType_new F.called_enumerate (by decide) (F.typeCall_enumerate_1 _) (F.newCall_enumerate_1 _) (fun obj => F.args_object_init_2 obj _) F.entry_enumerate_new (mi_enumNew B) ⟨h1, ?_⟩
  have hz : (s.heap.push o).objs.size = s.heap.objs.size + 1 := Heap.size_push ..
  show _ ∧ _
  rw [hz]
  have he : IsEnum ((s.heap.push o).push { cls := .type "enumerate", data := .fields #[.none, .bool false, .ref s.heap.objs.size, rawInt 0, .none, .none] }) (s.heap.objs.size + 1) s.heap.objs.size 0 .none := by
    have q := Heap.get?_push_size (s.heap.push o) (o := { cls := .type "enumerate", data := .fields #[.none, .bool false, .ref s.heap.objs.size, rawInt 0, .none, .none] }) rfl
    rw [hz] at q
    exact q
  exact ⟨⟨_, he, rfl⟩, h _ he (Heap.get?_push_of_some _ (Heap.get?_push_size _ B.free)) fun b u x => Heap.get?_push_of_some _ (Heap.get?_push_of_some _ x)⟩
end PySem
namespace Mi
open PySem PySem.Spec PyProof.Rows L2
/-! ### enumerate, zip: over lists and tuples, in any mix -/
inductive Sc where
  | l (a : Addr) | t (a : Addr)
def Sc.addr : Sc → Addr
  | .l a => a
  | .t a => a
def Sc.sq (K : PySem.W.Frag) (H : Hp) : Sc → List V → Prop
  | .l a, xs => SqL K H a xs
  | .t a, xs => SqT K H a xs
def Sc.it (h : Heap) (I : Addr) (i : Nat) : Sc → Prop
  | .l a => h.IsListIter I a i
  | .t a => h.IsTupleIter I a i
def Sc.is (h : Heap) (items : Array Value) : Sc → Prop
  | .l a => h.IsList a items
  | .t a => h.IsTuple a items
def Sc.first : Sc → Obj
  | .l a => { cls := .type "list_iterator", data := .fields #[.ref a, .int 0 0] }
  | .t a => { cls := .type "tuple_iterator", data := .fields #[.ref a, .int 0 0] }
theorem Sc.begins (c : Sc) (items : Array Value) : Begins (.ref c.addr) c.first fun h => c.is h items := by
  cases c with
  | l a => exact begins_list a items
  | t a => exact begins_tuple a items
theorem Sc.it_first {h : Heap} {I : Addr} {c : Sc} (e : h.get? I = some c.first) : c.it h I 0 := by
  cases c with
  | l a => exact ⟨_, e, rfl, rfl⟩
  | t a => exact ⟨_, e, rfl, rfl⟩
theorem Sc.it_obj {h : Heap} {I : Addr} {i : Nat} {c : Sc} (x : c.it h I i) : ∃ o, h.get? I = some o ∧ ∀ v, o.data ≠ .cell v := by
  cases c with
  | l a =>
    obtain ⟨o, e, _, d⟩ := x
    exact ⟨o, e, fun v q => by rw [d] at q; cases q⟩
  | t a =>
    obtain ⟨o, e, _, d⟩ := x
    exact ⟨o, e, fun v q => by rw [d] at q; cases q⟩
theorem Sc.it_at {h h' : Heap} {I : Addr} {i : Nat} {c : Sc} (x : c.it h I i) (k : ∀ o, h.get? I = some o → h'.get? I = some o) : c.it h' I i := by
  cases c with
  | l a => exact Heap.IsListIter.at x k
  | t a => exact Heap.IsTupleIter.at x k
theorem Sc.draws {prog : Program} {w : World} {A : Around} (hh : A.handled = none) (c : Sc) (I : Addr) (hne : c.addr ≠ I) (items : Array Value) :
    Draws prog w A I [I, c.addr] items.size (fun i v => items[i]? = some v) (fun i h => c.it h I i ∧ c.is h items) := by
  cases c with
  | l a => exact Draws.list hh I a hne items
  | t a => exact Draws.tuple hh I a hne items
section
variable {X : Cx} {pins : List (Addr × Obj)} {σ : L2.St} {H : Hp} {s : Shared} {c : Sc} {xs ys : List V}
theorem Sc.of (I : Inv X pins σ H s) (h : c.sq X.K H xs) : ∃ its : List Value, Vals xs its ∧ c.is s.heap its.toArray := by
  cases c with
  | l a =>
    obtain ⟨its, rv, p, _⟩ := I.list h
    exact ⟨its, rv, p.isList⟩
  | t a =>
    obtain ⟨its, rv, p, _⟩ := I.tuple h
    exact ⟨its, rv, p⟩
theorem Sc.inj (I : Inv X pins σ H s) (h : c.sq X.K H xs) (h' : c.sq X.K H ys) : xs = ys := by
  cases c with
  | l a => exact I.list_inj h h'
  | t a => exact I.tuple_inj h h'
theorem Sc.ne (I : Inv X pins σ H s) (h : c.sq X.K H xs) {b : Addr} (hf : FpOk X pins H b) : c.addr ≠ b := by
  have old : ∀ a o, X.K.lookup a = some o → a ≠ b := fun a o e z => by
    have e1 := I.ok.mod.kin a o e
    obtain ⟨_, _, _, f3, _⟩ := hf
    rcases f3 with f3 | f3
    · exact I.ok.noex a o e1 (z ▸ f3)
    · exact absurd (Nat.lt_of_lt_of_le (Heap.lt_size (I.ok.bs a o e1).1) (z ▸ f3)) (Nat.lt_irrefl _)
  cases c with
  | l a =>
    rcases h with (h | ⟨o, h⟩) | ⟨o, _, _, e, _⟩
    · exact ne_of_none h hf.1
    · exact ne_of_none h hf.1
    · exact old a o e
  | t a =>
    rcases h with (h | ⟨o, h⟩) | ⟨o, _, _, e, _⟩
    · exact ne_of_none h hf.1
    · exact ne_of_none h hf.1
    · exact old a o e
end
def IteS (K : PySem.W.Frag) (c : Sc) : It :=
  ⟨fun i H => ∃ (xs : List V) (x : V), c.sq K H xs ∧ xs[i]? = some x, fun i H v H' => ∃ T x, v = .ref T ∧ H T = none ∧ H' = upd H T (.tup [.int (i : Nat), x]) ∧ ∀ xs, c.sq K H xs → xs[i]? = some x, fun i H => ∃ xs : List V, c.sq K H xs ∧ xs.length = i⟩
theorem turnEnum {P : Program} {w : World} {K : PySem.W.Frag} {elts : List Expr} {kk : Nat} {tpos : Pos} (c : Sc) (e it : Addr) :
    Turn P w K (.Tuple elts kk tpos) (IteS K c) [e, it] e (fun i h => (∃ old, IsEnum h e it ((i : Nat) : Int) old) ∧ c.it h it i ∧ e ≠ it) where
  mem := by simp
  obj := fun i h st b hb => by
    obtain ⟨⟨old, he⟩, hit, _⟩ := st
    have e' : b = e ∨ b = it := by simpa using hb
    rcases e' with z | z
    · rw [z]
      exact ⟨_, he, fun v q => nomatch q⟩
    · rw [z]
      exact Sc.it_obj hit
  keep := fun i h h' st k => by
    obtain ⟨⟨old, he⟩, hi, hne⟩ := st
    exact ⟨⟨old, k e (by simp) _ he⟩, Sc.it_at hi fun o q => k it (by simp) o q, hne⟩
  item := by
    intro X hP hw hK hc i pins s σ H E I hf st hg
    subst hP hw hK
    obtain ⟨⟨old, he⟩, hit, hne⟩ := st
    obtain ⟨xs, x, hq, hx⟩ := hg
    obtain ⟨its, rv, p⟩ := Sc.of I hq
    obtain ⟨u, hu, ru⟩ := rv.get hx
    have hel : e < s.heap.objs.size := Heap.lt_size he
    have hil : it < s.heap.objs.size := by
      obtain ⟨_, q, _⟩ := Sc.it_obj hit
      exact Heap.lt_size q
    have hai := Sc.ne I hq (hf it (by simp))
    have hae := Sc.ne I hq (hf e (by simp))
    have hef : e ∉ [it, c.addr] := fun z => by
      rcases List.mem_cons.mp z with z | z
      · exact hne z
      · exact hae (List.mem_singleton.mp z).symm
    have hlt : i < its.toArray.size := by
      have := (List.getElem?_eq_some_iff.mp hu).1
      simpa using this
    refine wpAny_pyNext_enum_itemC (Sc.draws (A := X.A.in1) (I.ok.hd hc) c it hai its.toArray) he ⟨hit, p⟩ hlt hne hef fun x' h' tk hP ho hst' hT hsz hk => ?_
    have ex : u = x' := by
      have q : its.toArray[i]? = some x' := hP
      have q' : its[i]? = some x' := by simpa using q
      exact Option.some.inj (hu.symm.trans q')
    subst ex
    refine ⟨_, rfl, wpAny_letOwnedTupleGo_enum (s := { s with heap := h', toks := tk + 1 }) ho fun h'' he' sb => ?_⟩
    have hT2 : h''.get? s.heap.objs.size = some { cls := .type "tuple", data := .seq #[.int i tk, u] } := (sb.2 _ (Nat.ne_of_gt hel)).trans hT
    have new : ObjOk X.prog X.w (upd H s.heap.objs.size (.tup [.int (i : Nat), x])) h'' s.heap.objs.size (.tup [.int (i : Nat), x]) :=
      ⟨by show 2 ≤ sizeLine; decide, [.int i tk, u], .cons ⟨_, rfl⟩ (.cons ru .nil), ⟨_, hT2, rfl, _, rfl⟩⟩
    have I1 : Inv X pins σ (upd H s.heap.objs.size (.tup [.int (i : Nat), x])) { s with heap := h'', toks := tk + 1 } :=
      I.turnedNew (ch := [e, it]) (fun b ob hb q => (sb.2 b (fun z => hb (by simp [z]))).trans (hk b ob (fun z => hb (by simp [z])) (fun z => hb (by simp [z])) q)) hf (Nat.le_refl _) new
    refine ⟨.ref s.heap.objs.size, _, I1, rfl, ⟨_, x, rfl, I.hok.fresh (Nat.le_refl _), rfl, fun ys hy => by rw [Sc.inj I hy hq]; exact hx⟩, ⟨⟨u, ?_⟩, Sc.it_at hst'.1 fun o q => (sb.2 it (Ne.symm hne)).trans q, hne⟩, fun b hb => ?_⟩
    · have e1 : ((i + 1 : Nat) : Int) = (i : Int) + 1 := by omega
      rw [e1]
      exact he'
    · have hb' : b < s.heap.objs.size := by
        have e' : b = e ∨ b = it := by simpa using hb
        rcases e' with z | z
        · rw [z]
          exact hel
        · rw [z]
          exact hil
      rw [upd_ne (Nat.ne_of_lt hb')]
      exact (hf b hb).1
  done := by
    intro X hP hw hK hc i pins s σ H E I hf st hg
    subst hP hw hK
    obtain ⟨⟨old, he⟩, hit, hne⟩ := st
    obtain ⟨xs, hq, hx⟩ := hg
    obtain ⟨its, rv, p⟩ := Sc.of I hq
    obtain ⟨f0, f1, f2, f3, f4, f5⟩ := hf it (by simp)
    have hl := rv.length
    have hi : its.toArray.size = i := by
      rw [List.size_toArray]
      omega
    refine wpAny_pyNext_enum_endD (Sc.draws (A := X.A.in1) (I.ok.hd hc) c it (Sc.ne I hq (hf it (by simp))) its.toArray) he ⟨by rw [hi]; exact hit, p⟩ fun h' eb => ⟨rfl, I.turned (t' := s.toks) (fun b o hb q => eb b o hb q) f0 f1 f3 f4 f5⟩
  self := fun A i s Q E st h => by
    obtain ⟨⟨_, he⟩, _⟩ := st
    exact wpAny_pyIter_enum he h
theorem pi_enumS {X : Cx} {e : Expr} {ta : TA} {p pos tpos : Pos} {elts : List Expr} {kk : Nat} (hg : Gl X "enumerate") (hm : X.mg "enumerate" = none) (ha : PA X [e] ta) (hs : starEach [e] X.env = [(false, eval e X.env)] := by rfl) :
    PI X (.Tuple elts kk tpos) (.Call (.Name "enumerate" p) [e] [] pos) (fun σ H R => ta σ H fun vs H1 => ∃ c xs, vs = [.ref (Sc.addr c)] ∧ c.sq X.K H1 xs ∧ R (IteS X.K c) H1) := by
  refine ⟨fun pins s σ H R I h => ?_⟩
  refine Call_ (ld_blt I hg hm boot_enumerate (PyProof.Rows.callWith_type1 (thn (ha.run pos pins s σ H _ I h) fun us s1 ⟨vs, H1, I1, r1, q1⟩ => ?_) hs rfl))
  obtain ⟨c, xs, ec, hq, q⟩ := q1
  subst ec
  cases r1 with
  | cons r rr =>
    cases rr
    cases r
    obtain ⟨its, rv, p'⟩ := Sc.of I1 hq
    refine mi_enumCall (c.begins its.toArray) p' fun h' he hit hk => wpAny_pyIter_enum he ?_
    have I2 : Inv X pins σ H1 { s1 with heap := h' } := I1.kept (t' := s1.toks) hk
    refine ⟨s1.heap.objs.size + 1, [s1.heap.objs.size + 1, s1.heap.objs.size], _, _, H1, rfl, I2, turnEnum c (s1.heap.objs.size + 1) s1.heap.objs.size, ⟨⟨.none, he⟩, Sc.it_first hit, Nat.succ_ne_self _⟩, fun b hb => ?_, q⟩
    have e' : b = s1.heap.objs.size + 1 ∨ b = s1.heap.objs.size := by simpa using hb
    have hle : s1.heap.objs.size ≤ b := by
      rcases e' with z | z
      · rw [z]
        exact Nat.le_add_right _ _
      · rw [z]
        exact Nat.le_refl _
    exact I1.fpOk hle (I1.hok.fresh hle)
/-! ### .. in the mirror -/
def seqStill : Val → Option (List Val)
  | .lst xs => some xs
  | .rol xs => some xs
  | .tup xs => some xs
  | _ => none
section
variable {k : Kx} {W : Wd} {H : Hp} {a : Val} {x : V} {xs : List Val}
theorem seqStill_rep (r : RepV k W H a x) (e : seqStill a = some xs) : ∃ c vs, x = .ref (Sc.addr c) ∧ (∀ W' H', Le W W' H H' → c.sq k.K H' vs) ∧ RepL k W H xs vs := by
  cases a with
  | lst ys =>
    cases e
    obtain ⟨p, vs, e1, f, s, r⟩ := r
    exact ⟨.l p, vs, e1, fun W' H' l => .inl (.inl (l.keep _ _ s f)), r⟩
  | rol ys =>
    cases e
    obtain ⟨p, vs, e1, s, r⟩ := r
    refine ⟨.l p, vs, e1, fun W' H' l => ?_, r⟩
    rcases s with ⟨u, s⟩ | s
    · exact .inl (.inr ⟨u, l.imm _ _ s trivial⟩)
    · exact SqL.ro s
  | tup ys =>
    cases e
    obtain ⟨p, vs, e1, s, r⟩ := r
    exact ⟨.t p, vs, e1, fun W' H' l => l.sqT s, r⟩
  | _ => cases e
theorem walks_enum {c : Sc} {vs : List V} (hs : ∀ W' H', Le W W' H H' → c.sq k.K H' vs) (r : RepL k W H xs vs) : Walks k W H (pairs xs) (IteS k.K c) := fun W' H' st l o =>
  ⟨⟨vs, hs W' H' l, by unfold pairs; rw [r.len]; simp⟩, fun i y e => by
    unfold pairs at e
    rw [List.getElem?_map, List.getElem?_zipIdx] at e
    cases q : xs[i]? with
    | none =>
      rw [q] at e
      cases e
    | some z =>
      rw [q] at e
      cases e
      obtain ⟨v, ev, rv⟩ := r.get q
      refine ⟨⟨vs, v, hs W' H' l, ev⟩, fun u H'' y => ?_⟩
      obtain ⟨T, v', e1, hT, e2, e3⟩ := y
      have e4 : v = v' := Option.some.inj (ev.symm.trans (e3 vs (hs W' H' l)))
      subst e1 e2 e4
      refine ⟨W', Le.new hT, o.new hT, T, _, rfl, .inl (.inl upd_same), ?_⟩
      exact RepL.cons (by show V.int _ = V.int _; simp) (RepL.cons ((rv.le l).le (Le.new hT)) (show RepL k _ _ [] [] from rfl))⟩
end
def enumM (ms : M (List Val)) : M (List Val) := bnd ms fun as => lift fun _ => match as with
  | [a] => (seqStill a).map pairs
  | _ => none
section
variable {X : Cx} {k : Kx} {E : WX}
theorem mi_enum {e : Expr} {ms : M (List Val)} {p pos tpos : Pos} {elts : List Expr} {kk : Nat} (hg : Gl X "enumerate") (hm : X.mg "enumerate" = none) (ha : PA X [e] (tMa k E ms)) (hs : starEach [e] X.env = [(false, eval e X.env)] := by rfl) (hk : X.K = k.K := by rfl) :
    PI X (.Tuple elts kk tpos) (.Call (.Name "enumerate" p) [e] [] pos) (tMi k E (enumM ms)) :=
  impI (pi_enumS hg hm ha hs) fun σ H R q => tG.mono (tG.bnd (R1 := RepL k) q) fun vs H1 ⟨W, as, ra, h1⟩ => by
    rw [hk]
    obtain ⟨c, st, e, o, q⟩ := h1.lift
    split at e
    · rename_i a
      obtain ⟨v, rfl, r1⟩ := rep1 ra
      cases h : seqStill a with
      | none =>
        rw [h] at e
        cases e
      | some xs =>
        rw [h] at e
        cases e
        obtain ⟨c, us, e1, hs, r⟩ := seqStill_rep r1 h
        exact ⟨c, us, by rw [e1], hs W H1 (Le.refl _ _), q W H1 _ (Le.refl _ _) o (walks_enum hs r)⟩
    · cases e
end
/-! ### isinstance: which classes -/
def noOwn : Str → Option Bool := fun _ => none
def tyNames : List String := ["NoneType", "bool", "int", "str", "tuple", "list"]
def isiT (T : String) (n : String) : Option Bool := if n ∈ tyNames then some (n == T || (n == "bool" && T == "int")) else none
def isiT2 (T U : String) (n : String) : Option Bool := if n ∈ tyNames then some ((n == T || (n == "bool" && T == "int")) || (n == U || (n == "bool" && U == "int"))) else none
theorem isiT_ok {K : PySem.W.Frag} {T : String} (h : (tyNames.all fun n => kitB n T == some (n == T || (n == "bool" && T == "int"))) = true) : ∀ n b, isiT T n = some b → PySem.W.kitOne K (.type n) (.type T) = some b := fun n b e => by
  unfold isiT at e
  split at e
  · rename_i hn
    cases e
    have q := List.all_eq_true.mp h n hn
    exact kit_ty (by simpa using q)
  · cases e
theorem isiT2_ok {K : PySem.W.Frag} {T U : String} (h : (tyNames.all fun n => kitB n T == some (n == T || (n == "bool" && T == "int")) && kitB n U == some (n == U || (n == "bool" && U == "int"))) = true) : ∀ n b, isiT2 T U n = some b → PySem.W.kitAny K (.type n) [.type T, .type U] = some b := fun n b e => by
  unfold isiT2 at e
  split at e
  · rename_i hn
    cases e
    have q := Bool.and_eq_true_iff.mp (List.all_eq_true.mp h n hn)
    have q1 : PySem.W.kitOne K (.type n) (.type T) = some _ := kit_ty (by simpa using q.1)
    have q2 : PySem.W.kitOne K (.type n) (.type U) = some _ := kit_ty (by simpa using q.2)
    refine kitAny_cons q1 (fun e1 => ?_) (fun e1 => by rw [e1]; rfl)
    rw [e1]
    exact kitAny_cons q2 (fun e2 => by rw [e2]; exact kitAny_nil) (fun e2 => by rw [e2]; rfl)
  · cases e
/-! ### a reversed copy that will be changed -/
def unS (f : Sto → Val → Option (Val × Sto)) (m : M Val) : M Val := bnd m fun a => liftS fun st => f st a
def revVM (st : Sto) (a : Val) : Option (Val × Sto) := (lstOf st a).map fun xs => (.ref st.length, st ++ [.lst xs.reverse])
theorem me_revM {X : Cx} {k : Kx} {E : WX} {e : Expr} {j : Nat} {p1 p2 p3 pos : Pos} {m : M Val} (he : PE X e (tM k E m)) (hk : X.K = k.K := by rfl) :
    PE X (.Subscript e (.Slice none none (some (.UnaryOp .USub (.Constant (.int 1) j p1) p2)) p3) pos) (tM k E (unS revVM m)) := by
  refine imp (pe_revL he) fun σ H Q h => ?_
  rw [hk]
  refine tG.mono (tG.bnd (R1 := RepV k) h) fun x H1 ⟨W, a, ra, h1⟩ => ?_
  obtain ⟨c, st, st', e, o, q⟩ := h1.liftS
  unfold revVM at e
  cases h : lstOf st a with
  | none =>
    rw [h] at e
    cases e
  | some xs =>
    rw [h] at e
    cases e
    obtain ⟨p, vs, e1, s, r⟩ := lstOf_rep o ra h
    exact ⟨p, vs, e1, s, fun p hp => newLstM o hp r.reverse q⟩
end Mi
namespace Mi
open PySem PySem.Spec PyProof.Rows L2
/-! ### the law's own call: its frame lies right on the caller's, and nothing is being shown (guards) -/
/-- a def's body, run around A alone -/
theorem run_at {P : Program} {w : World} {K : PySem.W.Frag} {mg : Str → Option Value} {base : Heap} {x qual : Str} {st : Stmt} {f : Addr} {fd : FuncData} {N ps : List Str} {j : Nat} {A : Around} {outer : List PySem.Env} {s0 : Shared} {H : Hp} {args : Args} {us : List Value} {vs : List V} {Q : VK} {E : XK} {t : TS}
    (F : Fun K x qual st f fd) (S : FnScope N ps (defScope st)) (hl : vs.length = ps.length) (hr : Room (j + 1) A) (e0 : Env0 P w K mg base A outer s0 H) (hb : BindsTo s0 fd args (ps.zip us)) (rv : Vals vs us)
    (body : ∀ cdv : Value, Room j (A.deeper (envOfC qual (defScope st) s0.heap.objs.size f cdv)) → PSs (cxOf (L2.CX P w) P w K mg base N qual (defScope st) f cdv A outer s0 H E) (defBody st) t)
    (ht : t { nx := fun _ H' => Q .non H', rt := Q } (L2.start N vs) H) : codeAny (model P w) A (.call (.ref f) args) (CR (L2.CX P w) outer P w H s0 Q E) s0 := by
  obtain ⟨oc, od, kV, doc, pm, an, cdv, ct, osl, rfl, lk, hcd⟩ := F.ex
  have stays : ∀ b o, base.get? b = some o → s0.heap.get? b = some o := fun b o q => (e0.bs b o q).1
  have KX : K.In s0.heap := e0.mod.kin.keeps stays
  refine codeAny_call_function hr.depth (KX _ _ lk) rfl S.co S.gen rfl (PySem.W.codeRec_of KX hcd) (hb _ _ _ _ ?_)
  refine wpAny_newFunctionEnv_cells S.kind (fun y hy => ?_) fun env he s1 ic => ?_
  · rcases S.par y.1 (List.of_mem_zip (show (y.1, y.2) ∈ ps.zip us from hy)).1 with q | q
    · exact .inl q
    · exact .inr ⟨q, PySem.W.cellsFrom_some _ _ _ (.inl q)⟩
  subst he
  refine ⟨(e0.mod.nolimit.keeps stays).keeps ic.toInCall.keep, codeAny_func ?_⟩
  have I := inv_start (CX := L2.CX P w) (E := E) S hr.hd e0 hl rv ic
  refine wpAny_mono ((body cdv (hr.deeper _)).run [] s1 _ H _ I ht) (fun fl s' hs => ?_) fun _ _ hs => hs
  cases fl with
  | ret u =>
    obtain ⟨v, σ', H', J, r, q⟩ := hs
    exact ⟨v, H', J.os, J.bare, J.base, J.hok, r, q⟩
  | next =>
    obtain ⟨σ', H', J, q⟩ := hs
    exact ⟨.non, H', J.os, J.bare, J.base, J.hok, rfl, q⟩
  | brk =>
    obtain ⟨_, _, _, q⟩ := hs
    exact q.elim
  | cont =>
    obtain ⟨_, _, _, q⟩ := hs
    exact q.elim
theorem caller_room {j : Nat} (h : j ≤ 40) : Room j callerA := by
  have r : Room 40 callerA := ⟨rfl, by decide, by decide⟩
  exact r.mono h
/-! ### repr -/
end Mi
namespace Mi
open PySem L2
/-! ### running the mirror -/
section
variable {α β : Type} {env e1 : Env} {st s1 : Sto} {a : α}
theorem bnd_ok {m : M α} {f : α → M β} (h : m env st = some (.ok a, s1)) : bnd m f env st = f a env s1 := by
  unfold bnd
  rw [h]
theorem sBnd_ok {m : M α} {f : α → S} (h : m env st = some (.ok a, s1)) : sBnd m f env st = f a env s1 := by
  unfold sBnd
  rw [h]
theorem sSeq_next {x y : S} (h : x env st = some (.next, e1, s1)) : sSeq x y env st = y e1 s1 := by
  unfold sSeq
  rw [h]
theorem sSeq_ret {x y : S} {v : Val} (h : x env st = some (.ret v, e1, s1)) : sSeq x y env st = some (.ret v, e1, s1) := by
  unfold sSeq
  rw [h]
theorem sSet_ok {m : M Val} {i : Nat} {v : Val} (h : m env st = some (.ok v, s1)) : sSet i m env st = some (.next, env.set i (some v), s1) := sBnd_ok h
theorem sRet_ok {m : M Val} {v : Val} (h : m env st = some (.ok v, s1)) : sRet m env st = some (.ret v, env, s1) := sBnd_ok h
theorem sExpr_ok {m : M Val} {v : Val} (h : m env st = some (.ok v, s1)) : sExpr m env st = some (.next, env, s1) := sBnd_ok h
theorem sIf_true {c : M Bool} {x y : S} (h : c env st = some (.ok true, s1)) : sIf c x y env st = x env s1 := by
  unfold sIf
  rw [sBnd_ok h]
  rfl
theorem sIf_false {c : M Bool} {x y : S} (h : c env st = some (.ok false, s1)) : sIf c x y env st = y env s1 := by
  unfold sIf
  rw [sBnd_ok h]
  rfl
theorem lift_ok {o : Sto → Option α} (h : o st = some a) : lift o env st = some (.ok a, st) := by
  unfold lift
  rw [h]
  rfl
theorem liftS_ok {o : Sto → Option (α × Sto)} (h : o st = some (a, s1)) : liftS o env st = some (.ok a, s1) := by
  unfold liftS
  rw [h]
  rfl
theorem bin_ok {f : Sto → Val → Val → Option Val} {ma mb : M Val} {x y z : Val} {s2 : Sto} (ha : ma env st = some (.ok x, s1)) (hb : mb env s1 = some (.ok y, s2)) (hf : f s2 x y = some z) : bin f ma mb env st = some (.ok z, s2) := by
  unfold bin
  rw [bnd_ok ha, bnd_ok hb]
  exact lift_ok hf
theorem un_ok {f : Sto → Val → Option Val} {ma : M Val} {x z : Val} (ha : ma env st = some (.ok x, s1)) (hf : f s1 x = some z) : un f ma env st = some (.ok z, s1) := by
  unfold un
  rw [bnd_ok ha]
  exact lift_ok hf
theorem asB_ok {m : M Val} {b : Bool} (h : m env st = some (.ok (.bl b), s1)) : asB m env st = some (.ok b, s1) := by
  unfold asB
  rw [bnd_ok h]
  rfl
theorem andB_ok {x y : M Bool} {b c : Bool} {s2 : Sto} (h : x env st = some (.ok b, s1)) (h2 : b = true → y env s1 = some (.ok c, s2)) (h3 : b = false → s2 = s1 ∧ c = false) : andB x y env st = some (.ok c, s2) := by
  unfold andB
  rw [bnd_ok h]
  cases b with
  | true => exact h2 rfl
  | false =>
    obtain ⟨e1, e2⟩ := h3 rfl
    rw [e1, e2]
    rfl
theorem consM_ok {m : M Val} {ms : M (List Val)} {v : Val} {vs : List Val} {s2 : Sto} (h : m env st = some (.ok v, s1)) (h2 : ms env s1 = some (.ok vs, s2)) : consM m ms env st = some (.ok (v :: vs), s2) := by
  unfold consM
  rw [bnd_ok h, bnd_ok h2]
  rfl
theorem nilM_ok : nilM env st = some (.ok [], st) := rfl
theorem app_ok {f : Sto → List Val → Option Val} {ms : M (List Val)} {vs : List Val} {z : Val} (h : ms env st = some (.ok vs, s1)) (hf : f s1 vs = some z) : app f ms env st = some (.ok z, s1) := by
  unfold app
  rw [bnd_ok h]
  exact lift_ok hf
theorem callM_ok {n : Nat} {c : CF} {ds : List Val} {ms : M (List Val)} {vs : List Val} {z : Val} {s2 : Sto} (h : ms env st = some (.ok vs, s1)) (hn : (vs ++ ds).length = n) (hc : c (vs ++ ds) s1 = some (.ok z, s2)) : callM n c ds ms env st = some (.ok z, s2) := by
  unfold callM
  rw [bnd_ok h]
  show (if (vs ++ ds).length = n then c (vs ++ ds) s1 else none) = _
  rw [if_pos hn]
  exact hc
theorem callS_ret {N : Nat} {s : S} {us : List Val} {v : Val} (h : s (env0 N us) st = some (.ret v, e1, s1)) : callS N s us st = some (.ok v, s1) := by
  unfold callS
  rw [h]
theorem mkLst_ok {ms : M (List Val)} {vs : List Val} (h : ms env st = some (.ok vs, s1)) (hl : vs.length ≤ LIM) : mkLst ms env st = some (.ok (.lst vs), s1) := by
  unfold mkLst
  rw [bnd_ok h]
  exact lift_ok (if_pos hl)
theorem mkLstM_ok {ms : M (List Val)} {vs : List Val} (h : ms env st = some (.ok vs, s1)) (hl : vs.length ≤ LIM) : mkLstM ms env st = some (.ok (.ref s1.length), s1 ++ [.lst vs]) := by
  unfold mkLstM
  rw [bnd_ok h]
  exact liftS_ok (if_pos hl)
theorem lm_ok {f : Sto → Val → List Val → Option (Val × Sto)} {mo : M Val} {ms : M (List Val)} {x z : Val} {xs : List Val} {vs : List Val} {s2 s3 : Sto} (ha : mo env st = some (.ok x, s1)) (hl : lstOf s1 x = some xs) (hb : ms env s1 = some (.ok vs, s2)) (hf : f s2 x vs = some (z, s3)) : lm f mo ms env st = some (.ok z, s3) := by
  unfold lm
  rw [bnd_ok ha]
  have h1 : (lift fun st => isLst st x) env s1 = some (.ok (), s1) := by
    refine lift_ok ?_
    show isLst s1 x = some ()
    unfold isLst
    rw [hl]
  rw [bnd_ok h1, bnd_ok hb]
  exact liftS_ok hf
end
/-! ### == -/
theorem toD0s_ints : ∀ ns : List Int, toD0s (ns.map Val.int) = some (ns.map PyData.int)
  | [] => rfl
  | n :: ns => by
    show (match toD0 (.int n), toD0s (ns.map Val.int) with | some d, some ds => some (d :: ds) | _, _ => none) = _
    rw [toD0s_ints ns]
    rfl
theorem canAll_ints : ∀ ns : List Int, PyData.canLayAll0 (ns.map PyData.int) = true
  | [] => rfl
  | n :: ns => by
    show (PyData.canLay0 (.int n) && PyData.canLayAll0 (ns.map PyData.int)) = true
    rw [canAll_ints ns]
    rfl
theorem depth_ints : ∀ ns : List Int, PyData.depthAll (ns.map PyData.int) ≤ 1
  | [] => Nat.zero_le _
  | n :: ns => by
    have := depth_ints ns
    show max (PyData.depth (.int n)) (PyData.depthAll (ns.map PyData.int)) ≤ 1
    simp [PyData.depth]
    omega
theorem shaped_ints (ns : List Int) : SeqAt.shaped (.list (ns.map PyData.int)) = true := by
  have h := depth_ints ns
  unfold SeqAt.shaped
  show (PyData.canLayAll0 (ns.map PyData.int) && decide (PyData.depthAll (ns.map PyData.int) + 1 ≤ 64)) = true
  rw [canAll_ints]
  simp
  omega
theorem eqV_int (st : Sto) (i j : Int) : eqV st (.int i) (.int j) = some (.bl (i == j)) := rfl
/-- deal[0] != [] -/
theorem neV_nil {st : Sto} {c : Nat} {ns : List Int} (h : st[c]? = some (.lst (ns.map .int))) : neV st (.ref c) (.lst []) = some (.bl (!ns.isEmpty)) := by
  have e1 : toD st (.ref c) = some (.list (ns.map PyData.int)) := by
    show (match st[c]? with | some (.lst xs) => (toD0s xs).map PyData.list | _ => none) = _
    rw [h]
    show (toD0s (ns.map Val.int)).map PyData.list = _
    rw [toD0s_ints]
    rfl
  show neD st (.ref c) (.lst []) = _
  unfold neD
  rw [e1]
  show (if SeqAt.shaped (.list (ns.map PyData.int)) = true ∧ SeqAt.shaped (.list []) = true then some (Val.bl (!(PyData.list (ns.map PyData.int)).eqv (.list []))) else none) = _
  rw [if_pos ⟨shaped_ints ns, rfl⟩]
  cases ns <;> rfl
/-! ### loops and comprehensions -/
theorem loop_inv {t : Tg} {body : S} (I : Nat → Env → Sto → Prop) : ∀ (xs : List Val) (n : Nat) {env : Env} {st : Sto}, I n env st →
    (∀ i x env st, xs[i]? = some x → I (n + i) env st → ∃ env1, bindT t x env = some env1 ∧ ∃ env2 st2, (body env1 st = some (.next, env2, st2) ∨ body env1 st = some (.cont, env2, st2)) ∧ I (n + i + 1) env2 st2) →
    ∃ env' st', loop t body xs env st = some (.next, env', st') ∧ I (n + xs.length) env' st'
  | [], n, env, st, h0, _ => ⟨env, st, rfl, h0⟩
  | x :: xs, n, env, st, h0, hs => by
    obtain ⟨env1, e1, env2, st2, eb, h1⟩ := hs 0 x env st rfl h0
    obtain ⟨env', st', e2, h2⟩ := loop_inv I xs (n + 1) (env := env2) (st := st2) h1 fun i y env st hy hI => by
      have hI' : I (n + (i + 1)) env st := by
        rw [show n + (i + 1) = n + 1 + i by omega]
        exact hI
      obtain ⟨a, b, c, d, e, f⟩ := hs (i + 1) y env st hy hI'
      refine ⟨a, b, c, d, e, ?_⟩
      rw [show n + 1 + i + 1 = n + (i + 1) + 1 by omega]
      exact f
    refine ⟨env', st', ?_, ?_⟩
    · unfold loop
      rw [e1]
      dsimp only
      rcases eb with eb | eb
      · rw [eb]
        exact e2
      · rw [eb]
        exact e2
    · rw [List.length_cons, show n + (xs.length + 1) = n + 1 + xs.length by omega]
      exact h2
theorem sFor_inv {mi : M (List Val)} {t : Tg} {body : S} (I : Nat → Env → Sto → Prop) {xs : List Val} {env : Env} {st s1 : Sto} (hm : mi env st = some (.ok xs, s1)) (h0 : I 0 env s1)
    (hs : ∀ i x env st, xs[i]? = some x → I i env st → ∃ env1, bindT t x env = some env1 ∧ ∃ env2 st2, (body env1 st = some (.next, env2, st2) ∨ body env1 st = some (.cont, env2, st2)) ∧ I (i + 1) env2 st2) :
    ∃ env' st', sFor mi t body env st = some (.next, env', st') ∧ I xs.length env' st' := by
  obtain ⟨e, s, h1, h2⟩ := loop_inv I xs 0 h0 fun i x env st hx hI => by
    have hI' : I i env st := by simpa using hI
    obtain ⟨a, b, c, d, e, f⟩ := hs i x env st hx hI'
    exact ⟨a, b, c, d, e, by simpa using f⟩
  refine ⟨e, s, ?_, by simpa using h2⟩
  unfold sFor
  rw [sBnd_ok hm]
  exact h1
theorem compLoop_pure {t : Tg} {own : List Nat} {cond : M Bool} {elt : M Val} {p : Val → Bool} {f : Val → Val} : ∀ {xs : List Val} {env : Env} {st : Sto},
    (∀ x ∈ xs, ∃ env1, bindT t x (wipeE env own) = some env1 ∧ cond env1 st = some (.ok (p x), st) ∧ (p x = true → elt env1 st = some (.ok (f x), st))) → compLoop t own cond elt xs env st = some (.ok ((xs.filter p).map f), st)
  | [], _, _, _ => rfl
  | x :: xs, env, st, h => by
    obtain ⟨env1, e1, e2, e3⟩ := h x List.mem_cons_self
    have ih := compLoop_pure (t := t) (own := own) (cond := cond) (elt := elt) (p := p) (f := f) (xs := xs) (env := env) (st := st) fun y hy => h y (List.mem_cons_of_mem _ hy)
    unfold compLoop
    rw [e1]
    dsimp only
    rw [e2]
    cases hp : p x with
    | true =>
      dsimp only
      rw [e3 hp]
      dsimp only
      rw [ih]
      rw [List.filter_cons_of_pos hp]
      rfl
    | false =>
      dsimp only
      rw [ih, List.filter_cons_of_neg (by rw [hp]; exact Bool.false_ne_true)]
theorem comp_pure {mi : M (List Val)} {t : Tg} {own : List Nat} {cond : M Bool} {elt : M Val} {p : Val → Bool} {f : Val → Val} {xs : List Val} {env : Env} {st s1 : Sto} (hm : mi env st = some (.ok xs, s1)) (hl : xs.length ≤ LIM)
    (h : ∀ x ∈ xs, ∃ env1, bindT t x (wipeE env own) = some env1 ∧ cond env1 s1 = some (.ok (p x), s1) ∧ (p x = true → elt env1 s1 = some (.ok (f x), s1))) : comp mi t own cond elt env st = some (.ok (.lst ((xs.filter p).map f)), s1) := by
  have e : compM mi t own cond elt env st = some (.ok ((xs.filter p).map f), s1) := by
    unfold compM
    rw [bnd_ok hm]
    show (if xs.length ≤ LIM then compLoop t own cond elt xs env s1 else none) = _
    rw [if_pos hl]
    exact compLoop_pure h
  unfold comp
  rw [bnd_ok e]
  rfl
theorem comp_map {mi : M (List Val)} {t : Tg} {own : List Nat} {elt : M Val} {f : Val → Val} {xs : List Val} {env : Env} {st s1 : Sto} (hm : mi env st = some (.ok xs, s1)) (hl : xs.length ≤ LIM)
    (h : ∀ x ∈ xs, ∃ env1, bindT t x (wipeE env own) = some env1 ∧ elt env1 s1 = some (.ok (f x), s1)) : comp mi t own yes elt env st = some (.ok (.lst (xs.map f)), s1) := by
  have q := comp_pure (p := fun _ => true) (cond := yes) (elt := elt) (t := t) (own := own) (f := f) hm hl fun x hx => by
    obtain ⟨e, h1, h2⟩ := h x hx
    exact ⟨e, h1, rfl, fun _ => h2⟩
  rw [List.filter_eq_self.mpr (fun _ _ => rfl)] at q
  exact q
theorem rng1_ok {ms : M (List Val)} {env : Env} {st s1 : Sto} {j : Int} (h : ms env st = some (.ok [.int j], s1)) (h0 : -(2 ^ 62) ≤ j) (h1 : j < 2 ^ 62) : rng1 ms env st = some (.ok ((List.range j.toNat).map fun (i : Nat) => .int (0 + i)), s1) := by
  unfold rng1
  rw [bnd_ok h]
  exact lift_ok (if_pos ⟨h0, h1⟩)
theorem itS_ok {m : M Val} {env : Env} {st s1 : Sto} {v : Val} {xs : List Val} (h : m env st = some (.ok v, s1)) (hv : stillOf v = some xs) : itS m env st = some (.ok xs, s1) := by
  unfold itS
  rw [bnd_ok h]
  exact lift_ok hv
end Mi
namespace Mi
open PySem PySem.Spec PyProof.Rows L2
/-! ### values that speak of no store object -/
mutual
def noRef : Val → Bool
  | .non | .bl _ | .int _ | .str _ => true
  | .tup xs | .lst xs | .rol xs | .tpd xs => noRefs xs
  | .ins _ _ xs => noRefs xs
  | .ref _ => false
  | .exv _ _ _ => false
  | .lam _ _ _ _ _ _ => false
  | .cls _ => true
def noRefs : List Val → Bool
  | [] => true
  | x :: xs => noRef x && noRefs xs
end
mutual
/-- nor of a frozen list -/
def still : Val → Bool
  | .non | .bl _ | .int _ | .str _ => true
  | .tup xs | .rol xs | .tpd xs => stills xs
  | .ins _ _ xs => stills xs
  | .lst _ | .ref _ => false
  | .exv _ _ _ => false
  | .lam _ _ _ _ _ _ => false
  | .cls _ => true
def stills : List Val → Bool
  | [] => true
  | x :: xs => still x && stills xs
end
/-- a callee's world ends: back in the caller's world, whose store objects the callee did not have -/
def Wd.back (W W' : Wd) (x : Addr → Prop) : Wd := ⟨W.rho, fun p => (W'.fz p ∧ p ∉ W.rho) ∨ x p⟩
section
variable {k : Kx} {W W' : Wd} {H H' : Hp} {x : Addr → Prop}
mutual
theorem RepV.back (hl : ∀ p, p ∈ W.rho → W'.fz p → ∀ C dx fs, H' p ≠ some (.ins C dx fs)) (hL : (∀ p, p ∈ W.rho → ¬ W'.fz p)) : ∀ {v : Val} {u : V}, RepV k W' H' v u → noRef v = true → RepV k (W.back W' x) H' v u
  | .non, _, h, _ => h
  | .bl _, _, h, _ => h
  | .int _, _, h, _ => h
  | .str _, _, h, _ => h
  | .tup xs, _, h, n => by
    obtain ⟨p, vs, e, s, r⟩ := h
    exact ⟨p, vs, e, s, RepL.back hl hL r n⟩
  | .lst xs, _, h, n => by
    obtain ⟨p, vs, e, f, s, r⟩ := h
    exact ⟨p, vs, e, .inl ⟨f, fun m => hL p m f⟩, s, RepL.back hl hL r n⟩
  | .rol xs, _, h, n => by
    obtain ⟨p, vs, e, s, r⟩ := h
    exact ⟨p, vs, e, s, RepL.back hl hL r n⟩
  | .ins c ks xs, _, h, n => by
    obtain ⟨p, dx, vs, e, f, s, n1, r⟩ := h
    exact ⟨p, dx, vs, e, .inl ⟨f, fun m => hL p m f⟩, s, n1, RepL.back hl hL r n⟩
  | .ref i, _, _, n => nomatch n
  | .exv _ _ _, _, _, n => nomatch n
  | .lam _ _ _ _ _ _, _, _, n => nomatch n
  | .cls _, _, h, _ => h
  | .tpd xs, _, h, n => by
    obtain ⟨p, o, vs, e, s, d, r⟩ := h
    exact ⟨p, o, vs, e, s, d, RepL.back hl hL r n⟩
theorem RepL.back (hl : ∀ p, p ∈ W.rho → W'.fz p → ∀ C dx fs, H' p ≠ some (.ins C dx fs)) (hL : (∀ p, p ∈ W.rho → ¬ W'.fz p)) : ∀ {v : List Val} {u : List V}, RepL k W' H' v u → noRefs v = true → RepL k (W.back W' x) H' v u
  | [], _, h, _ => h
  | y :: ys, _, h, n => by
    obtain ⟨v, r, e, h1, h2⟩ := h
    have n' := Bool.and_eq_true_iff.mp n
    exact ⟨v, r, e, RepV.back hl hL h1 n'.1, RepL.back hl hL h2 n'.2⟩
end
mutual
theorem RepV.backS (hl : ∀ p, p ∈ W.rho → W'.fz p → ∀ C dx fs, H' p ≠ some (.ins C dx fs)) : ∀ {v : Val} {u : V}, RepV k W' H' v u → still v = true → RepV k (W.back W' x) H' v u
  | .non, _, h, _ => h
  | .bl _, _, h, _ => h
  | .int _, _, h, _ => h
  | .str _, _, h, _ => h
  | .tup xs, _, h, n => by
    obtain ⟨p, vs, e, s, r⟩ := h
    exact ⟨p, vs, e, s, RepL.backS hl r n⟩
  | .lst xs, _, h, n => nomatch n
  | .rol xs, _, h, n => by
    obtain ⟨p, vs, e, s, r⟩ := h
    exact ⟨p, vs, e, s, RepL.backS hl r n⟩
  | .ins c ks xs, _, h, n => by
    obtain ⟨p, dx, vs, e, f, s, n1, r⟩ := h
    exact ⟨p, dx, vs, e, .inl ⟨f, fun m => hl p m f _ _ _ s⟩, s, n1, RepL.backS hl r n⟩
  | .ref i, _, _, n => nomatch n
  | .exv _ _ _, _, _, n => nomatch n
  | .lam _ _ _ _ _ _, _, _, n => nomatch n
  | .cls _, _, h, _ => h
  | .tpd xs, _, h, n => by
    obtain ⟨p, o, vs, e, s, d, r⟩ := h
    exact ⟨p, o, vs, e, s, d, RepL.backS hl r n⟩
theorem RepL.backS (hl : ∀ p, p ∈ W.rho → W'.fz p → ∀ C dx fs, H' p ≠ some (.ins C dx fs)) : ∀ {v : List Val} {u : List V}, RepL k W' H' v u → stills v = true → RepL k (W.back W' x) H' v u
  | [], _, h, _ => h
  | y :: ys, _, h, n => by
    obtain ⟨v, r, e, h1, h2⟩ := h
    have n' := Bool.and_eq_true_iff.mp n
    exact ⟨v, r, e, RepV.backS hl h1 n'.1, RepL.backS hl h2 n'.2⟩
end
mutual
/-- in any world that freezes as much -/
theorem RepV.other {W2 : Wd} (ef : ∀ p, W.fz p → W2.fz p) : ∀ {v : Val} {u : V}, RepV k W H v u → noRef v = true → RepV k W2 H v u
  | .non, _, h, _ => h
  | .bl _, _, h, _ => h
  | .int _, _, h, _ => h
  | .str _, _, h, _ => h
  | .tup xs, _, h, n => by
    obtain ⟨p, vs, e, s, r⟩ := h
    exact ⟨p, vs, e, s, RepL.other ef r n⟩
  | .lst xs, _, h, n => by
    obtain ⟨p, vs, e, f, s, r⟩ := h
    exact ⟨p, vs, e, ef _ f, s, RepL.other ef r n⟩
  | .rol xs, _, h, n => by
    obtain ⟨p, vs, e, s, r⟩ := h
    exact ⟨p, vs, e, s, RepL.other ef r n⟩
  | .ins c ks xs, _, h, n => by
    obtain ⟨p, dx, vs, e, f, s, n1, r⟩ := h
    exact ⟨p, dx, vs, e, ef _ f, s, n1, RepL.other ef r n⟩
  | .ref i, _, _, n => nomatch n
  | .exv _ _ _, _, _, n => nomatch n
  | .lam _ _ _ _ _ _, _, _, n => nomatch n
  | .cls _, _, h, _ => h
  | .tpd xs, _, h, n => by
    obtain ⟨p, o, vs, e, s, d, r⟩ := h
    exact ⟨p, o, vs, e, s, d, RepL.other ef r n⟩
theorem RepL.other {W2 : Wd} (ef : ∀ p, W.fz p → W2.fz p) : ∀ {v : List Val} {u : List V}, RepL k W H v u → noRefs v = true → RepL k W2 H v u
  | [], _, h, _ => h
  | y :: ys, _, h, n => by
    obtain ⟨v, r, e, h1, h2⟩ := h
    have n' := Bool.and_eq_true_iff.mp n
    exact ⟨v, r, e, RepV.other ef h1 n'.1, RepL.other ef h2 n'.2⟩
end
/-- a callee's world: nothing to write at but what is new -/
def Wd.sub (W : Wd) (b : Bool) (H : Hp) (l : List Addr) : Wd := ⟨l, fun p => W.fz p ∨ (b = true ∧ p ∈ W.rho ∧ ∃ vs, H p = some (.lst vs))⟩
/-- the list that a name stands for, frozen as long as the callee runs -/
def snap (st : Sto) (a : Val) : Option Val := if noRef a then some a else match a with
  | .ref i => match st[i]? with
    | some (.lst xs) => if noRefs xs then some (.lst xs) else none
    | _ => none
  | _ => none
def snaps (st : Sto) : List Val → Option (List Val)
  | [] => some []
  | x :: xs => match snap st x, snaps st xs with
    | some y, some ys => some (y :: ys)
    | _, _ => none
theorem snap_rep {st : Sto} {a b : Val} {u : V} {l : List Addr} (o : Ok k W H st) (r : RepV k W H a u) (e : snap st a = some b) : RepV k (W.sub true H l) H b u := by
  unfold snap at e
  split at e
  · rename_i n
    cases e
    exact RepV.other (fun p f => Or.inl f) r n
  · split at e
    · rename_i i _
      split at e
      · rename_i xs hx
        split at e
        · rename_i hn
          cases e
          obtain ⟨p, rfl, hp⟩ := r
          obtain ⟨vs, hv, rv⟩ := o.obj i _ p hx hp
          exact ⟨p, vs, rfl, .inr ⟨rfl, List.mem_of_getElem? hp, vs, hv⟩, hv, RepL.other (fun p f => Or.inl f) rv hn⟩
        · cases e
      · cases e
    · cases e
theorem snaps_rep {st : Sto} {l : List Addr} (o : Ok k W H st) : ∀ {as bs : List Val} {us : List V}, RepL k W H as us → snaps st as = some bs → RepL k (W.sub true H l) H bs us
  | [], bs, us, r, e => by
    cases e
    exact r
  | a :: as, bs, us, r, e => by
    obtain ⟨v, u, rfl, r1, r2⟩ := r
    unfold snaps at e
    split at e
    · rename_i y ys h1 h2
      cases e
      exact ⟨v, u, rfl, snap_rep o r1 h1, snaps_rep o r2 h2⟩
    · cases e
theorem Ok.sub {st : Sto} {b : Bool} (o : Ok k W H st) : Ok k (W.sub b H []) H [] := by
  refine ⟨List.nodup_nil, rfl, fun p f => ?_, fun p m => ?_, fun i u q e => ?_⟩
  · rcases f with f | ⟨_, _, vs, e⟩
    · exact o.fzs p f
    · rw [e]
      exact fun z => nomatch z
  · exact nomatch m
  · rw [List.getElem?_nil] at e
    cases e
/-- back in the caller's world -/
theorem Ok.back {st : Sto} {b : Bool} {l : List Addr} {H0 : Hp} (o : Ok k W H st) (hH : ∀ p u, H p = some u → H0 p = some u) (hl : ∀ p ∈ l, H p = none) (hx : ∀ p, x p → H p = none ∧ H' p ≠ none) (h : Le (W.sub b H l) W' H0 H') (hW : ∀ p, W'.fz p → H' p ≠ none)
    (hd : ∀ p, H0 p = none → H p = none) : Le W (W.back W' x) H H' ∧ Ok k (W.back W' x) H' st ∧ (∀ p, p ∈ W.rho → W'.fz p → ∀ C dx fs, H' p ≠ some (.ins C dx fs)) ∧ (b = false → ∀ p, p ∈ W.rho → ¬ W'.fz p) := by
  have keep : ∀ p u, H p = some u → H' p = some u := fun p u e => h.rest p u (hH p u e) fun m => by
    rw [hl p m] at e
    cases e
  have newf : ∀ p, W'.fz p → H p ≠ none → W.fz p ∨ (b = true ∧ p ∈ W.rho ∧ ∃ vs, H p = some (.lst vs)) := fun p f n => by
    rcases h.newf p f with z | z
    · exact z
    · exact absurd (hd p z) n
  have le : Le W (W.back W' x) H H' := ⟨⟨[], by simp [Wd.back]⟩, fun p f => .inl ⟨h.fz p (.inl f), fun m => o.apart p m f⟩, fun p u e _ => keep p u e, fun p u e _ => keep p u e, fun p u e _ => keep p u e, fun p m => .inl m, fun p f => by
    rcases f with ⟨f, n⟩ | f
    · cases q : H p with
      | none => exact .inr rfl
      | some u =>
        rcases newf p f (by rw [q]; exact fun z => nomatch z) with z | ⟨_, m, _⟩
        · exact .inl z
        · exact absurd m n
    · exact .inr (hx p f).1, fun p n => by
    cases q : H p with
    | none => exact absurd q n
    | some u =>
      rw [keep p u q]
      exact fun z => nomatch z⟩
  refine ⟨le, ⟨o.nd, o.len, fun p f => ?_, fun p m f => ?_, fun i u q e1 e2 => ?_⟩, fun p m f C dx fs e => ?_, fun hb p m f => ?_⟩
  · rcases f with ⟨f, _⟩ | f
    · exact hW p f
    · exact (hx p f).2
  · rcases f with ⟨_, n⟩ | f
    · exact n m
    · exact o.there m (hx p f).1
  · have hq : q ∈ W.rho := List.mem_of_getElem? e2
    refine (o.obj i u q e1 e2).le le ?_
    cases z : H q with
    | none => exact absurd z (o.there hq)
    | some y => exact keep q y z
  · rcases newf p f (o.there m) with z | ⟨_, _, vs, z⟩
    · exact o.apart p m z
    · rw [keep p _ z] at e
      cases e
  · rcases newf p f (o.there m) with z | ⟨z, _⟩
    · exact o.apart p m z
    · rw [hb] at z
      cases z
end
/-! ### calls that leave the store as it was -/
def outN (st : Sto) : Option (Except Exc Val × Sto) → Res Val
  | some (.ok v, _) => if noRef v then some (.ok v, st) else none
  | some (.error x, _) => if noRefs x.xs then some (.error x, st) else none
  | none => none
def outB (st : Sto) : Option (Except Exc Val × Sto) → Res Val
  | some (.ok v, _) => if still v then some (.ok v, st) else none
  | some (.error x, _) => if stills x.xs then some (.error x, st) else none
  | none => none
/-- us: all arguments -/
def runP (c : CF) (us : List Val) (st : Sto) : Res Val := if noRefs us then outN st (c us []) else match snaps st us with
  | some ws => outB st (c ws [])
  | none => none
def callP (n : Nat) (c : CF) (ds : List Val) (ms : M (List Val)) : M Val := bnd ms fun us _ st => if (us ++ ds).length = n then runP c (us ++ ds) st else none
section
variable {X : Cx} {k : Kx} {E : WX} {pos p : Pos} {e : Expr} {es : List Expr} {ms : M (List Val)}
theorem snaps_len {st : Sto} : ∀ {us ws : List Val}, snaps st us = some ws → ws.length = us.length
  | [], ws, e => by
    cases e
    rfl
  | a :: as, ws, e => by
    unfold snaps at e
    split at e
    · rename_i y ys h1 h2
      cases e
      simp [snaps_len h2]
    · cases e
theorem runP_sp {n : Nat} {c : CF} {us : List Val} {vs : List V} {st : Sto} {W : Wd} {H : Hp} {Q : VK} {E : XK} {o : Except Exc Val × Sto} (hn : us.length = n) (h1 : Ok k W H st) (r : RepL k W H us vs) (h3 : runP c us st = some o) (h4 : Fin k (RepV k) E W H Q o) : spM k n c vs H Q E := by
  unfold runP at h3
  split at h3
  · rename_i hr
    cases q : c us [] with
    | none =>
      rw [q] at h3
      cases h3
    | some p =>
      rw [q] at h3
      obtain ⟨y, st'⟩ := p
      have key : ∀ W' H', Le (W.sub false H []) W' H H' → Ok k W' H' st' → _ := fun W' H' l o' => h1.back (x := fun _ => False) (fun _ _ z => z) (fun _ z => by cases z) (fun _ z => z.elim) l o'.fzs (fun _ z => z)
      refine ⟨W.sub false H [], us, [], _, hn, h1.sub, r.other (fun p f => Or.inl f) hr, q, ?_⟩
      cases y with
      | ok v =>
        dsimp only [outN] at h3
        split at h3
        · rename_i hv
          cases h3
          intro W' H' u l o' ru
          obtain ⟨a1, a2, a3, a4⟩ := key W' H' l o'
          exact h4 _ H' u a1 a2 (ru.back a3 (a4 rfl) hv)
        · cases h3
      | error x =>
        dsimp only [outN] at h3
        split at h3
        · rename_i hv
          cases h3
          intro W' H' u d l o' ru
          obtain ⟨a1, a2, a3, a4⟩ := key W' H' l o'
          refine h4 _ H' u d a1 a2 ⟨ru.1, ru.2.1, ?_⟩
          rcases ru.2.2 with z | ⟨a, vs, z1, z2, z3⟩
          · exact .inl z
          · exact .inr ⟨a, vs, z1, z2, z3.back a3 (a4 rfl) hv⟩
        · cases h3
  · split at h3
    · rename_i ws hw
      cases q : c ws [] with
      | none =>
        rw [q] at h3
        cases h3
      | some p =>
        rw [q] at h3
        obtain ⟨y, st'⟩ := p
        have key : ∀ W' H', Le (W.sub true H []) W' H H' → Ok k W' H' st' → _ := fun W' H' l o' => h1.back (x := fun _ => False) (fun _ _ z => z) (fun _ z => by cases z) (fun _ z => z.elim) l o'.fzs (fun _ z => z)
        refine ⟨W.sub true H [], ws, [], _, (snaps_len hw).trans hn, h1.sub, snaps_rep h1 r hw, q, ?_⟩
        cases y with
        | ok v =>
          dsimp only [outB] at h3
          split at h3
          · rename_i hv
            cases h3
            intro W' H' u l o' ru
            obtain ⟨a1, a2, a3, a4⟩ := key W' H' l o'
            exact h4 _ H' u a1 a2 (ru.backS a3 hv)
          · cases h3
        | error x =>
          dsimp only [outB] at h3
          split at h3
          · rename_i hv
            cases h3
            intro W' H' u d l o' ru
            obtain ⟨a1, a2, a3, a4⟩ := key W' H' l o'
            refine h4 _ H' u d a1 a2 ⟨ru.1, ru.2.1, ?_⟩
            rcases ru.2.2 with z | ⟨a, vs, z1, z2, z3⟩
            · exact .inl z
            · exact .inr ⟨a, vs, z1, z2, z3.backS a3 hv⟩
          · cases h3
    · cases h3
theorem callP_read {n : Nat} {c : CF} {ds : List Val} {dvs : List V} (hd : ∀ W H, RepL k W H ds dvs) {σ : L2.St} {H : Hp} {Q : VK} (h : tM k E (callP n c ds ms) σ H Q) : tCallSD (spM k n c) dvs (WE E) (tMa k E ms) σ H Q :=
  tG.mono (tG.bnd (R1 := RepL k) h) fun vs H1 ⟨W, us, ru, env, st, o, h1, h2, h3, h4⟩ => by
    dsimp only at h3
    split at h3
    · rename_i hl
      exact runP_sp hl h1 (ru.append (hd W H1)) h3 h4
    · cases h3
theorem me_callP {x : Str} {j n : Nat} {f : Addr} {fd : FuncData} {ps : List Str} {c : CF} {ds : List Val} {dvs : List V} {dus : List Value} (F : FnOk X.prog X.w X.K X.mg X.base (L2.CX X.prog X.w) j f fd ps (spM k n c)) (hr : Room j X.A) (hg : Gl X x) (hm : X.mg x = some (.ref f)) (hk : PySem.W.keepIn X.K (.ref f) = true)
    (hb : Binds X.K fd ps dus) (hv : Vals dvs dus) (hd : ∀ W H, RepL k W H ds dvs) (tk : Takes X E) (ha : PA X (e :: es) (tMa k E ms)) (hdb : (x == ("__debug__" : Str)) = false := by decide)
    (he : starEach (e :: es) X.env = (false, eval e X.env) :: starEach es X.env := by rfl) (hpl : (backTo pos (starEach es X.env)).any (·.1) = false := by rfl) : PE X (.Call (.Name x p) (e :: es) [] pos) (tM k E (callP n c ds ms)) :=
  imp (pe_callSD F hr hg hm hk hb hv (fun σ => passAt tk σ) ha hdb he hpl) fun σ H Q h => callP_read hd h
end
end Mi
namespace Mi
open PySem PySem.Spec PyProof.Rows L2
/-! ### attributes -/
def fieldOf (f : Str) : List Str → List Val → Option Val
  | g :: ks, x :: xs => if f == g then some x else fieldOf f ks xs
  | _, _ => none
/-- a field is written: the names, the values -/
def putK (f : Str) : List Str → List Str
  | [] => [f]
  | g :: ks => if g = f then g :: ks else g :: putK f ks
def putX (f : Str) (y : Val) : List Str → List Val → List Val
  | [], _ => [y]
  | g :: ks, x :: xs => if g = f then y :: xs else x :: putX f y ks xs
  | _ :: _, [] => []
section
variable {k : Kx} {W : Wd} {H : Hp}
theorem fieldOf_rep {f : Str} : ∀ {ks : List Str} {xs : List Val} {vs : List V} {x : Val}, RepL k W H xs vs → fieldOf f ks xs = some x → ∃ v, (ks.zip vs).lookup f = some v ∧ RepV k W H x v
  | [], xs, vs, x, _, e => by cases e
  | g :: ks, [], vs, x, _, e => by cases e
  | g :: ks, y :: xs, vs, x, r, e => by
    obtain ⟨v, u, rfl, r1, r2⟩ := r
    unfold fieldOf at e
    show ∃ w, List.lookup f ((g, v) :: ks.zip u) = some w ∧ _
    rw [List.lookup_cons]
    cases q : f == g with
    | true =>
      rw [q] at e
      cases e
      exact ⟨v, rfl, r1⟩
    | false =>
      rw [q] at e
      exact fieldOf_rep r2 e
theorem fieldOf_no {f : Str} : ∀ {ks : List Str} {vs : List V}, ks.contains f = false → (ks.zip vs).lookup f = none
  | [], _, _ => rfl
  | g :: ks, [], _ => rfl
  | g :: ks, v :: vs, e => by
    have e' := Bool.or_eq_false_iff.mp (show (f == g || ks.contains f) = false from by rw [← List.contains_cons]; exact e)
    show List.lookup f ((g, v) :: ks.zip vs) = none
    rw [List.lookup_cons, e'.1]
    exact fieldOf_no e'.2
theorem put_len {f : Str} {y : Val} : ∀ {ks : List Str} {xs : List Val}, ks.length = xs.length → (putK f ks).length = (putX f y ks xs).length
  | [], [], _ => rfl
  | [], _ :: _, e => by cases e
  | g :: ks, [], e => by cases e
  | g :: ks, x :: xs, e => by
    unfold putK putX
    by_cases h : g = f
    · rw [if_pos h, if_pos h]
      exact e
    · rw [if_neg h, if_neg h, List.length_cons, List.length_cons, put_len (Nat.succ.inj e)]
theorem put_rep {f : Str} {y : Val} {v : V} (hy : RepV k W H y v) : ∀ {ks : List Str} {xs : List Val} {vs : List V}, ks.length = xs.length → RepL k W H xs vs → ∃ us, putF f v (ks.zip vs) = (putK f ks).zip us ∧ RepL k W H (putX f y ks xs) us
  | [], [], vs, _, r => by
    have e : vs = [] := r
    rw [e]
    exact ⟨[v], rfl, RepL.cons hy rfl⟩
  | [], _ :: _, _, e, _ => by cases e
  | g :: ks, [], _, e, _ => by cases e
  | g :: ks, x :: xs, vs, e, r => by
    obtain ⟨u, us, rfl, r1, r2⟩ := r
    show ∃ us', putF f v ((g, u) :: ks.zip us) = _ ∧ _
    unfold putF putK putX
    by_cases h : g = f
    · rw [if_pos h, if_pos h, if_pos h]
      exact ⟨v :: us, rfl, RepL.cons hy r2⟩
    · rw [if_neg h, if_neg h, if_neg h]
      obtain ⟨ws, e1, e2⟩ := put_rep hy (Nat.succ.inj e) r2
      exact ⟨u :: ws, by rw [e1]; rfl, RepL.cons r1 e2⟩
end
/-- o.f -/
def fldV (own : Str → Bool) (f : Str) (st : Sto) (a : Val) : Option Val := match a with
  | .ins c ks xs => if own c then fieldOf f ks xs else none
  | .ref i => match st[i]? with
    | some (.ins c ks xs) => if own c then fieldOf f ks xs else none
    | _ => none
  | _ => none
/-- o.f = v -/
def sFldV (own : Str → Bool) (f : Str) (mo mv : M Val) : S := sBnd mv fun y => sBnd mo fun a env st => match a with
  | .ref i => match st[i]? with
    | some (.ins c ks xs) => if own c = true ∧ ks.length < 900 then some (.next, env, st.set i (.ins c (putK f ks) (putX f y ks xs))) else none
    | _ => none
  | _ => none
section
variable {X : Cx} {k : Kx} {E : WX} {pos p : Pos} {e o : Expr} {es : List Expr} {ms : M (List Val)}
theorem fldV_rep {own : Str → Bool} {f : Str} {W : Wd} {H : Hp} {st : Sto} {a c : Val} {x : V} (hk : Ok k W H st) (r : RepV k W H a x) (e : fldV own f st a = some c) : ∃ a C dx fs v cn, x = .ref a ∧ H a = some (.ins C dx fs) ∧ fs.lookup f = some v ∧ RepV k W H c v ∧ own cn = true ∧ C = k.cl cn := by
  cases a with
  | ins cn ks xs =>
    unfold fldV at e
    dsimp only at e
    split at e
    · rename_i ho
      obtain ⟨p, dx, vs, e1, f1, s, n1, r1⟩ := r
      obtain ⟨v, l, rv⟩ := fieldOf_rep r1 e
      exact ⟨p, _, dx, _, v, cn, e1, s, l, rv, ho, rfl⟩
    · cases e
  | ref i =>
    unfold fldV at e
    dsimp only at e
    split at e
    · rename_i cn ks xs hx
      split at e
      · rename_i ho
        obtain ⟨p, e1, hp⟩ := r
        obtain ⟨dx, vs, s, n1, r1⟩ := hk.obj i _ p hx hp
        obtain ⟨v, l, rv⟩ := fieldOf_rep r1 e
        exact ⟨p, _, dx, _, v, cn, e1, s, l, rv, ho, rfl⟩
      · cases e
    · cases e
  | _ => cases e
theorem me_fld {own : Str → Bool} {f : Str} {m : M Val} (hown : ∀ c, own c = true → Cls k.K (k.cl c) ∧ NoAttr k.K (k.cl c) f) (he : PE X e (tM k E m)) (hb : attributeBase e f X.env (eval e X.env) = eval e X.env := by rfl) (hk : X.K = k.K := by rfl) : PE X (.Attribute e f pos) (tM k E (un (fldV own f) m)) :=
  imp (pe_fld he hb) fun σ H Q h => tG.mono (tG.bnd (R1 := RepV k) h) fun x H1 ⟨W, b, rb, h3⟩ => by
    obtain ⟨c, st, e, o, q⟩ := h3.lift
    obtain ⟨a, C, dx, fs, v, cn, e1, e2, e3, rv, ho, rfl⟩ := fldV_rep o rb e
    rw [hk]
    exact ⟨a, _, dx, fs, v, e1, e2, (hown cn ho).1, (hown cn ho).2, e3, q W H1 v (Le.refl _ _) o rv⟩
theorem ms_fld {own : Str → Bool} {f : Str} {mo mv : M Val} {pos' : Pos} (hown : ∀ c, own c = true → Cls k.K (k.cl c) ∧ NoAttr k.K (k.cl c) f) (ho : PE X o (tM k E mo)) (hv : PE X e (tM k E mv)) (hs : swapsWith e (some (.Attribute o f pos')) pos.line X.env = pure false := by rfl) (hk : X.K = k.K := by rfl) : PS X (.Assign [.Attribute o f pos'] e pos) (tS k E (sFldV own f mo mv)) :=
  impS (ps_fld ho hv hs) fun D σ H q => tG.mono (tS.bnd (R := RepV k) q) fun x H1 ⟨W, v, rv, h1⟩ =>
    tG.mono (AtS.bnd (R := RepV k) (fun W H => RepV k W H v x) (fun l r => r.le l) rv h1) fun y H2 ⟨W2, a, rv2, ra, env, st, o, g1, g2, g3, g4⟩ => by
      cases a with
      | ref i =>
        dsimp only at g3
        split at g3
        · rename_i c ks xs hx
          split at g3
          · rename_i hc
            cases g3
            obtain ⟨p, e1, hp⟩ := ra
            obtain ⟨dx, vs, hv, n1, rvs⟩ := g1.obj i _ p hx hp
            obtain ⟨us, e2, r2⟩ := put_rep (f := f) rv2 n1 rvs
            have ndf : ¬ W2.fz p := g1.apart p (List.mem_of_getElem? hp)
            obtain ⟨le, o'⟩ := g1.put (u := .ins c (putK f ks) (putX f v ks xs)) (o' := .ins (k.cl c) dx ((putK f ks).zip us)) hp hv (fun z => z) ⟨dx, us, upd_same, put_len n1, r2.le (g1.putLe hp hv fun z => z)⟩
            rw [hk]
            refine ⟨p, k.cl c, dx, _, e1, hv, (hown c hc.1).1, (hown c hc.1).2, ?_, ?_⟩
            · rw [List.length_zip]
              omega
            · rw [e2]
              exact g4 W2 _ σ le o' (g2.le le)
          · cases g3
        · cases g3
      | _ => cases g3
/-! ### methods -/
def tMthS (C : Addr) (m : Str) (sp : Sp) (dvs : List V) (E : L2.St → XK) (ta : TE) (t : TA) : TE := fun σ H Q => ta σ H fun x H1 => ∃ a dx fs, x = .ref a ∧ H1 a = some (.ins C dx fs) ∧ fs.lookup m = none ∧ t σ H1 fun vs H2 => sp (x :: (vs ++ dvs)) H2 Q (E σ)
theorem pe_mthS {CX : CXT} {kk : Nat} {C f : Addr} {m : Str} {fd : FuncData} {ps : List Str} {sp : Sp} {ds : List Value} {dvs : List V} {F : L2.St → XK} {ta : TE} {t : TA} {apos : Pos} {pl : Sem Bool} (he : PE X o ta) (c : Cls X.K C) (hm : Meth X.K C m f) (G : FnOk X.prog X.w X.K X.mg X.base CX kk f fd ps sp) (hr : Room kk X.A) (hb : Binds X.K fd ps ds) (hd : Vals dvs ds)
    (hx : ∀ σ, PassesAt CX X σ (F σ)) (ha : PA X (e :: es) t) (hst : starEach (e :: es) X.env = (false, eval e X.env) :: starEach es X.env := by rfl) (hpl : (backTo pos (starEach es X.env)).any (·.1) = false := by rfl)
    (ht : eval (.Call (.Attribute o m apos) (e :: es) [] pos) X.env = (do
      let recv ← eval o X.env
      standAt apos.atName
      let (g, first) ← holding [recv] (getMethod recv m pl)
      callWith pos g first (backTo pos (starEach (e :: es) X.env)) (backToKw pos (keywordEach [] X.env))) := by rfl) : PE X (.Call (.Attribute o m apos) (e :: es) [] pos) (tMthS C m sp dvs F ta t) := by
  refine ⟨fun pins s σ H Q I h => PySem.W.methodCall_KW (pl := pl) (thn (he.run pins s σ H _ I h) fun u s1 ⟨x, H1, I1, rx, a, dx, fs, ex, ea, l, q⟩ => ?_) ht⟩
  subst ex
  have eu : u = Value.ref a := rx
  subst eu
  refine getmeth_ok I1 ea c hm l (PySem.W.callWith_K (first := [.ref a]) (h₀ := X.base) I.ok.mod.kin hm.kp (thn (ha.run pos pins s1 σ H1 _ I1 q) fun us s2 ⟨vs, H2, I2, r, q2⟩ => ⟨I2.kIn, ?_⟩) hst hpl)
  exact run_fnSD (us := .ref a :: us) (vs := .ref a :: vs) G hr hb hd (hx σ) I2 (.cons rfl r) q2
/-- the class of an instance, its fields' names -/
def clsAt (st : Sto) : Val → Option (Str × List Str)
  | .ins c ks _ => some (c, ks)
  | .ref i => match st[i]? with
    | some (.ins c ks _) => some (c, ks)
    | _ => none
  | _ => none
def isOf (c m : Str) (st : Sto) (a : Val) : Bool := match clsAt st a with
  | some (c', ks) => c' == c && !ks.contains m
  | none => false
theorem isOf_rep {c m : Str} {W : Wd} {H : Hp} {st : Sto} {a : Val} {x : V} (hk : Ok k W H st) (r : RepV k W H a x) (e : isOf c m st a = true) : ∃ p dx fs, x = .ref p ∧ H p = some (.ins (k.cl c) dx fs) ∧ fs.lookup m = none := by
  unfold isOf at e
  split at e
  · rename_i c' ks hc
    have e' := Bool.and_eq_true_iff.mp e
    have ec : c' = c := eq_of_beq e'.1
    subst ec
    have en : ks.contains m = false := by simpa using e'.2
    cases a with
    | ins d ls xs =>
      cases hc
      obtain ⟨p, dx, vs, e1, f1, s, n1, r1⟩ := r
      exact ⟨p, dx, _, e1, s, fieldOf_no en⟩
    | ref i =>
      unfold clsAt at hc
      dsimp only at hc
      split at hc
      · rename_i d ls xs hx
        cases hc
        obtain ⟨p, e1, hp⟩ := r
        obtain ⟨dx, vs, s, n1, r1⟩ := hk.obj i _ p hx hp
        exact ⟨p, dx, _, e1, s, fieldOf_no en⟩
      · cases hc
    | _ => cases hc
  · cases e
/-- o.m(..): P: the store stays; M: with the store -/
def methP (c m : Str) (n : Nat) (cf : CF) (ds : List Val) (mo : M Val) (ms : M (List Val)) : M Val := bnd mo fun a => fun env st => if isOf c m st a then bnd ms (fun us _ st => if (a :: (us ++ ds)).length = n then runP cf (a :: (us ++ ds)) st else none) env st else none
def methM (c m : Str) (n : Nat) (cf : CF) (ds : List Val) (mo : M Val) (ms : M (List Val)) : M Val := bnd mo fun a => fun env st => if isOf c m st a then bnd ms (fun us _ st => if (a :: (us ++ ds)).length = n then cf (a :: (us ++ ds)) st else none) env st else none
theorem methP_read {c m : Str} {n : Nat} {cf : CF} {ds : List Val} {dvs : List V} {mo : M Val} (hd : ∀ W H, RepL k W H ds dvs) {σ : L2.St} {H : Hp} {Q : VK} (h : tM k E (methP c m n cf ds mo ms) σ H Q) : tMthS (k.cl c) m (spM k n cf) dvs (WE E) (tM k E mo) (tMa k E ms) σ H Q :=
  tG.mono (tG.bnd (R1 := RepV k) h) fun x H1 ⟨W, a, ra, env, st, o, h1, h2, h3, h4⟩ => by
    dsimp only at h3
    split at h3
    · rename_i hi
      obtain ⟨p, dx, fs, e1, e2, e3⟩ := isOf_rep h1 ra hi
      refine ⟨p, dx, fs, e1, e2, e3, ?_⟩
      refine tG.mono ((At.bnd (R1 := RepL k) (W := W) (fun W H => RepV k W H a x) (fun l r => r.le l) ra ⟨env, st, o, h1, h2, h3, h4⟩)) fun vs H2 ⟨W2, us, ra2, ru, env2, st2, o2, g1, g2, g3, g4⟩ => ?_
      dsimp only at g3
      split at g3
      · rename_i hl
        exact runP_sp hl g1 (RepL.cons ra2 (ru.append (hd W2 H2))) g3 g4
      · cases g3
    · cases h3
section
variable {c m : Str} {kk n : Nat} {f : Addr} {fd : FuncData} {ps : List Str} {cf : CF} {ds : List Val} {dvs : List V} {dus : List Value} {mo : M Val} {apos : Pos} {pl : Sem Bool}
theorem me_methP (he : PE X o (tM k E mo)) (cl : Cls X.K (k.cl c)) (hm : Meth X.K (k.cl c) m f) (G : FnOk X.prog X.w X.K X.mg X.base (L2.CX X.prog X.w) kk f fd ps (spM k n cf)) (hr : Room kk X.A) (hb : Binds X.K fd ps dus) (hv : Vals dvs dus) (hd : ∀ W H, RepL k W H ds dvs) (tk : Takes X E)
    (ha : PA X (e :: es) (tMa k E ms)) (hst : starEach (e :: es) X.env = (false, eval e X.env) :: starEach es X.env := by rfl) (hpl : (backTo pos (starEach es X.env)).any (·.1) = false := by rfl)
    (ht : eval (.Call (.Attribute o m apos) (e :: es) [] pos) X.env = (do
      let recv ← eval o X.env
      standAt apos.atName
      let (g, first) ← holding [recv] (getMethod recv m pl)
      callWith pos g first (backTo pos (starEach (e :: es) X.env)) (backToKw pos (keywordEach [] X.env))) := by rfl) : PE X (.Call (.Attribute o m apos) (e :: es) [] pos) (tM k E (methP c m n cf ds mo ms)) :=
  imp (pe_mthS he cl hm G hr hb hv (fun σ => passAt tk σ) ha hst hpl ht) fun σ H Q h => methP_read hd h
end
/-! ### instances made -/
def tMkS (C : Addr) (sp : Sp) (dvs : List V) (E : L2.St → XK) (t : TA) : TE := fun σ H Q => t σ H fun vs H1 => ∀ x dx, H1 x = none → H1 dx = none → dx ≠ x → sp (.ref x :: (vs ++ dvs)) (upd (upd H1 dx (.own x)) x (.ins C dx [])) (fun v H2 => v = .non ∧ Q (.ref x) H2) (E σ)
theorem run_mkS {CX : CXT} {kk : Nat} {C f : Addr} {fd : FuncData} {ps : List Str} {sp : Sp} {ds : List Value} {dvs : List V} {F : XK} {pins : List (Addr × Obj)} {σ : L2.St} {H : Hp} {s : Shared} {Q : VK} {us : List Value} {vs : List V} (M : Mk X.K C f) (G : FnOk X.prog X.w X.K X.mg X.base CX kk f fd ps sp) (hr : Room (kk + 1) X.A) (hb : Binds X.K fd ps ds) (hd : Vals dvs ds) (hx : PassesAt CX X σ F) (I : Inv X pins σ H s) (r : Vals vs us)
    (h : ∀ x dx, H x = none → H dx = none → dx ≠ x → sp (.ref x :: (vs ++ dvs)) (upd (upd H dx (.own x)) x (.ins C dx [])) (fun v H2 => v = .non ∧ Q (.ref x) H2) F) : wpAny (model X.prog X.w) X.A (call (.ref C) us) (EP X pins σ Q) X.xe s := by
  have hq := h (s.heap.objs.size + 1) s.heap.objs.size (I.hok.fresh (Nat.le_succ _)) (I.hok.fresh (Nat.le_refl _)) (Nat.ne_of_lt (Nat.lt_succ_self _))
  have J := Inv.made (C := C) I
  have rr : Vals (V.ref (s.heap.objs.size + 1) :: (vs ++ dvs)) (Value.ref (s.heap.objs.size + 1) :: (us ++ ds)) := .cons rfl (r.append hd)
  have hl : (Value.ref (s.heap.objs.size + 1) :: us ++ ds).length = ps.length := rr.length.symm.trans (G.len _ _ _ _ hq)
  refine wpAny_call (make_map (f := f) I.kIn M.makes M.init (beq_iff_eq.mp M.fn) (codeAny_mono (G.run _ X.stack _ _ ⟨Value.ref (s.heap.objs.size + 1) :: us, []⟩ (Value.ref (s.heap.objs.size + 1) :: (us ++ ds)) _ _ F (hr.make C us []) (J.env0.make C us []) (hb _ (Value.ref (s.heap.objs.size + 1) :: us) J.kIn hl) rr hq) fun res s' hq' => ?_))
  match res, hq' with
  | .error e, z => exact hx pins _ _ e s' J z
  | .ok (.ret u), z =>
    obtain ⟨v, H', K3, rv, ev, q3⟩ := J.after z
    subst ev
    exact ⟨rv, ⟨V.ref (s.heap.objs.size + 1), H', K3, rfl, q3⟩⟩
  | .ok .next, z => exact z.elim
  | .ok .brk, z => exact z.elim
  | .ok .cont, z => exact z.elim
theorem pe_mkS {CX : CXT} {kk : Nat} {C f : Addr} {x : Str} {fd : FuncData} {ps : List Str} {sp : Sp} {ds : List Value} {dvs : List V} {F : L2.St → XK} {t : TA} (M : Mk X.K C f) (G : FnOk X.prog X.w X.K X.mg X.base CX kk f fd ps sp) (hr : Room (kk + 1) X.A) (hg : Gl X x) (hm : X.mg x = some (.ref C)) (hb : Binds X.K fd ps ds) (hd : Vals dvs ds) (hx : ∀ σ, PassesAt CX X σ (F σ))
    (ha : PA X (e :: es) t) (hdb : (x == ("__debug__" : Str)) = false := by decide) (he : starEach (e :: es) X.env = (false, eval e X.env) :: starEach es X.env := by rfl) (hpl : (backTo pos (starEach es X.env)).any (·.1) = false := by rfl) : PE X (.Call (.Name x p) (e :: es) [] pos) (tMkS C sp dvs F t) :=
  ⟨fun pins s σ H Q I h => wpAny_Call_Name_kw (ld_glob I hg hm (PySem.W.callWith_K (h₀ := X.base) I.ok.mod.kin M.kp (thn (ha.run pos pins s σ H _ I h) fun us s1 ⟨vs, H1, I1, r, q⟩ => ⟨I1.kIn, run_mkS M G hr hb hd (hx σ) I1 r q⟩) he hpl) hdb)⟩
/-- C(..), an instance that never changes: what __init__ leaves at its store's first place -/
def outMk (c : Str) (q : List Val → Bool) (st : Sto) : Option (Except Exc Val × Sto) → Res Val
  | some (.ok .non, st') => match (st' : List SO)[0]? with
    | some (SO.ins c' ks xs) => if c' = c ∧ q xs = true then some (.ok (.ins c ks xs), st) else none
    | _ => none
  | some (.ok _, _) => none
  | some (.error x, _) => if q x.xs then some (.error x, st) else none
  | none => none
def runMk (c : Str) (cf : CF) (us : List Val) (st : Sto) : Res Val := if noRefs us then outMk c noRefs st (cf (.ref 0 :: us) [.ins c [] []]) else match snaps st us with
  | some ws => outMk c stills st (cf (.ref 0 :: ws) [.ins c [] []])
  | none => none
def makeP (c : Str) (n : Nat) (cf : CF) (ds : List Val) (ms : M (List Val)) : M Val := bnd ms fun us _ st => if (us ++ ds).length + 1 = n then runMk c cf (us ++ ds) st else none
/-- one that changes -/
def makeM (c : Str) (n : Nat) (cf : CF) (ds : List Val) (ms : M (List Val)) : M Val := bnd ms fun us _ st => if (us ++ ds).length + 1 = n then match cf (.ref st.length :: (us ++ ds)) (st ++ [.ins c [] []]) with
  | some (.ok .non, st') => some (.ok (.ref st.length), st')
  | some (.ok _, _) => none
  | some (.error x, st') => some (.error x, st')
  | none => none else none
theorem Ok.begin {c : Str} {b : Bool} {W : Wd} {H : Hp} {st : Sto} {x dx : Addr} (o : Ok k W H st) (hx : H x = none) (hd : H dx = none) (ne : dx ≠ x) : Ok k (W.sub b H [x]) (upd (upd H dx (.own x)) x (.ins (k.cl c) dx [])) [.ins c [] []] := by
  refine ⟨by simp [Wd.sub], rfl, fun p f => ?_, fun p m f => ?_, fun i u q e1 e2 => ?_⟩
  · have hn : H p ≠ none := by
      rcases f with f | ⟨_, _, vs, e⟩
      · exact o.fzs p f
      · rw [e]
        exact fun z => nomatch z
    exact upd_dom (upd_dom hn)
  · have e : p = x := List.mem_singleton.mp m
    subst e
    rcases f with f | ⟨_, _, vs, e⟩
    · exact o.fzs p f hx
    · rw [hx] at e
      cases e
  · cases i with
    | zero =>
      cases e1
      cases e2
      exact ⟨dx, [], upd_same, rfl, rfl⟩
    | succ i => simp at e1
theorem sub_up {b : Bool} {W : Wd} {H : Hp} {x dx : Addr} {o o' : HO} {us : List Val} {vs : List V} (hx : H x = none) (hd : H dx = none) (ne : dx ≠ x) (h : RepL k (W.sub b H [x]) H us vs) : RepL k (W.sub b H [x]) (upd (upd H dx o) x o') us vs :=
  (h.le (Le.new (o := o) hd)).le (Le.new (o := o') (by rw [upd_ne (fun z => ne z.symm)]; exact hx))
theorem runMk_sp {c : Str} {n : Nat} {cf : CF} {us : List Val} {vs : List V} {st : Sto} {W : Wd} {H : Hp} {Q : VK} {F : XK} {o : Except Exc Val × Sto} {x dx : Addr} (hn : us.length + 1 = n) (h1 : Ok k W H st) (r : RepL k W H us vs) (h3 : runMk c cf us st = some o) (h4 : Fin k (RepV k) F W H Q o) (hx : H x = none) (hd : H dx = none) (ne : dx ≠ x) :
    spM k n cf (.ref x :: vs) (upd (upd H dx (.own x)) x (.ins (k.cl c) dx [])) (fun v H2 => v = .non ∧ Q (.ref x) H2) F := by
  have up : ∀ p u, H p = some u → upd (upd H dx (.own x)) x (.ins (k.cl c) dx []) p = some u := fun p u e => by
    rw [upd_ne (ne_of_none e hx), upd_ne (ne_of_none e hd)]
    exact e
  have dn : ∀ p, upd (upd H dx (.own x)) x (.ins (k.cl c) dx []) p = none → H p = none := fun p e => by
    cases q : H p with
    | none => rfl
    | some u =>
      rw [up p u q] at e
      cases e
  have rf : ∀ b, RepV k (W.sub b H [x]) (upd (upd H dx (.own x)) x (.ins (k.cl c) dx [])) (.ref 0) (.ref x) := fun b => ⟨x, rfl, rfl⟩
  have key : ∀ b W' H' st', Le (W.sub b H [x]) W' (upd (upd H dx (.own x)) x (.ins (k.cl c) dx [])) H' → Ok k W' H' st' → _ := fun b W' H' st' l o' =>
    h1.back (x := fun p => p = x) up (fun p z => by rw [List.mem_singleton.mp z]; exact hx) (fun p z => ⟨by rw [z]; exact hx, by rw [z]; exact l.dom x (by rw [upd_same]; exact fun z => nomatch z)⟩) l o'.fzs dn
  have at0 : ∀ b W' H' (st' : Sto), Le (W.sub b H [x]) W' (upd (upd H dx (.own x)) x (.ins (k.cl c) dx [])) H' → W'.rho[0]? = some x := fun b W' H' st' l => l.at rfl
  unfold runMk at h3
  split at h3
  · rename_i hr
    cases q : cf (.ref 0 :: us) [.ins c [] []] with
    | none =>
      rw [q] at h3
      cases h3
    | some y =>
      rw [q] at h3
      obtain ⟨y, st'⟩ := y
      refine ⟨W.sub false H [x], .ref 0 :: us, [.ins c [] []], _, hn, h1.begin hx hd ne, RepL.cons (rf _) (sub_up hx hd ne (r.other (fun p f => Or.inl f) hr)), q, ?_⟩
      cases y with
      | error z =>
        dsimp only [outMk] at h3
        split at h3
        · rename_i hv
          cases h3
          intro W' H' u d l o' ru
          obtain ⟨a1, a2, a3, a4⟩ := key false W' H' st' l o'
          refine h4 _ H' u d a1 a2 ⟨ru.1, ru.2.1, ?_⟩
          rcases ru.2.2 with z | ⟨a, vs, z1, z2, z3⟩
          · exact .inl z
          · exact .inr ⟨a, vs, z1, z2, z3.back a3 (a4 rfl) hv⟩
        · cases h3
      | ok v =>
        cases v with
        | non =>
          dsimp only [outMk] at h3
          split at h3
          · rename_i c' ks xs h0
            split at h3
            · rename_i hv
              obtain ⟨rfl, hv⟩ := hv
              cases h3
              intro W' H' u l o' ru
              refine ⟨ru, ?_⟩
              obtain ⟨a1, a2, a3, a4⟩ := key false W' H' st' l o'
              obtain ⟨dy, ws, g1, g2, g3⟩ := o'.obj 0 _ x h0 (at0 false W' H' st' l)
              exact h4 _ H' _ a1 a2 ⟨x, dy, ws, rfl, .inr rfl, g1, g2, g3.back a3 (a4 rfl) hv⟩
            · cases h3
          · cases h3
        | _ => cases h3
  · split at h3
    · rename_i ws hw
      cases q : cf (.ref 0 :: ws) [.ins c [] []] with
      | none =>
        rw [q] at h3
        cases h3
      | some y =>
        rw [q] at h3
        obtain ⟨y, st'⟩ := y
        refine ⟨W.sub true H [x], .ref 0 :: ws, [.ins c [] []], _, by rw [List.length_cons, snaps_len hw]; exact hn, h1.begin hx hd ne, RepL.cons (rf _) (sub_up hx hd ne (snaps_rep h1 r hw)), q, ?_⟩
        cases y with
        | error z =>
          dsimp only [outMk] at h3
          split at h3
          · rename_i hv
            cases h3
            intro W' H' u d l o' ru
            obtain ⟨a1, a2, a3, a4⟩ := key true W' H' st' l o'
            refine h4 _ H' u d a1 a2 ⟨ru.1, ru.2.1, ?_⟩
            rcases ru.2.2 with z | ⟨a, vs, z1, z2, z3⟩
            · exact .inl z
            · exact .inr ⟨a, vs, z1, z2, z3.backS a3 hv⟩
          · cases h3
        | ok v =>
          cases v with
          | non =>
            dsimp only [outMk] at h3
            split at h3
            · rename_i c' ks xs h0
              split at h3
              · rename_i hv
                obtain ⟨rfl, hv⟩ := hv
                cases h3
                intro W' H' u l o' ru
                refine ⟨ru, ?_⟩
                obtain ⟨a1, a2, a3, a4⟩ := key true W' H' st' l o'
                obtain ⟨dy, ws, g1, g2, g3⟩ := o'.obj 0 _ x h0 (at0 true W' H' st' l)
                exact h4 _ H' _ a1 a2 ⟨x, dy, ws, rfl, .inr rfl, g1, g2, g3.backS a3 hv⟩
              · cases h3
            · cases h3
          | _ => cases h3
    · cases h3
section
variable {c x : Str} {kk n : Nat} {f : Addr} {fd : FuncData} {ps : List Str} {cf : CF} {ds : List Val} {dvs : List V} {dus : List Value}
theorem makeP_read (hd : ∀ W H, RepL k W H ds dvs) {σ : L2.St} {H : Hp} {Q : VK} (h : tM k E (makeP c n cf ds ms) σ H Q) : tMkS (k.cl c) (spM k n cf) dvs (WE E) (tMa k E ms) σ H Q :=
  tG.mono (tG.bnd (R1 := RepL k) h) fun vs H1 ⟨W, us, ru, env, st, o, h1, h2, h3, h4⟩ a dx ha hdx ne => by
    dsimp only at h3
    split at h3
    · rename_i hl
      exact runMk_sp hl h1 (ru.append (hd W H1)) h3 h4 ha hdx ne
    · cases h3
theorem me_makeP (M : Mk X.K (k.cl c) f) (G : FnOk X.prog X.w X.K X.mg X.base (L2.CX X.prog X.w) kk f fd ps (spM k n cf)) (hr : Room (kk + 1) X.A) (hg : Gl X x) (hm : X.mg x = some (.ref (k.cl c))) (hb : Binds X.K fd ps dus) (hv : Vals dvs dus) (hd : ∀ W H, RepL k W H ds dvs) (tk : Takes X E)
    (ha : PA X (e :: es) (tMa k E ms)) (hdb : (x == ("__debug__" : Str)) = false := by decide) (he : starEach (e :: es) X.env = (false, eval e X.env) :: starEach es X.env := by rfl) (hpl : (backTo pos (starEach es X.env)).any (·.1) = false := by rfl) : PE X (.Call (.Name x p) (e :: es) [] pos) (tM k E (makeP c n cf ds ms)) :=
  imp (pe_mkS M G hr hg hm hb hv (fun σ => passAt tk σ) ha hdb he hpl) fun σ H Q h => makeP_read hd h
end
end
end Mi
namespace Mi
open PySem PySem.Spec PyProof.Rows L2
/-! ### f-strings -/
def fmtV (_ : Sto) : Val → Option Val
  | .str y => if y.length ≤ LIM then some (.str y) else none
  | .int i => if i.natAbs.log2 < 1920 then some (.str (toString i : String)) else none
  | _ => none
def jsM : List (M Val) → Str → M Val
  | [], acc => ret (.str acc)
  | m :: ms, acc => bnd m fun v => fun env st => match v with
    | .str y => if (acc ++ y).length ≤ LIM then jsM ms (acc ++ y) env st else none
    | _ => none
section
variable {X : Cx} {k : Kx} {E : WX} {pos p : Pos} {e : Expr}
theorem me_fmt {m : M Val} (he : PE X e (tM k E m)) : PE X (.FormattedValue e (-1) none pos) (tM k E (un fmtV m)) :=
  imp (pe_fmt he) fun σ H Q h => tG.mono (tG.bnd (R1 := RepV k) h) fun x H1 ⟨W, b, rb, h3⟩ => by
    obtain ⟨c, st, e, o, q⟩ := h3.lift
    cases b with
    | str y =>
      dsimp only [fmtV] at e
      split at e
      · rename_i hy
        cases e
        exact .inl ⟨y, rb, lim_le hy, q W H1 _ (Le.refl _ _) o rfl⟩
      · cases e
    | int i =>
      dsimp only [fmtV] at e
      split at e
      · rename_i hy
        cases e
        exact .inr ⟨i, rb, hy, q W H1 _ (Le.refl _ _) o rfl⟩
      · cases e
    | _ => cases e
theorem js_read : ∀ {ms : List (M Val)} {acc : Str} {W : Wd} {σ : L2.St} {H : Hp} {Q : VK}, At k (RepV k) E (jsM ms acc) W σ H Q → tJs (ms.map (tM k E)) acc σ H fun out H1 => Q (.str out) H1
  | [], acc, W, σ, H, Q, h => by
    obtain ⟨env, st, o, h1, h2, h3, h4⟩ := h
    cases h3
    exact h4 W H _ (Le.refl _ _) h1 rfl
  | m :: ms, acc, W, σ, H, Q, h => by
    show tM k E m σ H _
    refine (At.bnd (R1 := RepV k) (fun _ _ => True) (fun _ _ => trivial) trivial h).mono fun v H1 ⟨W1, a, _, ra, env, st, o, h1, h2, h3, h4⟩ => ?_
    cases a with
    | str y =>
      dsimp only at h3
      split at h3
      · rename_i hl
        exact ⟨y, ra, lim_le hl, js_read ⟨env, st, o, h1, h2, h3, h4⟩⟩
      · cases h3
    | _ => cases h3
theorem me_joined {v1 v2 : Expr} {rest : List Expr} {ms : List (M Val)} (h : PJ X (v1 :: v2 :: rest) (ms.map (tM k E))) : PE X (.JoinedStr (v1 :: v2 :: rest) pos) (tM k E (jsM ms Str.empty)) :=
  imp (pe_joined h) fun σ H Q ⟨W, h⟩ => js_read h
theorem pj_nil : PJ X [] (([] : List (M Val)).map (tM k E)) := .nil
theorem pj_cons {m : M Val} {ms : List (M Val)} {es : List Expr} (h : PE X e (tM k E m)) (r : PJ X es (ms.map (tM k E))) : PJ X (e :: es) ((m :: ms).map (tM k E)) := .cons h r
end
end Mi
namespace Mi
open PySem PySem.Spec PyProof.Rows L2
/-! ### != by an own __eq__ -/
theorem slot_ne : Slot "object" "__ne__" "object.__ne__" :=
  .of (owner := "object") (n := "__ne__") (by rw [typeLookup_type, builtinLookup_eq_fast]; kernel_rfl) (by decide +kernel) (by decide +kernel) (by decide +kernel)
    (by first | exact .inl (by decide +kernel) | exact .inr (by decide +kernel)) (by rw [isSubtype_type]; kernel_rfl)
section
open PySem.W
variable {prog : Program} {w : World} {A : Around} {E : Value → Shared → Prop} {s : Shared} {K : PySem.W.Frag} {x C f : Addr} {ox : Obj} {od : Option Obj} {b tb : Value}
theorem ifBound_ne {M : Model} {args : List Value} {Q : Option Value → Shared → Prop} (X : K.In s.heap) (I : InstAt s.heap x ox C od) (hs : findIn K (.ref C) "__ne__" = some (some (.builtin "object.__ne__")))
    (h : wpAny M A (call (.builtin "object.__ne__") (.ref x :: args)) (fun v => Q (some v)) E s) : wpAny M A (callSpecialIfBound? (.ref x) "__ne__" args) Q E s := by
  unfold callSpecialIfBound? bindSpecialIfBound?
  refine wpAny_holding (wpAny_bind (wpAny_bind (wpAny_bind (I.type.here ((looks_findIn X hs).here ?_)))))
  simp only [slot_ne.bind]
  have fin : wpAny M A (call (.builtin "object.__ne__") ([.ref x] ++ args) >>= fun r => pure (some r)) Q E s := wpAny_bind (wpAny_mono h (fun _ _ z => wpAny_pure z) fun _ _ z => z)
  refine wpAny_bind (wpAny_askSetting (wpAny_ite ?_))
  split
  · exact wpAny_bind (wpAny_pure (wpAny_pure fin))
  · exact wpAny_tryCatch (wpAny_bind (wpAny_pure (wpAny_pure fin)))
theorem ne_K {Q : Value → Shared → Prop} (hu : A.units + 1 < cLine) (X : K.In s.heap) (I : InstAt s.heap x ox C od) (hb : Looks (model prog w) s.heap (typeOf b) tb) (hn : notFirst K C tb = true)
    (hs : findIn K (.ref C) "__ne__" = some (some (.builtin "object.__ne__"))) (hm : subIn K (.ref C) (.type "object") = some true) (he : findIn K (.ref C) "__eq__" = some (some (.ref f))) (hf : isFn K (.ref f) = true)
    (h : wpAny (model prog w) A.in1 (call (.ref f) [.ref x, b]) (fun v s' => ∃ r, v = .bool r ∧ Q (.bool (!r)) s') E s) : wpAny (model prog w) A (richCompare .NotEq (.ref x) b) Q E s := by
  have one : wpAny (model prog w) A (tryCompare (.ref x) "__ne__" b) (fun r s' => ∃ v, r = some v ∧ Q v s') E s := by
    unfold tryCompare
    refine wpAny_bind (ifBound_ne X I hs ?_)
    refine wpAny_call (codeAny_call_builtin slot_ne.plain F.cmpEntry_ne (check_slot F.cmpKind_ne F.cmpSplit_ne (I.type.andThen (looks_subIn X hm)) (F.cmpArgs_ne _ _) ?_))
    unfold Builtin.«object.__ne__»
    refine wpAny_bind (wpAny_of_eq (a := ((Value.ref x : Value), [b])) (by first | rfl | (simp only [slotArgs]; rfl)) ?_)
    refine wpAny_bind (wpAny_cRoomFor hu ?_)
    refine wpAny_bind (ifBound_K X I he hf (wpAny_mono h (fun v s' hv => ?_) fun _ _ z => z))
    obtain ⟨r, rfl, hq⟩ := hv
    refine wpAny_bind (wpAny_truthy_bool ?_)
    exact wpAny_pure (wpAny_pure ⟨_, rfl, hq⟩)
  unfold richCompare
  simp only [oneThing_ref]
  refine wpAny_holding (wpAny_bind (wpAny_cRoomFor (by omega) ?_))
  refine wpAny_bind (I.type.here (wpAny_bind (hb.here ?_)))
  split
  · rename_i q
    have e : subIn K tb (.ref C) = some false := by
      rcases Bool.or_eq_true_iff.mp hn with e | e
      · rw [beq_iff_eq.mp e] at q
        simp at q
      · exact beq_iff_eq.mp e
    refine wpAny_bind ((looks_subIn X e).here ?_)
    simp only [Bool.false_eq_true, if_false]
    refine wpAny_bind (wpAny_mono one (fun r s' ⟨v, e1, e2⟩ => ?_) fun _ _ z => z)
    subst e1
    exact wpAny_pure e2
  · refine wpAny_bind (wpAny_pure ?_)
    simp only [Bool.false_eq_true, if_false]
    refine wpAny_bind (wpAny_mono one (fun r s' ⟨v, e1, e2⟩ => ?_) fun _ _ z => z)
    subst e1
    exact wpAny_pure e2
end
/-! ### special methods of an own class -/
/-- the class c has the method m, a def that keeps cf -/
structure Own (X : Cx) (k : Kx) (kk : Nat) (c m : Str) (n : Nat) (cf : CF) : Prop where
  ex : ∃ (f : Addr) (fd : FuncData) (ps : List Str), PySem.W.findIn X.K (.ref (k.cl c)) m = some (some (.ref f)) ∧ PySem.W.isFn X.K (.ref f) = true ∧ FnOk X.prog X.w X.K X.mg X.base (L2.CX X.prog X.w) kk f fd ps (spM k n cf) ∧ Binds X.K fd ps []
  ty : ClsT X.K (k.cl c)
/-- a call inside a builtin -/
theorem run_own {X : Cx} {k : Kx} {kk n : Nat} {f : Addr} {fd : FuncData} {ps : List Str} {cf : CF} {A : Around} {pins : List (Addr × Obj)} {σ : L2.St} {H : Hp} {s : Shared} {Q : VK} {vs : List V} {us : List Value} (G : FnOk X.prog X.w X.K X.mg X.base (L2.CX X.prog X.w) kk f fd ps (spM k n cf)) (hb : Binds X.K fd ps []) (hr : Room kk A) (hfr : A.frames = X.A.frames) (I : Inv X pins σ H s) (r : Vals vs us) (h : spM k n cf vs H Q (fun _ _ _ => False)) :
    wpAny (model X.prog X.w) A (call (.ref f) us) (EP X pins σ Q) X.xe s := by
  have e0 : Env0 X.prog X.w X.K X.mg X.base A X.stack s H := by
    have e := I.env0
    exact ⟨by rw [hfr]; exact e.frames, e.mod, e.bs, e.bsz, e.funs, e.frf, e.hok, e.bare⟩
  have hl : us.length = ps.length := by
    rw [← r.length]
    exact G.len _ _ _ _ h
  have b := hb s us I.kIn (by rw [List.append_nil]; exact hl)
  rw [List.append_nil] at b
  refine wpAny_call (codeAny_mono (G.run A X.stack s H ⟨us, []⟩ us vs Q _ hr e0 b r h) fun res s' hq => ?_)
  match res, hq with
  | .error e, ⟨_, _, _, _, _, _, _, _, _, _, _, _, z⟩ => exact z.elim
  | .ok (.ret u), z => exact I.after z
  | .ok .next, z => exact z.elim
  | .ok .brk, z => exact z.elim
  | .ok .cont, z => exact z.elim
/-- the answer of an own method, the store stays -/
def ownR (cf : CF) (us : List Val) (st : Sto) : Option Val := match runP cf us st with
  | some (.ok v, _) => some v
  | _ => none
theorem runP_st {cf : CF} {us : List Val} {st st' : Sto} {v : Val} (h : runP cf us st = some (.ok v, st')) : st' = st := by
  unfold runP at h
  split at h
  · unfold outN at h
    split at h
    · split at h
      · cases h
        rfl
      · cases h
    · split at h
      · cases h
      · cases h
    · cases h
  · split at h
    · unfold outB at h
      split at h
      · split at h
        · cases h
          rfl
        · cases h
      · split at h
        · cases h
        · cases h
      · cases h
    · cases h
theorem ownR_sp {k : Kx} {n : Nat} {cf : CF} {us : List Val} {vs : List V} {st : Sto} {W : Wd} {H : Hp} {Q : VK} {v : Val} {F : XK} (hn : us.length = n) (o : Ok k W H st) (r : RepL k W H us vs) (h : ownR cf us st = some v) (q : ∀ W' H' u, Le W W' H H' → Ok k W' H' st → RepV k W' H' v u → Q u H') : spM k n cf vs H Q F := by
  unfold ownR at h
  split at h
  · rename_i w st' hw
    cases h
    have e := runP_st hw
    subst e
    exact runP_sp hn o r hw q
  · cases h
section
variable {X : Cx} {k : Kx} {kk : Nat}
/-- the type of a value -/
theorem look_ty {pins : List (Addr × Obj)} {σ : L2.St} {H : Hp} {s : Shared} {x : V} {u t : Value} (I : Inv X pins σ H s) (rx : RelV x u) (ty : TyX X.K H x t) : PySem.W.Looks (model X.prog X.w) s.heap (typeOf u) t := by
  obtain ⟨P, z, hP, _⟩ := kit_of I rx ty
  exact z.ty _ _ I.kIn hP
def tyOf (st : Sto) (a : Val) : Option (String ⊕ Str) := match clsAt st a with
  | some (c, _) => some (.inr c)
  | none => (tyName st a).map .inl
theorem tyOf_rep {W : Wd} {H : Hp} {st : Sto} {a : Val} {x : V} {t : String ⊕ Str} (hcl : ∀ c, t = .inr c → ClsT k.K (k.cl c)) (o : Ok k W H st) (r : RepV k W H a x) (e : tyOf st a = some t) : TyX k.K H x (match t with | .inl n => .type n | .inr c => .ref (k.cl c)) := by
  unfold tyOf at e
  split at e
  · rename_i c ks hc
    cases e
    have z := hcl c rfl
    have : ∃ p dx fs, x = .ref p ∧ H p = some (.ins (k.cl c) dx fs) := by
      cases a with
      | ins d ls xs =>
        cases hc
        obtain ⟨p, dx, vs, e1, f1, s, n1, r1⟩ := r
        exact ⟨p, dx, _, e1, s⟩
      | ref i =>
        unfold clsAt at hc
        dsimp only at hc
        split at hc
        · rename_i d ls xs hx
          cases hc
          obtain ⟨p, e1, hp⟩ := r
          obtain ⟨dx, vs, s, n1, r1⟩ := o.obj i _ p hx hp
          exact ⟨p, dx, _, e1, s⟩
        · cases hc
      | _ => cases hc
    obtain ⟨p, dx, fs, rfl, hp⟩ := this
    exact .base (.ins hp z.cl z.ha z.hn z.htk z.hm)
  · cases a with
    | non => cases e; have e1 : x = .non := r; rw [e1]; exact .base .non
    | bl b => cases e; have e1 : x = .bl b := r; rw [e1]; exact .base (.bl b)
    | int b => cases e; have e1 : x = .int b := r; rw [e1]; exact .base (.int b)
    | str b => cases e; have e1 : x = .str b := r; rw [e1]; exact .base (.str b)
    | tup b =>
      cases e
      obtain ⟨p, vs, rfl, s, _⟩ := r
      exact SqT.ty s
    | lst b =>
      cases e
      obtain ⟨p, vs, rfl, f, s, _⟩ := r
      exact .base (.lst s)
    | rol b =>
      cases e
      obtain ⟨p, vs, rfl, s, _⟩ := r
      exact RoL.ty s
    | ins c ks xs => cases e
    | exv c ks xs => cases e
    | lam f c o τ js xs => cases e
    | cls c => cases e
    | tpd xs => cases e
    | ref i =>
      obtain ⟨p, rfl, hp⟩ := r
      unfold tyName at e
      dsimp only at e
      split at e
      · rename_i xs hx
        cases e
        obtain ⟨vs, hv, _⟩ := o.obj i _ p hx hp
        exact .base (.lst hv)
      · cases e
/-! ### == and != of instances -/
def ownB : Option Val → Option Val
  | some (.bl b) => some (.bl b)
  | _ => none
def ownS : Option Val → Option Val
  | some (.str b) => if b.length ≤ LIM then some (.str b) else none
  | _ => none
def ownEq (own : Str → Option CF) (st : Sto) (a b : Val) : Option Val := match clsAt st a with
  | some (c, _) => match own c with
    | some cf => match tyOf st b with
      | some (.inl _) => ownB (ownR cf [a, b] st)
      | some (.inr d) => if d = c then ownB (ownR cf [a, b] st) else none
      | none => none
    | none => none
  | none => none
def eqO (own : Str → Option CF) (st : Sto) (a b : Val) : Option Val := match clsAt st a with
  | some _ => ownEq own st a b
  | none => eqV st a b
def neO (own : Str → Option CF) (st : Sto) (a b : Val) : Option Val := match clsAt st a with
  | some _ => (ownEq own st a b).map fun v => match v with
    | .bl r => .bl (!r)
    | v => v
  | none => neV st a b
/-- what a class with its own __eq__ has -/
structure OwnE (X : Cx) (k : Kx) (kk : Nat) (c : Str) (cf : CF) : Prop where
  eq : Own X k kk c "__eq__" 2 cf
  nf : ∀ n ∈ ["NoneType", "bool", "int", "str", "tuple", "list"], PySem.W.subIn X.K (.type n) (.ref (k.cl c)) = some false
  ne : PySem.W.findIn X.K (.ref (k.cl c)) "__ne__" = some (some (.builtin "object.__ne__"))
  ob : PySem.W.subIn X.K (.ref (k.cl c)) (.type "object") = some true
/-- r: what is made of the answer -/
def rOwn (X : Cx) (k : Kx) (kk : Nat) (g : Bool → Bool) : R2 := fun x y H Q => ∃ (c : Str) (cf : CF) (a dx : Addr) (fs : List (Str × V)) (t : Value), OwnE X k kk c cf ∧ x = .ref a ∧ H a = some (.ins (k.cl c) dx fs) ∧ TyX X.K H y t ∧ PySem.W.notFirst X.K (k.cl c) t = true ∧
  spM k 2 cf [x, y] H (fun v H' => ∃ b, v = .bl b ∧ Q (.bl (g b)) H') (fun _ _ _ => False)
theorem op_ownEq (hr : Room kk X.A) : OpR X (compareOp .Eq) (rOwn X k kk id) := by
  intro pins s σ H x y v u Q I rx ry ⟨c, cf, a, dx, fs, t, O, ex, ha, ty, nf, sp⟩
  subst ex
  have ev : v = Value.ref a := rx
  subst ev
  obtain ⟨f, fd, ps, hs, hf, G, hb⟩ := O.eq.ex
  obtain ⟨mA, J, _⟩ := ins_get I.hok ha
  obtain ⟨od, J, _⟩ := J.look
  obtain ⟨m, hF⟩ := I.fr
  show wpAny (model X.prog X.w) X.A (richCompare .Eq (.ref a) u) (EP X pins σ Q) X.xe s
  refine PySem.W.cmp_K (op := .Eq) hr.units0 hF I.ok.mod.kin J (look_ty I ry ty) nf hs hf ?_
  refine wpAny_mono (run_own (vs := [.ref a, y]) (us := [.ref a, u]) G hb hr rfl I (.cons rfl (.cons ry .nil)) sp) (fun r s' z => ?_) fun _ _ z => z
  obtain ⟨z, H', I', rz, b, ez, q⟩ := z
  subst ez
  have er : r = Value.bool b := rz
  subst er
  exact ⟨.bl b, H', I', rfl, q⟩
theorem op_ownNe (hr : Room (kk + 1) X.A) : OpR X (compareOp .NotEq) (rOwn X k kk not) := by
  intro pins s σ H x y v u Q I rx ry ⟨c, cf, a, dx, fs, t, O, ex, ha, ty, nf, sp⟩
  subst ex
  have ev : v = Value.ref a := rx
  subst ev
  obtain ⟨f, fd, ps, hs, hf, G, hb⟩ := O.eq.ex
  obtain ⟨mA, J, _⟩ := ins_get I.hok ha
  obtain ⟨od, J, _⟩ := J.look
  show wpAny (model X.prog X.w) X.A (richCompare .NotEq (.ref a) u) (EP X pins σ Q) X.xe s
  refine ne_K (by have := hr.units; omega) I.kIn J (look_ty I ry ty) nf O.ne O.ob hs hf ?_
  refine wpAny_mono (run_own (vs := [.ref a, y]) (us := [.ref a, u]) G hb hr.in1 rfl I (.cons rfl (.cons ry .nil)) sp) (fun r s' z => ?_) fun _ _ z => z
  obtain ⟨z, H', I', rz, b, ez, q⟩ := z
  subst ez
  have er : r = Value.bool b := rz
  subst er
  exact ⟨b, rfl, .bl (!b), H', I', rfl, q⟩
theorem ownEq_rd {own : Str → Option CF} (hown : ∀ c cf, own c = some cf → OwnE X k kk c cf) (hk : X.K = k.K) {g : Bool → Bool} {W : Wd} {H : Hp} {st : Sto} {a b : Val} {x y : V} {r : Bool} {Q : VK} (o : Ok k W H st) (ra : RepV k W H a x) (rb : RepV k W H b y) (e : ownEq own st a b = some (.bl r)) (q : ∀ W' H' v, Le W W' H H' → Ok k W' H' st → RepV k W' H' (.bl (g r)) v → Q v H') : rOwn X k kk g x y H Q := by
  unfold ownEq at e
  split at e
  · rename_i c ks hc
    split at e
    · rename_i cf hcf
      have O := hown c cf hcf
      have hin : isOf c "" st a = true ∨ True := .inr trivial
      obtain ⟨p, dx, fs, ex, hp⟩ : ∃ p dx fs, x = .ref p ∧ H p = some (.ins (k.cl c) dx fs) := by
        cases a with
        | ins d ls xs =>
          cases hc
          obtain ⟨p, dx, vs, e1, f1, s, n1, r1⟩ := ra
          exact ⟨p, dx, _, e1, s⟩
        | ref i =>
          unfold clsAt at hc
          dsimp only at hc
          split at hc
          · rename_i d ls xs hx
            cases hc
            obtain ⟨p, e1, hp⟩ := ra
            obtain ⟨dx, vs, s, n1, r1⟩ := o.obj i _ p hx hp
            exact ⟨p, dx, _, e1, s⟩
          · cases hc
        | _ => cases hc
      have fin : ∀ z, ownB (ownR cf [a, b] st) = some z → z = .bl r → spM k 2 cf [x, y] H (fun v H' => ∃ b, v = .bl b ∧ Q (.bl (g b)) H') (fun _ _ _ => False) := fun z ez e2 => by
        subst e2
        unfold ownB at ez
        split at ez
        · rename_i b' hb'
          cases ez
          refine ownR_sp rfl o (RepL.cons ra (RepL.cons rb (show RepL k W H [] [] from rfl))) hb' fun W' H' u l o' ru => ⟨_, ru, q W' H' _ l o' rfl⟩
        · cases ez
      split at e
      · rename_i n hn
        refine ⟨c, cf, p, dx, fs, .type n, O, ex, hp, ?_, ?_, fin _ e rfl⟩
        · have := tyOf_rep (k := k) (t := .inl n) (fun c z => nomatch z) o rb hn
          rw [hk]
          exact this
        · have hm : n ∈ ["NoneType", "bool", "int", "str", "tuple", "list"] := by
            unfold tyOf at hn
            split at hn
            · cases hn
            · cases hb' : tyName st b with
              | none =>
                rw [hb'] at hn
                cases hn
              | some m =>
                rw [hb'] at hn
                cases hn
                cases b with
                | ref i =>
                  unfold tyName at hb'
                  dsimp only at hb'
                  split at hb'
                  · cases hb'
                    decide
                  · cases hb'
                | ins c ks xs => cases hb'
                | exv c ks xs => cases hb'
                | lam f c o τ js xs => cases hb'
                | cls c => cases hb'
                | tpd xs => cases hb'
                | _ =>
                  cases hb'
                  decide
          unfold PySem.W.notFirst
          rw [O.nf n hm]
          simp
      · rename_i d hd
        split at e
        · rename_i hdc
          subst hdc
          refine ⟨d, cf, p, dx, fs, .ref (k.cl d), O, ex, hp, ?_, ?_, fin _ e rfl⟩
          · have := tyOf_rep (k := k) (t := .inr d) (fun c z => by cases z; exact hk ▸ O.eq.ty) o rb hd
            rw [hk]
            exact this
          · unfold PySem.W.notFirst
            simp
        · cases e
      · cases e
    · cases e
  · cases e
theorem ownEq_bl {own : Str → Option CF} {st : Sto} {a b v : Val} (e : ownEq own st a b = some v) : ∃ r, v = .bl r := by
  have key : ∀ o, ownB o = some v → ∃ r, v = .bl r := fun o h => by
    unfold ownB at h
    split at h
    · cases h
      exact ⟨_, rfl⟩
    · cases h
  unfold ownEq at e
  split at e
  · split at e
    · split at e
      · exact key _ e
      · split at e
        · exact key _ e
        · cases e
      · cases e
    · cases e
  · cases e
theorem cu_eqO {own : Str → Option CF} {n : Nat} (hown : ∀ c cf, own c = some cf → OwnE X k kk c cf) (hr : Room n X.A) (hn : kk ≤ n) (hk : X.K = k.K := by rfl) : CmpU X k .Eq (eqO own) := by
  obtain ⟨r, h1, h2⟩ := cu_eq (k := k) hr hk
  refine ⟨orR r (rOwn X k kk id), ?_, OpR.or h2 (op_ownEq (hr.mono hn))⟩
  intro W H st a b x y c Q o ra rb e q
  unfold eqO at e
  split at e
  · obtain ⟨t, rfl⟩ := ownEq_bl e
    exact .inr (ownEq_rd hown hk (g := id) o ra rb e q)
  · exact .inl (h1 W H st a b x y c Q o ra rb e q)
theorem cu_neO {own : Str → Option CF} {n : Nat} (hown : ∀ c cf, own c = some cf → OwnE X k kk c cf) (hr : Room n X.A) (hn : kk + 1 ≤ n) (hk : X.K = k.K := by rfl) : CmpU X k .NotEq (neO own) := by
  obtain ⟨r, h1, h2⟩ := cu_ne (k := k) hr hk
  refine ⟨orR r (rOwn X k kk not), ?_, OpR.or h2 (op_ownNe (hr.mono hn))⟩
  intro W H st a b x y c Q o ra rb e q
  unfold neO at e
  split at e
  · cases h : ownEq own st a b with
    | none =>
      rw [h] at e
      cases e
    | some v =>
      rw [h] at e
      obtain ⟨t, rfl⟩ := ownEq_bl h
      cases e
      exact .inr (ownEq_rd hown hk (g := not) o ra rb h q)
  · exact .inl (h1 W H st a b x y c Q o ra rb e q)
end
end Mi
namespace Mi
open PySem PySem.Spec PyProof.Rows L2
section
variable {X : Cx} {k : Kx} {kk : Nat}
/-- an instance of an own class with the method m -/
def rOwnN (X : Cx) (k : Kx) (kk : Nat) (m : Str) (P : V → Prop) : List V → Hp → VK → Prop := fun xs H Q => ∃ (c : Str) (cf : CF) (a dx : Addr) (fs : List (Str × V)), Own X k kk c m 1 cf ∧ xs = [.ref a] ∧ H a = some (.ins (k.cl c) dx fs) ∧ spM k 1 cf xs H (fun v H' => P v ∧ Q v H') (fun _ _ _ => False)
theorem clsAt_rep {W : Wd} {H : Hp} {st : Sto} {a : Val} {x : V} {c : Str} {ks : List Str} (o : Ok k W H st) (ra : RepV k W H a x) (hc : clsAt st a = some (c, ks)) : ∃ p dx fs, x = .ref p ∧ H p = some (.ins (k.cl c) dx fs) := by
  cases a with
  | ins d ls xs =>
    cases hc
    obtain ⟨p, dx, vs, e1, f1, s, n1, r1⟩ := ra
    exact ⟨p, dx, _, e1, s⟩
  | ref i =>
    unfold clsAt at hc
    dsimp only at hc
    split at hc
    · rename_i d ls xs hx
      cases hc
      obtain ⟨p, e1, hp⟩ := ra
      obtain ⟨dx, vs, s, n1, r1⟩ := o.obj i _ p hx hp
      exact ⟨p, dx, _, e1, s⟩
    · cases hc
  | _ => cases hc
theorem call_ownStr (hr : Room (kk + 2) X.A) : CallR X (.type "str") (rOwnN X k kk "__str__" fun v => ∃ y, v = .str y) := by
  intro pins s σ H xs us Q I r ⟨c, cf, a, dx, fs, O, ex, ha, sp⟩
  subst ex
  obtain ⟨u, rfl, ru⟩ := vals1 r
  have eu : u = Value.ref a := ru
  subst eu
  obtain ⟨f, fd, ps, hs, hf, G, hb⟩ := O.ex
  obtain ⟨mA, J, _⟩ := ins_get I.hok ha
  obtain ⟨od, J, _⟩ := J.look
  refine PySem.W.kso_call (hr.in1.in1).units0 I.kIn J hs hf ?_
  refine wpAny_mono (run_own (vs := [.ref a]) (us := [.ref a]) G hb (hr.in1.in1) rfl I r sp) (fun v s' z => ?_) fun _ _ z => z
  obtain ⟨z, H', I', rz, ⟨y, ez⟩, q⟩ := z
  subst ez
  obtain ⟨t, rfl⟩ := rz
  exact ⟨.str y, H', I', ⟨t, rfl⟩, q⟩
/-- str(x), len(x) -/
def own1 (g : Option Val → Option Val) (f : Sto → List Val → Option Val) (own : Str → Option CF) (st : Sto) (as : List Val) : Option Val := match as with
  | [a] => match clsAt st a with
    | some (c, _) => match own c with
      | some cf => g (ownR cf [a] st)
      | none => none
    | none => f st [a]
  | as => f st as
theorem own1_rd {m : Str} {P : V → Prop} {g : Option Val → Option Val} {f : Sto → List Val → Option Val} {own : Str → Option CF} {r : List V → Hp → VK → Prop} (hg : ∀ o z, g o = some z → o = some z ∧ ∀ W H v, RepV k W H z v → P v) (hown : ∀ c cf, own c = some cf → Own X k kk c m 1 cf) (hf : RdN k f r) : RdN k (own1 g f own) (fun xs H Q => r xs H Q ∨ rOwnN X k kk m P xs H Q) := by
  intro W H st as xs c Q o ra e q
  unfold own1 at e
  split at e
  · rename_i a
    split at e
    · rename_i cn ks hc
      split at e
      · rename_i cf hcf
        obtain ⟨v, rfl, rv⟩ := rep1 ra
        obtain ⟨p, dx, fs, ex, hp⟩ := clsAt_rep o rv hc
        obtain ⟨e1, e2⟩ := hg _ _ e
        exact .inr ⟨cn, cf, p, dx, fs, hown cn cf hcf, by rw [ex], hp, ownR_sp rfl o ra e1 fun W' H' u l o' ru => ⟨e2 W' H' u ru, q W' H' u l o' ru⟩⟩
      · cases e
    · exact .inl (hf W H st _ xs c Q o ra e q)
  · exact .inl (hf W H st _ xs c Q o ra e q)
theorem cu_strO {own : Str → Option CF} {n : Nat} (hown : ∀ c cf, own c = some cf → Own X k kk c "__str__" 1 cf) (hr : Room n X.A) (hn : kk + 2 ≤ n) : CallU X k (.type "str") (own1 ownS strV own) := by
  obtain ⟨r, h1, h2⟩ := cu_str (X := X) (k := k)
  refine ⟨_, own1_rd (fun o z h => ?_) hown h1, CallR_or h2 (call_ownStr (hr.mono hn))⟩
  unfold ownS at h
  split at h
  · split at h
    · cases h
      exact ⟨rfl, fun W H v rv => ⟨_, rv⟩⟩
    · cases h
  · cases h
end
end Mi
namespace Mi
open PySem PySem.Spec PyProof.Rows L2
/-- the statements of a class -/
def clsB (s : Stmt) : List Stmt := match s with
  | .ClassDef _ _ _ b _ _ _ _ _ _ _ => b
  | _ => []
section
variable {k : Kx}
/-- a def with defaults keeps its mirror -/
theorem ok_defD {P : Program} {w : World} {mg : Str → Option Value} {base : Heap} {x qual : Str} {st : Stmt} {dvs : List V} {f : Addr} {fd : FuncData} {N ps : List Str} {j n nN : Nat} {s : S} {c : CF} (F : FunD k.K x qual (defArgs st) (defBody st) (defScope st) dvs [] f fd) (S : FnScope N ps (defScope st)) (hc : c = callS nN s) (hN : N.length = nN) (hn : ps.length = n)
    (body : ∀ (cdv : Value) (A : Around) (outer : List PySem.Env) (s0 : Shared) (H : Hp) (E : XK), Room j (A.deeper (envOfC qual (defScope st) s0.heap.objs.size f cdv)) →
      PSs (cxOf (L2.CX P w) P w k.K mg base N qual (defScope st) f cdv A outer s0 H E) (defBody st) (tS k (fun c d _ H' => E c d H') s)) :
    FnOk P w k.K mg base (L2.CX P w) (j + 1) f fd ps (spM k n c) := by
  subst hc hN
  refine F.ok S (fun vs H Q E h => ?_) (fun cdv A outer s0 H vs Q E hr h => ⟨_, body cdv A outer s0 H E hr, ?_⟩)
  · obtain ⟨W, us, st, o, h0, h1, h2, h3, h4⟩ := h
    rw [h2.len, h0, hn]
  · obtain ⟨W, us, st, o, h0, h1, h2, h3, h4⟩ := h
    unfold callS at h3
    cases e : s (env0 N.length us) st with
    | none =>
      rw [e] at h3
      cases h3
    | some p =>
      obtain ⟨r, env, st'⟩ := p
      rw [e] at h3
      refine ⟨W, _, st, _, h1, RepE.begin h2, e, ?_⟩
      cases r with
      | next =>
        cases h3
        exact fun W' H' σ l o r => h4 W' H' .non l o rfl
      | brk => cases h3
      | cont => cases h3
      | ret v =>
        cases h3
        exact fun W' H' u l o r => h4 W' H' u l o r
      | err x =>
        cases h3
        exact fun W' H' σ c d l o _ r => h4 W' H' c d l o r
end
/-! ### an expression asked over what stands now: lists of the store are read alone -/
/-! ### tables of the own classes -/
def ownL (cs : List Str) (c : Str) : Bool := cs.contains c
theorem ownL_nil {P : Str → Prop} : ∀ c, ownL [] c = true → P c := fun _ h => nomatch h
theorem ownL_cons {P : Str → Prop} {a : Str} {cs : List Str} (h : P a) (r : ∀ c, ownL cs c = true → P c) : ∀ c, ownL (a :: cs) c = true → P c := fun c hc => by
  have e : (c == a || cs.contains c) = true := by
    rw [← List.contains_cons]
    exact hc
  rcases Bool.or_eq_true_iff.mp e with e | e
  · rw [eq_of_beq e]
    exact h
  · exact r c e
def ownT {α : Type} (cs : List (Str × α)) (c : Str) : Option α := cs.lookup c
theorem ownT_nil {α : Type} {P : Str → α → Prop} : ∀ c f, ownT [] c = some f → P c f := fun _ _ h => nomatch h
theorem ownT_cons {α : Type} {P : Str → α → Prop} {a : Str} {g : α} {cs : List (Str × α)} (h : P a g) (r : ∀ c f, ownT cs c = some f → P c f) : ∀ c f, ownT ((a, g) :: cs) c = some f → P c f := fun c f hc => by
  unfold ownT at hc
  rw [List.lookup_cons] at hc
  split at hc
  · rename_i e
    rw [eq_of_beq e]
    cases hc
    exact h
  · exact r c f hc
/-- a class of the text -/
structure ClsK (k : Kx) (c : Str) : Prop where
  t : ClsT k.K (k.cl c)
  kit : ∀ n ∈ tyNames, PySem.W.kitOne k.K (.type n) (.ref (k.cl c)) = some false
structure EqK (k : Kx) (c : Str) : Prop where
  nf : ∀ n ∈ ["NoneType", "bool", "int", "str", "tuple", "list"], PySem.W.subIn k.K (.type n) (.ref (k.cl c)) = some false
  ne : PySem.W.findIn k.K (.ref (k.cl c)) "__ne__" = some (some (.builtin "object.__ne__"))
  ob : PySem.W.subIn k.K (.ref (k.cl c)) (.type "object") = some true
theorem kit_mk {K : PySem.W.Frag} {C : Addr} (ic : PySem.W.isClsIn K C = true) (ty : PySem.W.typeIn K (.ref C) = some (.type "type")) (h : ∀ n ∈ tyNames, PySem.W.subIn K (.type n) (.ref C) = some false) : ∀ n ∈ tyNames, PySem.W.kitOne K (.type n) (.ref C) = some false := fun n hn => by
  unfold PySem.W.kitOne
  rw [if_neg (by simp)]
  show (if ((PySem.W.clsIn K C).isSome && PySem.W.typeIn K (.ref C) == some (.type "type")) = true then PySem.W.subIn K (.type n) (.ref C) else none) = _
  rw [if_pos (by rw [ty]; simpa [PySem.W.isClsIn] using ic)]
  exact h n hn
theorem six {P : String → Prop} (h1 : P "NoneType") (h2 : P "bool") (h3 : P "int") (h4 : P "str") (h5 : P "tuple") (h6 : P "list") : ∀ n ∈ tyNames, P n := fun n hn => by
  simp only [tyNames, List.mem_cons, List.not_mem_nil, or_false] at hn
  rcases hn with rfl | rfl | rfl | rfl | rfl | rfl
  · exact h1
  · exact h2
  · exact h3
  · exact h4
  · exact h5
  · exact h6
/-- isinstance against an own class -/
def isiF (n : String) : Option Bool := if n ∈ tyNames then some false else none
section
variable {X : Cx} {k : Kx} {E : WX} {pos p : Pos}
theorem isiF_ok {c : Str} (h : ClsK k c) : ∀ n b, isiF n = some b → PySem.W.kitOne k.K (.type n) (.ref (k.cl c)) = some b := fun n b e => by
  unfold isiF at e
  split at e
  · rename_i hn
    cases e
    exact h.kit n hn
  · cases e
theorem kit_self {c : Str} (h : ClsK k c) : ClsT k.K (k.cl c) ∧ PySem.W.kitOne k.K (.ref (k.cl c)) (.ref (k.cl c)) = some true := ⟨h.t, by unfold PySem.W.kitOne; rw [if_pos (by simp)]⟩
theorem own_mk {kk kj : Nat} {c m : Str} {n : Nat} {cf : CF} {f : Addr} {fd : FuncData} {ps : List Str} (h : ClsK k c) (M : Meth k.K (k.cl c) m f) (G : FnOk X.prog X.w X.K X.mg X.base (L2.CX X.prog X.w) kj f fd ps (spM k n cf)) (hb : Binds k.K fd ps []) (hj : kj ≤ kk) (hk : X.K = k.K := by rfl) : Own X k kk c m n cf :=
  ⟨⟨f, fd, ps, hk ▸ M.at_, hk ▸ M.fn, G.mono hj, hk ▸ hb⟩, hk ▸ h.t⟩
theorem ownE_mk {kk : Nat} {c : Str} {cf : CF} (O : Own X k kk c "__eq__" 2 cf) (h : EqK k c) (hk : X.K = k.K := by rfl) : OwnE X k kk c cf := ⟨O, hk ▸ h.nf, hk ▸ h.ne, hk ▸ h.ob⟩
end
theorem rl_nil {k : Kx} {W : Wd} {H : Hp} : RepL k W H [] [] := rfl
theorem rl_str {k : Kx} {W : Wd} {H : Hp} {x : Str} {xs : List Val} {vs : List V} (h : RepL k W H xs vs) : RepL k W H (.str x :: xs) (.str x :: vs) := ⟨_, _, rfl, rfl, h⟩
theorem rl_int {k : Kx} {W : Wd} {H : Hp} {x : Int} {xs : List Val} {vs : List V} (h : RepL k W H xs vs) : RepL k W H (.int x :: xs) (.int x :: vs) := ⟨_, _, rfl, rfl, h⟩
end Mi
namespace Mi
open PySem L2
section
variable {env : Env} {st s1 s2 s3 : Sto}
theorem lstOf_ref {i : Nat} {xs : List Val} (h : st[i]? = some (.lst xs)) : lstOf st (.ref i) = some xs := by
  show (match st[i]? with | some (.lst xs) => some xs | _ => none) = _
  rw [h]
theorem lenV_ref {i : Nat} {xs : List Val} (h : st[i]? = some (.lst xs)) : lenV st [.ref i] = some (.int xs.length) := by
  show (lstOf st (.ref i)).map _ = _
  rw [lstOf_ref h]
  rfl
theorem appendV_ref {i : Nat} {xs : List Val} {v : Val} (h : st[i]? = some (.lst xs)) (hl : xs.length < LIM) : appendV st (.ref i) [v] = some (.non, st.set i (.lst (xs ++ [v]))) := by
  show (match st[i]? with | some (.lst xs) => if xs.length < LIM then some (Val.non, st.set i (.lst (xs ++ [v]))) else none | _ => none) = _
  rw [h]
  dsimp only
  rw [if_pos hl]
theorem popAtV_ref {i : Nat} {xs : List Val} {v : Val} {j : Int} (h : st[i]? = some (.lst xs)) (h0 : 0 ≤ j) (h1 : j < xs.length) (h2 : j < 16000000) (hv : xs[j.toNat]? = some v) : popAtV st (.ref i) [.int j] = some (v, st.set i (.lst (xs.eraseIdx j.toNat))) := by
  show (match st[i]? with | some (.lst xs) => if 0 ≤ j ∧ j < xs.length ∧ j < 16000000 then (match xs[j.toNat]? with | some y => some (y, st.set i (.lst (xs.eraseIdx j.toNat))) | none => none) else none | _ => none) = _
  rw [h]
  dsimp only
  rw [if_pos ⟨h0, h1, h2⟩, hv]
theorem map_erase {α β : Type} (f : α → β) : ∀ (xs : List α) (j : Nat), (xs.map f).eraseIdx j = (xs.eraseIdx j).map f
  | [], _ => rfl
  | x :: xs, 0 => rfl
  | x :: xs, j + 1 => by
    show f x :: (xs.map f).eraseIdx j = f x :: (xs.eraseIdx j).map f
    rw [map_erase f xs j]
theorem erase_perm {α : Type} : ∀ (xs : List α) (j : Nat) (h : j < xs.length), (xs[j] :: xs.eraseIdx j).Perm xs
  | x :: xs, 0, _ => List.Perm.refl _
  | x :: xs, j + 1, h => by
    have h' : j < xs.length := Nat.lt_of_succ_lt_succ h
    show (xs[j] :: x :: xs.eraseIdx j).Perm (x :: xs)
    exact (List.Perm.swap x xs[j] _).trans ((erase_perm xs j h').cons x)
end
end Mi
namespace Mi
open PySem PySem.W PySem.Calls PyProof.Rows Builtin Builtin.ObjectAttr
/-! ### error classes of the text: super().__init__(x); self.f = x -/
/-- the two rows of such an __init__ -/
structure SupB (x f : Str) (body : List Stmt) : Prop where
  ex : ∃ p0 p1 p2 p3 p4 p5 p6 p7 p8 p9, (∀ env : PySem.Env, ∃ pl : Sem Bool, PySem.eval (.Call (.Attribute (.Call (.Name "super" p0) [] [] p1) "__init__" p2) [.Name x p3] [] p4) env = (do
      let ov ← attributeBase (.Call (.Name "super" p0) [] [] p1) "__init__" env (PySem.eval (.Call (.Name "super" p0) [] [] p1) env)
      standAt p2.atName
      let (fu, first) ← holding [ov] (getMethod ov "__init__" pl)
      callWith p4 fu first (backTo p4 (starEach [.Name x p3] env)) [])) ∧ body = [.Expr (.Call (.Attribute (.Call (.Name "super" p0) [] [] p1) "__init__" p2) [.Name x p3] [] p4) p5, .Assign [.Attribute (.Name "self" p6) f p7] (.Name x p8) p9]
structure SupS (x : Str) (sc : Scope) : Prop where
  ks : sc.names.lookup ("super" : Str) = some .globalImplicit
  kc : sc.names.lookup ("__class__" : Str) = some .free
  k0 : sc.names.lookup ("self" : Str) = some .local
  kx : sc.names.lookup x = some .local
  nc : ∀ y ∈ sc.names, y.2 ≠ .cell
  co : sc.isCoroutine = false
  gn : sc.isGenerator = false
  kd : sc.kind = .function
/-- what the written part says of the class C whose __init__ stands at fI -/
structure SupC (prog : Program) (K : Frag) (mg : Str → Option Value) (x f : Str) (B newId i : String) (bmB : List Value) (C fI : Addr) : Prop where
  fb : ExcBaseFacts B newId i bmB
  kf : KxsFacts B i
  sf : StoreFacts B bmB "object.__setattr__" "object"
  q : excInitIn K C bmB newId = true
  ov : excOver K C bmB = true
  hd : ∃ cd, clsIn K C = some cd ∧ cd.hasDict = true
  su : ks_superIn K C C "__init__" = some (some (.builtin i))
  op : nsIn K cStatics "thirdparty.any" = some none
  sb : subIn K (.ref C) (.type B) = some true
  sc : mroIn K C (.ref C) = some true
  sa : findIn K (.ref C) "__setattr__" = some (some (.builtin "object.__setattr__"))
  no : takerIn K C f = some none
  bx : subIn K (.ref C) (.type "BaseException") = some true
  ty : typeIn K (.ref C) = some (.type "type")
  kp : keepIn K (.ref C) = true
  ic : findIn K (.ref C) "__init__" = some (some (.ref fI))
  it : typeIn K (.ref fI) = some (.type "function")
  fn : ∃ oc od osl qual params body scope dV kV doc pm an cda ct cc ccl cdd vs ccs file tf cl cld csl, K.lookup fI = some ⟨oc, od, .func (ksFn "__init__" qual params body scope dV kV doc pm an (.ref cda) ct cc), osl⟩ ∧ codeIn K (.ref cda) qual = true ∧
    SupB x f body ∧ SupS x scope ∧ (params.posonlyargs ++ params.args).head?.map (·.arg) = some ("self" : Str) ∧ (∀ a b : Value, bindArgs (ksFn "__init__" qual params body scope dV kV doc pm an (.ref cda) ct cc) ⟨[a, b], []⟩ = (pure [(("self" : Str), a), (x, b)] : Sem (List (Str × Value)))) ∧
    (∀ a b : Value, bindArgs (ksFn "__init__" qual params body scope dV kV doc pm an (.ref cda) ct cc) ⟨[a], [(x, b)]⟩ = (pure [(("self" : Str), a), (x, b)] : Sem (List (Str × Value)))) ∧
    K.lookup cda = some ⟨ccl, cdd, .fields vs, ccs⟩ ∧ vs[2]? = some (.str file tf) ∧ ((prog.main.file : Str) == file) = true ∧ K.lookup cc = some ⟨cl, cld, .cell (some (.ref C)), csl⟩
  sg : mg "super" = none
  tp : (prog.main.scope.names.lookup ("super" : Str)).isSome = false
  xs : (x == ("self" : Str)) = false
  xd : (x == ("__debug__" : Str)) = false
section
variable {prog : Program} {w : World} {A : Around} {E : Value → Shared → Prop} {R : Result → Shared → Prop} {K : Frag} {mg : Str → Option Value} {x f : Str} {B newId i : String} {bmB : List Value} {C fI : Addr}
variable {hp : Heap} {g : Array GenState} {d : Drawn} {t : Nat} {os : OsState}
/-- a field stored at an error that has no dict -/
theorem sup_store (S : SupC prog K mg x f B newId i bmB C fI) {e : Addr} {fv : Array Value} {v : Value} {Q : Unit → Shared → Prop} (X : K.In hp) (he : hp.get? e = some { cls := .ref C, data := .fields fv })
    (hq : ∀ h' tk' dx, (∀ b o, b ≠ e → hp.get? b = some o → h'.get? b = some o) → hp.objs.size ≤ dx → dx ≠ e → h'.get? e = some { cls := .ref C, dict := some dx, data := .fields fv } →
      h'.Ns1 dx (fun y => if y = f then some v else none) → Q () ⟨h', g, d, tk', os⟩) :
    wpAny (model prog w) A (setAttr (.ref e) f v) Q E ⟨hp, g, d, t, os⟩ := by
  have I : InstAt hp e { cls := .ref C, data := .fields fv } C none := ⟨he, rfl, rfl, trivial⟩
  refine set_plain X I S.sa (osa_openX S.sf X I S.ov S.no fun b => ?_)
  obtain ⟨cd, hcd, hh⟩ := S.hd
  have hxs : e ≠ hp.objs.size := Nat.ne_of_lt (Heap.lt_size he)
  have hcls : Looks (model prog w) hp (classData C) cd := looks_clsIn X hcd
  dsimp only
  obtain ⟨nm, bs, mro, ns, qn, hd, sn, sb, ab, col, del⟩ := cd
  dsimp only at hh
  subst hh
  unfold storeInOwnDict ownDictForStores
  repeat (first | with_reducible refine HandSPX.store_in_new ?_ ?_ | with_reducible refine wpAny_loadPart_at he ?_ | with_reducible refine hcls.at ?_ | wp_step)
  · exact ⟨_, #[], _, (Heap.get?_update_ne _ _ _ _ hxs.symm).trans (Heap.get?_push_at rfl rfl), rfl, fun e he => absurd he (by simp), fun _ => rfl⟩
  · intro h' tk' hn' hs
    have he1 : (hp.push { cls := .type "dict", data := .dict #[] }).get? e = some { cls := .ref C, data := .fields fv } := Heap.get?_push_of_some _ he
    refine hq h' tk' hp.objs.size (fun b o hb ho => ?_) (Nat.le_refl _) hxs.symm ?_ hn'
    · exact (hs.2 b (Nat.ne_of_lt (Heap.lt_size ho))).trans ((Heap.get?_update_ne _ _ _ _ hb).trans (Heap.get?_push_of_some _ ho))
    · exact (hs.2 e hxs).trans (Heap.get?_update_self _ he1 rfl)
/-- super().__init__(..), bound and called -/
theorem sup_call (S : SupC prog K mg x f B newId i bmB C fI) {u e t0 : Addr} {rest : List Value} {Q : Value → Shared → Prop} (X : K.In hp) (he : hp.get? e = some (excObj C t0 none .none)) (hu : hp.get? u = some (kxs_mw i e)) (hr : rest.length ≤ sizeLine)
    (hq : ∀ h' t1, (∀ b o, b ≠ e → hp.get? b = some o → h'.get? b = some o) → h'.get? e = some (excObj C t1 none .none) → Q .none ⟨h', g, d, t, os⟩) :
    wpAny (model prog w) A (call (.ref u) rest) Q E ⟨hp, g, d, t, os⟩ := by
  obtain ⟨nm, N', qn, bs, bm, hdct, sn, sub, ab, col, dd, k0, k1, k2, k3, k5, hC, hT⟩ := excInit_of X S.q
  refine wpAny_call (codeAny_of_tree ?_)
  show wpAny _ A.in1 (callAny (.ref u) ⟨rest, []⟩) _ _ _
  simp only [callAny]
  refine wpAny_bind (wpAny_load hu ?_)
  have z1 : (Value.type "method-wrapper" == Value.type "method" || Value.type "method-wrapper" == Value.type "builtin_function_or_method" || Value.type "method-wrapper" == Value.type "method-wrapper") = true := by decide
  simp only [kxs_mw, z1, if_true]
  refine KFB.if_so (by decide) ?_
  refine wpAny_bind (check_bound_init S.fb.toExcCallFacts hC he rfl ?_)
  refine wpAny_bind (wpAny_pure (wpAny_pure ?_))
  refine ⟨plainId_quiet S.fb.init.plain _, codeAny_builtin S.fb.initEntry ?_⟩
  exact exc_init_tree (cls := .ref C) (t0 := t0) (dv := none) (c2 := .none) (c3 := .none) (b4 := .bool false) he hr fun h' k e' _ => hq h' _ k e'
/-- the __init__ called: the error has a dict with its one field -/
theorem sup_initK (S : SupC prog K mg x f B newId i bmB C fI) {e t0 : Addr} {v : Value} {base : Heap} {args : Args} (hargs : args = ⟨[.ref e, v], []⟩ ∨ args = ⟨[.ref e], [(x, v)]⟩) (M : L2.Mod K mg base) (st : ∀ b o, base.get? b = some o → hp.get? b = some o) (hroom : A.depth < recursionLimit) (he : hp.get? e = some (excObj C t0 none .none)) (hbe : base.get? e = none)
    (hq : ∀ h' tk' t1 dx, (∀ b o, b ≠ e → hp.get? b = some o → h'.get? b = some o) → hp.objs.size ≤ dx → dx ≠ e → h'.get? e = some (excObj C t1 (some dx) .none) →
      h'.Ns1 dx (fun y => if y = f then some v else none) → R (.ok (.ret .none)) ⟨h', g, d, tk', os⟩) :
    codeAny (model prog w) A (.call (.ref fI) args) R ⟨hp, g, d, t, os⟩ := by
  have X : K.In hp := M.kin.keeps st
  obtain ⟨oc, od, osl, qual, params, body, scope, dV, kV, doc, pm, an, cda, ct, cc, ccl, cdd, vs, ccs, file, tf, cl, cld, csl, hf, hcd, hB, hS, hself, hbind, hbindK, hcode, hvs, hfile, hcell⟩ := S.fn
  obtain ⟨p0, p1, p2, p3, p4, p5, p6, p7, p8, p9, hev, rfl⟩ := hB.ex
  obtain ⟨pl, hev⟩ := hev (ksEnv qual scope hp.objs.size fI (.ref cda) cc)
  obtain ⟨ar, har, hnm⟩ := Option.map_eq_some_iff.mp hself
  have hxs := S.xs
  have hsx : (("self" : Str) == x) = false := by
    rw [Bool.eq_false_iff]
    intro z
    rw [(beq_iff_eq.mp z : ("self" : Str) = x)] at hxs
    simp at hxs
  refine ks_codeAny_call_defAt (s := ⟨hp, g, d, t, os⟩) (fd := ksFn "__init__" qual params _ scope dV kV doc pm an (.ref cda) ct cc) (body := _) (binds := [("self", .ref e), (x, v)]) hroom (X _ _ hf) rfl (M.nolimit.keeps st) (codeRec_of X hcd) rfl (BindsTo.of_eq (hargs.elim (fun z => z ▸ hbind _ _) fun z => z ▸ hbindK _ _)) hS.nc ?_ (fun h0 hns k0 => ?_) hS.co hS.gn hS.kd
  · intro y hy
    rcases List.mem_cons.mp hy with rfl | hy
    · exact hS.k0
    · rw [List.mem_singleton.mp hy]
      exact hS.kx
  have X0 : K.In h0 := X.keeps k0
  have m0 : (fun y : Str => List.lookup y ([(("self" : Str), Value.ref e), (x, v)] : List (Str × Value)).reverse) ("self" : Str) = some (.ref e) := by
    show List.lookup ("self" : Str) [(x, v), (("self" : Str), Value.ref e)] = _
    simp [List.lookup, hsx]
  have mx : (fun y : Str => List.lookup y ([(("self" : Str), Value.ref e), (x, v)] : List (Str × Value)).reverse) x = some v := by
    show List.lookup x [(x, v), (("self" : Str), Value.ref e)] = _
    simp [List.lookup]
  generalize (fun y : Str => List.lookup y ([(("self" : Str), Value.ref e), (x, v)] : List (Str × Value)).reverse) = m at hns m0 mx
  have hD : ∃ oD cdD, h0.get? C = some oD ∧ oD.data = .cls cdD := by
    obtain ⟨cd, hcd, _⟩ := S.hd
    unfold clsIn at hcd
    split at hcd
    · rename_i c d cd' sl ho
      exact ⟨_, _, X0 _ _ ho, rfl⟩
    · cases hcd
  obtain ⟨oD, cdD, hD1, hD2⟩ := hD
  obtain ⟨mb, hb1, hb2⟩ := M.blt
  have st0 : ∀ b o, base.get? b = some o → h0.get? b = some o := fun b o z => k0 b o (st b o z)
  have he0 := k0 _ _ he
  have eL : e ≠ hp.objs.size := Nat.ne_of_lt (Heap.lt_size he)
  have hi : interactive (ksEnv qual scope hp.objs.size fI (.ref cda) cc) = false := by simp [interactive, hS.kd]
  refine ks_wpAt_execs_cons (ks_wpAt_Expr_any (env := ksEnv qual scope hp.objs.size fI (.ref cda) cc) (ks_wpAt_MethodCall (pl := pl) (env := ksEnv qual scope hp.objs.size fI (.ref cda) cc) (ks_wpAt_super_base (env := ksEnv qual scope hp.objs.size fI (.ref cda) cc) hS.ks hS.kc (by decide) rfl (X0 _ _ hf) rfl har rfl (X0 _ _ hcode) rfl hvs hfile S.tp ?_) hev) hi)
  refine ks_loadName_global hS.kd hS.ks (loadGlobal_builtin (env := ksEnv qual scope hp.objs.size fI (.ref cda) cc) (M.glob.keeps st0) S.sg (hb1.keeps st0) ((hb2 "super" (by decide)).trans (by first | boot_by_name | rfl | kernel_rfl)) ⟨rfl, ?_⟩)
  refine wpAny_loadName_free hS.kd hS.kc rfl ⟨_, X0 _ _ hcell, rfl⟩ ?_
  rw [hnm]
  refine wpAny_loadName_local hS.kd hS.k0 hns m0 ?_
  refine ks_wpAny_isType_cls hD1 hD2 ⟨rfl, ?_⟩
  refine ks_wpAny_call_super hD1 hD2 he0 rfl (fun c z => nomatch z) (looks_mroIn X0 S.sc) (fun h1 e1 k1 => ?_)
  have X1 : K.In h1 := X0.keeps k1
  have he1 := k1 _ _ he0
  have I1 : InstAt h1 e (excObj C t0 none .none) C none := ⟨he1, rfl, rfl, trivial⟩
  obtain ⟨cd, hcd', hdd⟩ := S.hd
  have hsu := S.su
  unfold ks_superIn at hsu
  rw [hcd'] at hsu
  refine kxs_getMethod S.kf e1 (looks_opaque X1 S.op) (l₀ := cd.mro) (fun A Q E s k q => wpAny_bind ((looks_clsIn X1 hcd') A _ E s k (wpAny_pure q))) rfl X1 hsu (I1.type.andThen (looks_subIn X1 S.sb)) (ks_ne X1 I1 hcd') (by decide) ?_
  have hn1 := (hns.keeps k1).keeps (fun b o z => Heap.get?_push_of_some (h := h1) (kxs_mw i e) z)
  refine kxs_callWith (i := i) (x := e) (by rfl) (evalArgs_plain ?_)
  refine Calls.spliced_cons (wpAny_Name (wpAny_loadName_local (env := ksEnv qual scope hp.objs.size fI (.ref cda) cc) hS.kd hS.kx hn1 mx ?_) S.xd)
  refine Calls.spliced_nil ⟨Heap.get?_push_at rfl rfl, ?_⟩
  have he2 := Heap.get?_push_of_some (kxs_mw i e) he1
  have X2 := X1.keeps (fun b o z => Heap.get?_push_of_some (h := h1) (kxs_mw i e) z)
  refine sup_call S X2 he2 (Heap.get?_push_at rfl rfl) (by show 1 ≤ _; decide) fun h3 t1 k3 e3 => ?_
  have hn3 : h3.Ns hp.objs.size m := by
    obtain ⟨oL, es, ep, hL, r⟩ := hn1
    exact ⟨oL, es, ep, k3 _ _ (Ne.symm eL) hL, r⟩
  have X3 : K.In h3 := M.kin.keeps fun b o z => k3 b o (fun y => by rw [y, hbe] at z; cases z) (Heap.get?_push_of_some _ (k1 b o (st0 b o z)))
  refine wpAt_of_wpAny (wpAny_execs_cons (plainObj_wpAny_Assign_Attribute (wpAny_Name (wpAny_loadName_local (env := ksEnv qual scope hp.objs.size fI (.ref cda) cc) hS.kd hS.kx hn3 mx ?_) S.xd)))
  refine wpAny_Name (wpAny_loadName_local (env := ksEnv qual scope hp.objs.size fI (.ref cda) cc) hS.kd hS.k0 hn3 m0 ?_) (by decide)
  refine sup_store S X3 e3 fun h4 tk4 dx k4 d1 d2 e4 n4 => ?_
  refine wpAny_execs_nil (hq h4 tk4 t1 dx (fun b o hb z => k4 b o hb (k3 b o hb (Heap.get?_push_of_some _ (k1 b o (k0 b o z))))) (Nat.le_trans ?_ d1) d2 e4 n4)
  obtain ⟨oL, _, _, hL, _⟩ := hn3
  exact Nat.le_of_lt (Heap.lt_size hL)
theorem sup_init (S : SupC prog K mg x f B newId i bmB C fI) {e t0 : Addr} {v : Value} {base : Heap} (M : L2.Mod K mg base) (st : ∀ b o, base.get? b = some o → hp.get? b = some o) (hroom : A.depth < recursionLimit) (he : hp.get? e = some (excObj C t0 none .none)) (hbe : base.get? e = none)
    (hq : ∀ h' tk' t1 dx, (∀ b o, b ≠ e → hp.get? b = some o → h'.get? b = some o) → hp.objs.size ≤ dx → dx ≠ e → h'.get? e = some (excObj C t1 (some dx) .none) →
      h'.Ns1 dx (fun y => if y = f then some v else none) → R (.ok (.ret .none)) ⟨h', g, d, tk', os⟩) :
    codeAny (model prog w) A (.call (.ref fI) ⟨[.ref e, v], []⟩) R ⟨hp, g, d, t, os⟩ := sup_initK S (.inl rfl) M st hroom he hbe hq
end
end Mi
namespace Mi
open PySem L2
/-- C(e) of such a class -/
def tMkSup (C : Addr) (f : Str) (ta : TA) : L2.St → Hp → XK → Prop := fun σ H Q => ta σ H fun vs H1 => ∃ v, vs = [v] ∧ ∀ d, H1 d = none → Q (.ref C) (some d) (upd H1 d (.xd [(f, v)]))
theorem pmk_sup {X : Cx} {nm px f : Str} {B newId i : String} {bmB : List Value} {C fI : Addr} {e : Expr} {ta : TA} {p pos : Pos} (S : SupC X.prog X.K X.mg px f B newId i bmB C fI) (hr : Room 1 X.A) (hg : Gl X nm) (hm : X.mg nm = some (.ref C)) (ha : PA X [e] ta)
    (hdb : (nm == ("__debug__" : Str)) = false := by decide) (he : starEach [e] X.env = (false, PySem.eval e X.env) :: starEach [] X.env := by rfl) : PMk X (.Call (.Name nm p) [e] [] pos) (tMkSup C f ta) := by
  intro pins s σ H Q I h
  refine wpAny_Call_Name_kw (ld_glob I hg hm ?_ hdb)
  refine PySem.W.callWith_K (h₀ := X.base) I.ok.mod.kin S.kp (thn (ha.run pos pins s σ H _ I h) fun us s1 ⟨vs, H1, I1, r1, v, ev, q1⟩ => ⟨I1.kIn, ?_⟩) he rfl
  subst ev
  show wpAny _ _ (call (.ref C) us) _ _ _
  obtain ⟨hp, g, dr, tk, os⟩ := s1
  obtain ⟨u, rfl, ru⟩ : ∃ u, us = [u] ∧ RelV v u := by
    cases r1 with
    | cons a b =>
      cases b
      exact ⟨_, rfl, a⟩
  obtain ⟨nm', N', qn, bs, bm, hdct, sn, sub, ab, col, dd, k0, k1, k2, k3, k5, hC, hT⟩ := PySem.W.excInit_of I1.kIn S.q
  have kk : ∀ b o, hp.get? b = some o → ((hp.push (PySem.W.kdv_tup [u])).push (PySem.HandSPX.excO C hp.objs.size)).get? b = some o := fun b o e => Heap.get?_push_of_some _ (Heap.get?_push_of_some _ e)
  have hget : ((hp.push (PySem.W.kdv_tup [u])).push (PySem.HandSPX.excO C hp.objs.size)).get? (hp.objs.size + 1) = some (PySem.HandSPX.excO C hp.objs.size) := by heap_get
  have hbe : X.base.get? (hp.objs.size + 1) = none := by
    cases z : X.base.get? (hp.objs.size + 1) with
    | none => rfl
    | some o => exact absurd (Heap.lt_size (I1.bk _ _ z)) (Nat.not_lt.mpr (Nat.le_succ _))
  refine wpAny_call (PySem.HandSPX.call_own S.fb hT hC (PySem.W.looks_findIn I1.kIn S.ic) (fun self => PySem.W.bind_fn I1.kIn self S.it) (by show 1 ≤ _; decide) ?_)
  refine sup_init S I1.mod (fun b o z => kk b o (I1.bk b o z)) (hr.make C [u] []).depth hget hbe fun h2 tk2 t1 dx k2 d1 d2 e2 n2 => ?_
  have dz : hp.objs.size ≤ dx := by
    rw [Heap.size_push, Heap.size_push] at d1
    omega
  obtain ⟨G, g1, g2⟩ := restrict h2 fun b => decide (b ≠ hp.objs.size + 1)
  have gk : ∀ b, b ≠ hp.objs.size + 1 → G.get? b = h2.get? b := fun b hb => g1 b (decide_eq_true hb)
  have ge : G.get? (hp.objs.size + 1) = none := g2 _ (by simp)
  have nd : ∀ {b : Addr} {o : Obj}, hp.get? b = some o → b ≠ hp.objs.size + 1 := fun {b o} z => Nat.ne_of_lt (Nat.lt_of_lt_of_le (Heap.lt_size z) (Nat.le_succ _))
  have hn1 : H1 dx = none := I1.hok.fresh dz
  have J : L2.Inv X pins σ (upd H1 dx (.xd [(f, v)])) ⟨G, g, dr, tk2, os⟩ := I1.laid (t' := tk2) (a := dx) (o := .xd [(f, v)]) (h' := G) (fun b o z => by
      rw [gk b (nd z)]
      exact k2 b o (nd z) (kk b o z)) dz ⟨_, n2.at fun o y => (gk dx d2).trans y, fun y => by
      by_cases hy : y = f
      · subst hy
        simp [List.lookup, RelO]
        exact ru
      · have hb : (y == f) = false := by simpa using hy
        simp [List.lookup, hb, hy, RelO]⟩
  refine ⟨rfl, hp.objs.size + 1, _, _, ⟨G, g, dr, tk2, os⟩, _, .ref C, some dx, rfl, J, fun b o z => ?_, ge, e2, ⟨rfl, rfl⟩, rfl, rfl, ?_, rfl, I1.bare, raises_own S.bx S.ty, q1 dx hn1⟩
  · by_cases hb : b = hp.objs.size + 1
    · rw [hb, ge] at z
      cases z
    · exact (gk b hb).symm.trans z
  · rw [upd_ne (Ne.symm d2)]
    exact I1.hok.fresh (Nat.le_succ _)
end Mi
namespace Mi
open PySem L2
/-! ### raise -/
/-- raise c(..), c an error class whose fields are fs -/
def sRaise (c : Str) (fs : List Str) (ms : M (List Val)) : S := sBnd ms fun vs env st => if fs.length = vs.length then some (.err ⟨c, fs, vs⟩, env, st) else none
section
variable {X : Cx} {k : Kx} {E : WX}
theorem ms_raise {c nm px f : Str} {B newId i : String} {bmB : List Value} {fI : Addr} {e : Expr} {ms : M (List Val)} {p pos pos' : Pos} (S : SupC X.prog X.K X.mg px f B newId i bmB (k.cl c) fI) (hc : X.calm = true) (tk : Takes X E) (hr : Room 1 X.A) (hg : Gl X nm) (hm : X.mg nm = some (.ref (k.cl c))) (ha : PA X [e] (tMa k E ms))
    (hdb : (nm == ("__debug__" : Str)) = false := by decide) (he : starEach [e] X.env = (false, PySem.eval e X.env) :: starEach [] X.env := by rfl) : PS X (.Raise (some (.Call (.Name nm p) [e] [] pos)) none pos') (tS k E (sRaise c [f] ms)) :=
  impS (ps_raise hc tk (pmk_sup S hr hg hm ha hdb he)) fun D σ H h => tG.mono (tS.bnd (R := RepL k) h) fun vs H1 ⟨W, us, ru, env, st, o, h1, h2, h3, h4⟩ => by
    dsimp only at h3
    split at h3
    · rename_i hl
      cases h3
      obtain ⟨y, rfl⟩ : ∃ y, us = [y] := by
        cases us with
        | nil => cases hl
        | cons y l =>
          cases l with
          | nil => exact ⟨y, rfl⟩
          | cons z l => simp at hl
      obtain ⟨v, r, rfl, r1, r2⟩ := ru
      obtain rfl : r = [] := r2
      refine ⟨v, rfl, fun d hd => ?_⟩
      have l : Le W W H1 (upd H1 d (.xd [(f, v)])) := Le.new hd
      exact h4 W _ σ _ _ l (h1.new hd) (h2.le l) ⟨rfl, rfl, .inr ⟨d, [v], rfl, upd_same, v, [], rfl, r1.le l, rfl⟩⟩
    · cases h3
/-! ### try -/
/-- the same values, whatever is handled -/
def Kx.hd (k : Kx) (z : Option (Addr × Value × Option Addr)) : Kx := ⟨k.K, k.cl, z, k.w, k.tb⟩
mutual
theorem RepV.hd {z : Option (Addr × Value × Option Addr)} {W : Wd} {H : Hp} : ∀ {v : Val} {u : V}, RepV k W H v u → noRef v = true → RepV (k.hd z) W H v u
  | .non, _, h, _ => h
  | .bl _, _, h, _ => h
  | .int _, _, h, _ => h
  | .str _, _, h, _ => h
  | .tup xs, _, h, n => by
    obtain ⟨p, vs, e, s, r⟩ := h
    exact ⟨p, vs, e, s, RepL.hd r n⟩
  | .lst xs, _, h, n => by
    obtain ⟨p, vs, e, f, s, r⟩ := h
    exact ⟨p, vs, e, f, s, RepL.hd r n⟩
  | .rol xs, _, h, n => by
    obtain ⟨p, vs, e, s, r⟩ := h
    exact ⟨p, vs, e, s, RepL.hd r n⟩
  | .ins c ks xs, _, h, n => by
    obtain ⟨p, dx, vs, e, f, s, n1, r⟩ := h
    exact ⟨p, dx, vs, e, f, s, n1, RepL.hd r n⟩
  | .ref i, _, _, n => nomatch n
  | .exv _ _ _, _, _, n => nomatch n
  | .lam _ _ _ _ _ _, _, _, n => nomatch n
  | .cls _, _, h, _ => h
  | .tpd xs, _, h, n => by
    obtain ⟨p, o, vs, e, s, d, r⟩ := h
    exact ⟨p, o, vs, e, s, d, RepL.hd r n⟩
theorem RepL.hd {z : Option (Addr × Value × Option Addr)} {W : Wd} {H : Hp} : ∀ {v : List Val} {u : List V}, RepL k W H v u → noRefs v = true → RepL (k.hd z) W H v u
  | [], _, h, _ => h
  | y :: ys, _, h, n => by
    obtain ⟨v, r, e, h1, h2⟩ := h
    have n' := Bool.and_eq_true_iff.mp n
    exact ⟨v, r, e, RepV.hd h1 n'.1, RepL.hd h2 n'.2⟩
end
/-- what stays of the slots when the store is put aside -/
def plainO : Option Val → Option Val
  | some v => if noRef v then some v else none
  | none => none
def plainE (env : Env) : Env := env.map plainO
theorem RepE.mapO {k k' : Kx} {W W' : Wd} {H H' : Hp} (f : ∀ v u, noRef v = true → RepV k W H v u → RepV k' W' H' v u) : ∀ {env : Env} {σ : L2.St}, RepE k W H env σ → RepE k' W' H' (plainE env) σ
  | [], _, h => h
  | y :: es, _, h => by
    obtain ⟨o, r, e, h1, h2⟩ := h
    refine ⟨o, r, e, fun x hx => ?_, RepE.mapO f h2⟩
    cases y with
    | none => cases hx
    | some v =>
      unfold plainO at hx
      dsimp only at hx
      split at hx
      · rename_i hn
        cases hx
        obtain ⟨u, e1, r1⟩ := h1 _ rfl
        exact ⟨u, e1, f _ _ hn r1⟩
      · cases hx
/-- no name: nothing of the error is asked -/
def tryN (own : Str → Option Bool) (suite : S) (x : Exc) (env : Env) (st : Sto) : Option (Out × Env × Sto) := match own x.cls with
  | some true => match suite env st with
    | some (.err _, _, _) => none
    | o => o
  | some false => some (.err x, env, st)
  | none => none
def sTryN (own : Str → Option Bool) (b suite : S) : S := fun env st => match b env st with
  | some (.err x, env1, st1) => tryN own suite x env1 st1
  | o => o
theorem FinS.wx {E' : WX} {W : Wd} {H : Hp} {D : Ends} {o : Out × Env × Sto} (h : FinS k E W H D o) (n : ∀ x env st, o ≠ (.err x, env, st)) : FinS k E' W H D o := by
  obtain ⟨r, env, st⟩ := o
  cases r with
  | err x => exact absurd rfl (n x env st)
  | _ => exact h
theorem ms_tryN {x : Str} {c : Value} {body suite : List Stmt} {b₀ : Stmt} {np pos pos' : Pos} {b s : S} {own : Str → Option Bool} (hs : X.stack = X.env :: X.outer) (hf : X.env.frame = some X.env.locals) (hc : Names X x c) (tk : Takes X E) (ho : ∀ n t, own n = some t → PySem.W.exmOne X.K (.ref (k.cl n)) c = some t)
    (hb : ∀ (W : WX) (pn : List (Addr × Obj)) (xe : Value → Shared → Prop), Takes (X.tr pn xe) W → PassesOwn (model X.prog X.w) X.A X.env xe → PSs (X.tr pn xe) body (tS k W b))
    (hsu : ∀ (a : Addr) (oe : Obj) (pn : List (Addr × Obj)), (∃ vs, oe.data = .fields vs) → PSs (X.suite a ((a, oe) :: pn)) (b₀ :: suite) (tS k (fun _ _ _ _ => False) s)) :
    PS X (.Try body [.ExceptHandler (some (.Name x np)) none (b₀ :: suite) pos'] [] [] pos) (tS k E (sTryN own b s)) :=
  impS (ps_try_only hs hf hc tk hb fun a oe cls d pn _ hv => hsu a oe pn hv) fun D σ H ⟨W, env, st, o, h1, h2, h3, h4⟩ => by
    unfold sTryN at h3
    cases q : b env st with
    | none =>
      rw [q] at h3
      cases h3
    | some o' =>
      rw [q] at h3
      obtain ⟨r, env1, st1⟩ := o'
      refine ⟨W, env, st, _, h1, h2, q, ?_⟩
      cases r with
      | err y =>
        intro W' H' σ' cc d l o' r' rx
        dsimp only at h3
        unfold tryN at h3
        obtain ⟨rfl, _, _⟩ := rx
        cases q2 : own y.cls with
        | none =>
          rw [q2] at h3
          cases h3
        | some t =>
          rw [q2] at h3
          refine ⟨t, ho _ _ q2, fun ht a na => ?_, fun ht => ?_⟩
          · subst ht
            dsimp only at h3
            cases q3 : s env1 st1 with
            | none =>
              rw [q3] at h3
              cases h3
            | some o3 =>
              rw [q3] at h3
              obtain ⟨r3, env3, st3⟩ := o3
              refine ⟨W', env1, st1, _, o', r', q3, ?_⟩
              cases r3 with
              | err z => cases h3
              | _ =>
                cases h3
                exact FinS.wx (h4.le l) (fun _ _ _ z => nomatch z)
          · subst ht
            cases h3
            exact h4 W' H' σ' _ _ l o' r' ⟨rfl, ‹_›, ‹_›⟩
      | _ =>
        cases h3
        exact FinS.wx h4 (fun _ _ _ z => nomatch z)
theorem RepE.setAny {W : Wd} {H : Hp} {o : Option Val} {v : Option V} (h : ∀ x, o = some x → ∃ u, v = some u ∧ RepV k W H x u) : ∀ {env : Env} {σ : L2.St} (n : Nat), RepE k W H env σ → RepE k W H (env.set n o) (σ.set n v)
  | [], _, n, g => by
    have e : _ = _ := g
    rw [e]
    cases n <;> rfl
  | y :: es, _, 0, g => by
    obtain ⟨u, r, rfl, h1, h2⟩ := g
    exact ⟨v, r, rfl, h, h2⟩
  | y :: es, _, n + 1, g => by
    obtain ⟨u, r, rfl, h1, h2⟩ := g
    exact ⟨u, _, rfl, h1, RepE.setAny h n h2⟩
end
end Mi
namespace Mi
open PySem L2
/-! ### the handled error: its fields, its class -/
/-- what the written part says of an error class whose instances are asked in a suite -/
structure XcC (K : PySem.W.Frag) (C : Addr) : Prop where
  ga : PySem.W.findIn K (.ref C) "__getattribute__" = some (some (.builtin "BaseException.__getattribute__"))
  gg : PySem.W.findIn K (.ref C) "__getattr__" = some none
  bx : PySem.W.subIn K (.ref C) (.type "BaseException") = some true
  hd : PySem.W.hasDictIn K C = true
  ca : PySem.W.findIn K (.ref C) "__class__" = some (some (.builtin "object.__class__"))
  cn : PySem.W.specialIn K (.builtin "object.__class__") "__get__" = some (some (.builtin "getset_descriptor.__get__"))
  ct : PySem.W.takesIn K (.builtin "object.__class__") = some true
  cm : PySem.W.mroIn K C (.type "object") = some true
def exvF (own : Str → Bool) (f : Str) (_ : Sto) : Val → Option Val
  | .exv c ks xs => if own c then fieldOf f ks xs else none
  | _ => none
section
variable {X : Cx} {k : Kx} {E : WX} {a : Addr} {oe : Obj} {cls : Value} {d : Option Addr} {pn : List (Addr × Obj)}
theorem un_var {f : Sto → Val → Option Val} {i : Nat} {env : Env} {st : Sto} {o : Except Exc Val × Sto} (h : un f (var i) env st = some o) : ∃ v c, env[i]? = some (some v) ∧ f st v = some c ∧ o = (.ok c, st) := by
  unfold un bnd var at h
  cases q : env[i]? with
  | none =>
    rw [q] at h
    cases h
  | some w =>
    cases w with
    | none =>
      rw [q] at h
      cases h
    | some v =>
      rw [q] at h
      unfold lift at h
      dsimp only at h
      cases z : f st v with
      | none =>
        rw [z] at h
        cases h
      | some c =>
        rw [z] at h
        cases h
        exact ⟨v, c, rfl, z, rfl⟩
theorem me_xf {n f : Str} {i : Nat} {own : Str → Bool} {p pos : Pos} (ho : ∀ c, own c = true → XcC X.K (k.cl c) ∧ PySem.W.findIn X.K (.ref (k.cl c)) f = some none) (hz : Zc cls d oe) (hf : ∃ vs, oe.data = .fields vs)
    (hv : PE (X.suite a ((a, oe) :: pn)) (.Name n p) (tVar i)) (hb : attributeBase (.Name n p) f X.env (PySem.eval (.Name n p) X.env) = PySem.eval (.Name n p) X.env := by rfl) :
    PE (X.suite a ((a, oe) :: pn)) (.Attribute (.Name n p) f pos) (tM (k.hd (some (a, cls, d))) E (un (exvF own f) (var i))) := by
  refine ⟨fun pins s σ H Q I h => ?_⟩
  obtain ⟨W, env, st, o, h1, h2, h3, h4⟩ := h
  obtain ⟨v, c, hi, hc, rfl⟩ := un_var h3
  obtain ⟨u, hu, ru⟩ := h2.get hi
  unfold exvF at hc
  split at hc
  · rename_i n ks xs
    split at hc
    · rename_i hn
      obtain ⟨a', cls', d', e1, e2, e3, e4, e5⟩ := ru
      cases e1
      subst e2
      obtain ⟨T, hno⟩ := ho _ hn
      rcases e5 with ⟨e5, _⟩ | ⟨dx, vs, e5, e6, e7⟩
      · subst e5
        cases xs with
        | nil => cases hc
        | cons y ys => cases e4
      obtain ⟨v, hl, rv⟩ := fieldOf_rep e7 hc
      exact (pe_xf (C := k.cl n) ⟨T.ga, T.gg, T.bx, T.hd⟩ hno hz hf hv hb).run pins s σ H Q I ⟨.ref a, hu, rfl, e3, dx, _, v, e5, e6, hl, h4 W H v (Le.refl _ _) h1 rv⟩
    · cases hc
  · cases hc
end
end Mi
namespace Mi
open PySem PySem.Spec PyProof.Rows L2
/-! ### sets of ints and texts: their members as a list without repetition -/
def kof : Value → Option Key
  | .int k _ => some (.inl k)
  | .str x _ => some (.inr x)
  | _ => none
theorem kof_is {k : Key} {v : Value} : keyIs k v = true ↔ kof v = some k := by
  constructor
  · intro h
    rcases keyIs_shape h with ⟨i, t, rfl, rfl⟩ | ⟨x, t, rfl, rfl⟩ <;> rfl
  · intro h
    cases v with
    | int i t => cases h; exact keyIs_int i t
    | str x t => cases h; exact keyIs_str x t
    | _ => cases h
theorem kof_scan {k : Key} {v : Value} (h : kof v = some k) : v.scannable = true := by
  cases v with
  | int i t => rfl
  | str x t => rfl
  | _ => cases h
def GoodK (w : World) (e : Int × Value) : Prop := ∃ k, kof e.2 = some k ∧ e.1 = keyH w k
def hasK (ks : List Key) (k : Key) : Bool := ks.any fun j => decide (j = k)
def addK (ks : List Key) (k : Key) : List Key := if hasK ks k then ks else ks ++ [k]
theorem has_iff {ks : List Key} {k : Key} : hasK ks k = true ↔ k ∈ ks := by simp [hasK]
def SetG (w : World) (h : Heap) (a : Addr) (ks : List Key) : Prop :=
  ∃ o es ep t, h.get? a = some o ∧ o.ExactSet ∧ o.data = .set es ep t ∧ (∀ e ∈ es.toList, GoodK w e) ∧ (es.toList.map fun e => kof e.2).Perm (ks.map some) ∧ ks.Nodup ∧ es.size < scanBound ∧ t.fits es.size = true ∧
    Ris t.place.toList ∧ (w.params.followText "set-order" = true ∨ t.led = true)
section
variable {P : Program} {w : World} {A : Around} {E : Value → Shared → Prop} {s : Shared} {a : Addr} {ks : List Key} {k : Key}
theorem SetG.at {h h' : Heap} (R : SetG w h a ks) (kp : ∀ o, h.get? a = some o → h'.get? a = some o) : SetG w h' a ks := by
  obtain ⟨o, es, ep, t, ho, r⟩ := R
  exact ⟨o, es, ep, t, kp o ho, r⟩
theorem goods {l : List (Int × Value)} (g : ∀ e ∈ l, GoodK w e) : ElemsOf (mixKind P w) l := fun e he => by
  obtain ⟨k, h1, h2⟩ := g e he
  exact ⟨⟨k, kof_is.mpr h1, h2⟩, kof_scan h1⟩
theorem mem_some {ks : List Key} {k : Key} : some k ∈ ks.map some ↔ k ∈ ks := by simp
theorem setG_tail {gv : Bool → Sem Unit} (hg : ∀ (b : Bool) (s1 : Shared) (Q' : Unit → Shared → Prop), Q' () s1 → wpAny (model P w) A (gv b) Q' E s1)
    {o : Obj} {es e1 : Array (Int × Value)} {ep : Nat} {t t2 : SetTable} (ho : s.heap.get? a = some o) (hx : o.ExactSet) (hd : o.data = .set es ep t) (g1 : ∀ e ∈ e1.toList, GoodK w e) (p1 : (e1.toList.map fun e => kof e.2).Perm (ks.map some)) (nd : ks.Nodup)
    (b1 : e1.size < scanBound) (f2 : t2.fits e1.size = true) (r2 : Ris t2.place.toList) (l2 : w.params.followText "set-order" = true ∨ t2.led = true) {dm : Bool} {R : Option Bool → Shared → Prop}
    (hR : ∀ h', Heap.SameBut a s.heap h' → SetG w h' a ks → R (some true) { s with heap := h' }) :
    wpAny (model P w) A (do
        storeSet a e1 t2
        if (!dm && t2.tooFull) = true then do
            gv (relayAll t2 e1 (SetTable.grown e1.size)).2.2
            storeSet a (relayAll t2 e1 (SetTable.grown e1.size)).1 (relayAll t2 e1 (SetTable.grown e1.size)).2.1
            pure (some true)
          else pure (some true)) R E s := by
  refine wpAny_bind (wpAny_storeSet_of ho hd ?_ (fits_of_scanBound b1))
  have q1 := store_at (es' := e1) (t' := t2) ho hd
  have sb := Heap.SameBut.update s.heap a (Obj.putSet e1 t2)
  split
  · have pm := relayAll_perm t2 e1 (SetTable.grown e1.size)
    have f3 := relayAll_fits t2 e1 (SetTable.grown e1.size)
    have r3 := relayAll_ris t2 e1 (SetTable.grown e1.size)
    have l3 := relayAll_led t2 e1 (SetTable.grown e1.size)
    generalize relayAll t2 e1 (SetTable.grown e1.size) = Z at pm f3 r3 l3 ⊢
    obtain ⟨e2, t3, gave⟩ := Z
    dsimp only at pm f3 r3 l3 ⊢
    have z2 : e2.size = e1.size := by rw [← Array.length_toList, pm.length_eq, Array.length_toList]
    have b2 : e2.size < scanBound := z2 ▸ b1
    refine wpAny_bind (hg _ _ _ (wpAny_bind (wpAny_storeSet_of q1 rfl ?_ (fits_of_scanBound b2))))
    have q2 := store_at (es' := e2) (t' := t3) q1 rfl
    exact wpAny_pure (hR _ (sb.trans (Heap.SameBut.update _ a _)) ⟨_, e2, _, t3, q2, hx, rfl, fun e he => g1 e (pm.mem_iff.mp he), (pm.map _).trans p1, nd, b2, f3, r3, l2.imp id fun z => l3.trans z⟩)
  · exact wpAny_pure (hR _ sb ⟨_, e1, _, t2, q1, hx, rfl, g1, p1, nd, b1, f2, r2, l2⟩)
theorem setG_addH {v : Value} {Q : Bool → Shared → Prop} (hk : kof v = some k) (R : SetG w s.heap a ks) (room : ks.length + 1 < scanBound)
    (hQ : ∀ b h', Heap.SameBut a s.heap h' → SetG w h' a (addK ks k) → Q b { s with heap := h' }) : wpAny (model P w) A (setAddHashed a v ((mixKind P w).hash k)) Q E s := by
  obtain ⟨o, es, ep, t, ho, hx, hd, g, pm0, nd, hb, hf, hr, hl⟩ := R
  have hkey : (mixKind P w).is k v = true := kof_is.mpr hk
  have hsc := kof_scan hk
  have hel : ElemsOf (mixKind P w) es.toList := goods g
  unfold setAddHashed setAddHashedIn
  refine wpAny_holding (wpAny_bind (wpAny_setState_of ho hd hf ?_))
  dsimp only
  rw [byScan_of hsc hb hel]
  simp only [↓reduceIte]
  unfold setAddByScan
  refine wpAny_bind (wpAny_bind (wpAny_rule (wpAny_bind (wpAny_setScan_of hkey ho hd hf hel ?_))))
  cases hfi : List.findIdx? (fun e => (mixKind P w).is k e.2) es.toList with
  | some j =>
    dsimp only
    obtain ⟨hj, pj, _⟩ := List.findIdx?_eq_some_iff_getElem.mp hfi
    have hin : k ∈ ks := mem_some.mp (pm0.mem_iff.mp (List.mem_map.mpr ⟨es.toList[j], List.getElem_mem hj, kof_is.mp pj⟩))
    refine wpAny_pure (wpAny_pure (hQ _ s.heap (Heap.SameBut.refl a s.heap) ?_))
    unfold addK
    rw [if_pos (has_iff.mpr hin)]
    exact ⟨o, es, ep, t, ho, hx, hd, g, pm0, nd, hb, hf, hr, hl⟩
  | none =>
    dsimp only
    have hout : k ∉ ks := fun z => by
      obtain ⟨e, he, q⟩ := List.mem_map.mp (pm0.mem_iff.mpr (mem_some.mpr z))
      have c := List.findIdx?_eq_none_iff.mp hfi e he
      rw [show (mixKind P w).is k e.2 = true from kof_is.mpr q] at c
      cases c
    have hgw : ∀ (b : Bool) {s1 : Shared} {Q' : Unit → Shared → Prop}, Q' () s1 → wpAny (model P w) A (match b with | true => rule "set.scan.the-table-gave-way" | false => pure ()) Q' E s1 :=
      fun b s1 Q' q => by cases b <;> first | exact wpAny_pure q | exact wpAny_rule q
    have pm := layNew_perm t es ((mixKind P w).hash k) v
    have hf1 := layNew_fits t es ((mixKind P w).hash k) v
    have hr1 := layNew_ris t es ((mixKind P w).hash k) v hr
    have hl1 := layNew_led t es ((mixKind P w).hash k) v
    generalize layNew t es ((mixKind P w).hash k) v = Z at pm hf1 hr1 hl1 ⊢
    obtain ⟨e1, t1, dm, gave⟩ := Z
    dsimp only at pm hf1 hr1 hl1 ⊢
    rw [Array.toList_push] at pm
    have pc : e1.toList.Perm (((mixKind P w).hash k, v) :: es.toList) := pm.trans (List.perm_append_singleton _ _)
    have g1 : ∀ e ∈ e1.toList, GoodK w e := fun e he => by
      rcases List.mem_cons.mp (pc.mem_iff.mp he) with z | z
      · rw [z]; exact ⟨k, hk, rfl⟩
      · exact g e z
    have ea : addK ks k = ks ++ [k] := if_neg fun z => hout (has_iff.mp z)
    have p1 : (e1.toList.map fun e => kof e.2).Perm ((addK ks k).map some) := by
      rw [ea, List.map_append]
      refine (pc.map _).trans ?_
      rw [List.map_cons]
      dsimp only
      rw [hk]
      exact (pm0.cons _).trans (List.perm_append_singleton _ _).symm
    have nd1 : (addK ks k).Nodup := by
      rw [ea, List.nodup_append]
      exact ⟨nd, by simp, fun x hx y hy => by rw [List.mem_singleton.mp hy]; exact fun z => hout (z ▸ hx)⟩
    have b1 : e1.size < scanBound := by
      have z := p1.length_eq
      rw [List.length_map, List.length_map, Array.length_toList, ea, List.length_append] at z
      rw [z]
      exact room
    have hled : w.params.followText "set-order" = true ∨ t1.led = true := hl.imp id fun z => hl1.trans z
    refine wpAny_bind (hgw _ ?_)
    split
    · refine wpAny_bind ?_
      rw [hashByValue_scannable 8 hsc]
      refine wpAny_pure (setG_tail (ks := addK ks k) ?_ ho hx hd g1 p1 nd1 b1 ?_ ?_ ?_ ?_)
      · intro b s1 Q' q; cases b <;> first | exact wpAny_pure q | exact wpAny_rule q
      · first | (split <;> first | exact hf1 | exact SetTable.fits_plain_off hf1) | exact hf1
      · first | (split <;> exact hr1) | exact hr1
      · first | (split <;> exact hled) | exact hled
      · intro h' sb r; dsimp only; exact wpAny_pure (hQ _ h' sb r)
    · refine wpAny_bind (wpAny_pure ?_)
      simp only [↓reduceIte]
      refine setG_tail (ks := addK ks k) ?_ ho hx hd g1 p1 nd1 b1 hf1 hr1 hled ?_
      · intro b s1 Q' q; cases b <;> first | exact wpAny_pure q | exact wpAny_rule q
      · intro h' sb r; dsimp only; exact wpAny_pure (hQ _ h' sb r)
abbrev noSet (w : World) : Obj := { cls := .type "set", dict := none, data := .set #[] 0 (.fresh 0 0 (!w.params.followText "set-order")) }
theorem setG_fresh {h : Heap} (ho : h.get? a = some (noSet w)) : SetG w h a [] :=
  ⟨_, #[], 0, _, ho, ⟨rfl, rfl, rfl⟩, rfl, (fun e he => by simp at he), List.Perm.nil, List.nodup_nil, (by decide), (by rfl), List.Pairwise.nil, by
    show _ ∨ (!w.params.followText "set-order") = true
    cases w.params.followText "set-order" <;> simp⟩
theorem SetG.len_eq {h : Heap} (R : SetG w h a ks) : ∃ o es ep t, h.get? a = some o ∧ o.ExactSet ∧ o.data = .set es ep t ∧ t.fits es.size = true ∧ es.size = ks.length ∧ es.size < scanBound := by
  obtain ⟨o, es, ep, t, ho, hx, hd, g, pm, nd, hb, hf, _⟩ := R
  have z := pm.length_eq
  rw [List.length_map, List.length_map, Array.length_toList] at z
  exact ⟨o, es, ep, t, ho, hx, hd, hf, z, hb⟩
theorem len_setG {Q : Value → Shared → Prop} (R : SetG w s.heap a ks) (h : Q (.int ks.length (s.toks + 1)) { s with toks := s.toks + 1 + 1 }) : wpAny (model P w) A (call (.builtin "len") [.ref a]) Q E s := by
  obtain ⟨o, es, ep, t, ho, hx, hd, hf, z, hb⟩ := R.len_eq
  refine call_len_set ho hx hd hf (by have : scanBound ≤ 1048577 := by decide
                                      omega) ?_
  rw [z]
  exact h
end
/-- distinct, in their first order -/
def addAll (ks : List Key) : List Key → List Key
  | [] => ks
  | k :: r => addAll (addK ks k) r
theorem addK_len {ks : List Key} {k : Key} : (addK ks k).length ≤ ks.length + 1 := by
  unfold addK
  split <;> simp
theorem addAll_len : ∀ {js ks : List Key}, (addAll ks js).length ≤ ks.length + js.length
  | [], ks => Nat.le_refl _
  | j :: js, ks => by
    have h1 := addAll_len (js := js) (ks := addK ks j)
    have h2 := addK_len (ks := ks) (k := j)
    show (addAll (addK ks j) js).length ≤ _
    rw [List.length_cons]
    omega
theorem addAll_snoc {ks : List Key} {k : Key} : ∀ {js ks : List Key}, addAll ks (js ++ [k]) = addK (addAll ks js) k
  | [], ks => rfl
  | j :: js, ks => addAll_snoc (k := k) (ks := addK ks j) (js := js)
section
variable {prog : Program} {w : World} {A : Around} {R : Result → Shared → Prop} {I : Addr} {fp wr : List Addr} {G : Array GenState → Array GenState → Prop} {n : Nat} {Pv : Nat → Value → Prop} {St : Nat → Shared → Prop}
theorem loopG (W : WalksS prog w A.in1 I fp wr G n Pv St) (S : Addr) (hSf : S ∉ fp) (xs : List Key) (hsz : xs.length = n) (hb : n + 1 < scanBound) (hval : ∀ i v, Pv i v → kof v = xs[i]?) :
    ∀ (m i : Nat) (s : Shared), n - i = m → i ≤ n → St i s → SetG w s.heap S (addAll [] (xs.take i)) → (∀ s', Moved (S :: wr) G s s' → SetG w s'.heap S (addAll [] xs) → R (.ok (.ret .none)) s') →
      codeAny (model prog w) A (.builtin "set.update.loop" ⟨[.ref S, .ref I], []⟩) R s := by
  have hSw : S ∉ wr := fun h => hSf (W.sub _ h)
  have more : ∀ b ∈ wr, b ∈ S :: wr := fun b hb => List.mem_cons_of_mem _ hb
  intro m
  induction m with
  | zero =>
    intro i s hm hi hst hS hR
    obtain rfl : i = n := by omega
    rw [← hsz, List.take_length] at hS
    refine codeAny_builtin F.entry_set_update_loop ?_
    rw [Around.under_plainId F.plain_set_update_loop _]
    show wpAny _ A.in1 (pyNext (.ref I) >>= _) _ _ s
    exact wpAny_bind (W.done s _ _ hst fun s' mv => wpAny_pure (hR s' (mv.mono more) (hS.at fun o z => mv.heap S _ hSw z)))
  | succ m ih =>
    intro i s hm hi hst hS hR
    have hlt : i < n := by omega
    have hix : i < xs.length := by omega
    refine codeAny_builtin F.entry_set_update_loop ?_
    rw [Around.under_plainId F.plain_set_update_loop _]
    show wpAny _ A.in1 (pyNext (.ref I) >>= _) _ _ s
    refine wpAny_bind (W.item i s _ _ hlt hst fun v s' hP hst' mv => ?_)
    have hk := hval i v hP
    rw [List.getElem?_eq_getElem hix] at hk
    have hS' : SetG w s'.heap S (addAll [] (xs.take i)) := hS.at fun o z => mv.heap S _ hSw z
    show wpAny _ A.in1 (holding [v] (setAdd S v) >>= _) _ _ s'
    refine wpAny_bind (wpAny_holding ?_)
    unfold setAdd
    refine wpAny_holding (wpAny_bind ((mixKind prog w).pyHash (kof_is.mpr hk) ?_))
    have room : (addAll [] (xs.take i)).length + 1 < scanBound := by
      have := addAll_len (js := xs.take i) (ks := [])
      rw [List.length_take, List.length_nil] at this
      omega
    refine setG_addH (s := { s' with toks := s'.toks + 1 }) hk hS' room fun b h' sb hS2 => ?_
    have e : addAll [] (xs.take (i + 1)) = addK (addAll [] (xs.take i)) xs[i] := by
      rw [List.take_succ_eq_append_getElem hix, addAll_snoc (ks := [])]
    rw [← e] at hS2
    refine wpAny_pure ⟨plainId_quiet F.plain_set_update_loop _, ih (i + 1) _ (by omega) hlt (W.frame _ s' _ _ hst' (Nat.le_succ _) fun b hb o z => ?_) hS2 fun s'' mv2 hS3 => ?_⟩
    · rw [sb.2 b (fun h : b = S => hSf (h ▸ hb))]; exact z
    · refine hR s'' (Moved.trans W.gtrans ((mv.mono more).then_heap (Nat.le_succ _) fun b o hb z => ?_) mv2) hS3
      rw [sb.2 b (fun h : b = S => hb (h ▸ List.mem_cons_self))]; exact z
end
section
variable {P : Program} {w : World} {A : Around} {E : Value → Shared → Prop} {s : Shared} {a : Addr}
/-- set(l), l a list of ints and texts -/
theorem call_setG {l : Addr} {items : Array Value} {xs : List Key} {Q : Value → Shared → Prop} (hh : A.handled = none) (hl : s.heap.IsList l items) (hi : items.toList.map kof = xs.map some) (hb : xs.length + 1 < scanBound)
    (h : ∀ (h' : Heap) (tk : Nat), SetG w h' s.heap.objs.size (addAll [] xs) → (∀ b o, s.heap.get? b = some o → h'.get? b = some o) → Q (.ref s.heap.objs.size) { s with heap := h', toks := tk }) :
    wpAny (model P w) A (call (.type "set") [.ref l]) Q E s := by
  have isz : xs.length = items.size := by
    have q := congrArg List.length hi
    rw [List.length_map, List.length_map, Array.length_toList] at q
    exact q.symm
  obtain ⟨c, tl, hmro⟩ := PySem.F.called_set.mro
  have m1 := PySem.F.called_set.made; have m2 := PySem.F.called_set.sub
  refine wpAny_call (codeAny_of_tree ?_); show wpAny _ _ (callAny (.type "set") _) _ _ _
  refine wpAny_pure ⟨Code.quiet_builtin _ (by decide +kernel), codeAny_builtin PySem.F.entry_type_call ?_⟩
  rw [Around.under_plain (weight_type_call_type "set" [.ref l] []) rfl]
  have m3 := PySem.F.called_set.notType; have m4 := PySem.F.called_set.canCreate; have m5 := PySem.F.typeCall_set_1 (.ref l)
  repeat (any_goals (first | assumption | wp_step))
  refine codeAny_mono (code_set_led1 (.ref l) (E := E) (Q₁ := fun obj s1 => obj = .ref s.heap.objs.size ∧ s1 = { s with heap := s.heap.push (noSet w) }) ⟨rfl, rfl⟩) fun r s1 hr => ?_
  cases r with
  | error e => exact hr
  | ok fl =>
    cases fl with
    | ret obj =>
      obtain ⟨rfl, rfl⟩ := hr
      have hS : (s.heap.push (noSet w)).get? s.heap.objs.size = some (noSet w) := Heap.get?_push_size _ rfl
      have hT : Shared.TypeIs { s with heap := s.heap.push (noSet w) } (.ref s.heap.objs.size) "set" := ⟨_, hS, rfl⟩
      have m6 := PySem.F.called_set.init.lookup; have m7 := PySem.F.called_set.init.bind (.ref s.heap.objs.size)
      repeat (any_goals (first | assumption | wp_step))
      refine codeAny_mono (codeAny_call_builtin (R := wants (fun r s2 => r = .none ∧ ∃ h' tk, s2 = { s with heap := h', toks := tk } ∧ SetG w h' s.heap.objs.size (addAll [] xs) ∧ ∀ b o, s.heap.get? b = some o → h'.get? b = some o) E) PySem.F.called_set.init.plain PySem.F.entry_set_init (check_set_init_1 hT ?_)) fun r2 s2 hr2 => ?_
      · obtain ⟨⟨_, odict, _, oslots⟩, hol, hcl, nl, hdl⟩ := hl
        simp only at hcl hdl; subst hcl; subst hdl
        have hol' : (s.heap.push (noSet w)).get? l = some { cls := .type "list", dict := odict, data := .seq items nl, slots := oslots } := Heap.get?_push_of_some _ hol
        have m8 := PySem.F.sub_list_set; have m9 := PySem.F.sub_list_frozenset; have m0 : (Value.type "list" == Value.type "dict") = false := by decide
        have hl1 : (s.heap.push (noSet w)).IsList l items := ⟨_, hol', rfl, nl, rfl⟩
        unfold Builtin.«set.__init__» noKeywords Builtin.Frozenset.updateFrom
        generalize hPI : pyIter = PI
        wp_walk
        subst hPI
        refine wpAny_pyIter_list hl1 (wpAny_bind (wpAny_runValue ?_))
        have lS : l < s.heap.objs.size := Heap.lt_size hol
        have sz1 : (s.heap.push (noSet w)).objs.size = s.heap.objs.size + 1 := Heap.size_push ..
        have neI : l ≠ (s.heap.push (noSet w)).objs.size := by rw [sz1]; exact Nat.ne_of_lt (Nat.lt_succ_of_lt lS)
        have hSf : s.heap.objs.size ∉ [(s.heap.push (noSet w)).objs.size, l] := by
          intro z
          rcases List.mem_cons.mp z with z | z
          · rw [sz1] at z; exact absurd z (Nat.ne_of_lt (Nat.lt_succ_self _))
          · exact absurd (List.mem_singleton.mp z) (Nat.ne_of_gt lS)
        have hval : ∀ (i : Nat) (v : Value), items[i]? = some v → kof v = xs[i]? := fun i v hv => by
          have q : (items.toList.map kof)[i]? = some (kof v) := by rw [List.getElem?_map, Array.getElem?_toList, hv]; rfl
          rw [hi, List.getElem?_map] at q
          cases z : xs[i]? with
          | none => rw [z] at q; cases q
          | some k => rw [z] at q; exact (Option.some.inj q).symm
        refine loopG ((Walks.list (by simp [hh]) _ l neI items).toS) s.heap.objs.size hSf xs isz (isz ▸ hb) hval (items.size - 0) 0 _ (by omega) (Nat.zero_le _) ⟨⟨_, Heap.get?_push_size _ rfl, rfl, rfl⟩, (hl1.push _)⟩ ?hS0 ?hR
        case hS0 => exact setG_fresh (Heap.get?_push_of_some _ hS)
        case hR =>
          intro s' mv hS'
          obtain ⟨h', g', d', tk', os'⟩ := s'
          have eg : g' = s.gens := mv.gens
          have ed : d' = s.drawn := mv.drawn
          have eo : os' = s.os := mv.os
          subst eg ed eo
          refine wpAny_pure (wpAny_pure ⟨rfl, h', tk', rfl, hS', fun b o z => ?_⟩)
          have hb := Heap.lt_size z
          refine mv.heap b o (fun y => ?_) (Heap.get?_push_of_some _ (Heap.get?_push_of_some _ z))
          rcases List.mem_cons.mp y with y | y
          · exact absurd y (Nat.ne_of_lt hb)
          · exact absurd ((List.mem_singleton.mp y).trans sz1) (Nat.ne_of_lt (Nat.lt_succ_of_lt hb))
      · cases r2 with
        | error e => exact hr2
        | ok fl2 =>
          cases fl2 with
          | ret r =>
            obtain ⟨rfl, h', tk, rfl, hS', hk'⟩ := hr2
            repeat (any_goals (first | assumption | wp_step))
            exact h _ _ hS' hk'
          | _ => exact hr2.elim
    | _ => exact hr.elim
end
end Mi
namespace Mi
open PySem PySem.Spec PyProof.Rows L2
/-! ### sorted of a set -/
section
variable {P : Program} {w : World} {A : Around} {E : Value → Shared → Prop} {s : Shared} {a : Addr}
def okI : Option Key → Option Int
  | some (.inl x) => some x
  | _ => none
end
end Mi
namespace Mi
open PySem PySem.Spec PyProof.Rows L2
/-! ### the one arrangement in order -/
def insBy {α : Type} (le : α → α → Bool) (x : α) : List α → List α
  | [] => [x]
  | y :: r => if le x y then x :: y :: r else y :: insBy le x r
def sortBy {α : Type} (le : α → α → Bool) : List α → List α
  | [] => []
  | x :: r => insBy le x (sortBy le r)
def leS (a b : Str) : Bool := !ltCps b.cps.toList a.cps.toList
def sortS : List Str → List Str := sortBy leS
/-! ### len(set(e)), sorted(set(e)) -/
def keyV : Val → Option Key
  | .int i => some (.inl i)
  | .str x => some (.inr x)
  | _ => none
theorem keys_rep {k : Kx} {W : Wd} {H : Hp} : ∀ {xs : List Val} {vs : List V} {ks : List Key}, RepL k W H xs vs → allOf keyV xs = some ks → vs = ks.map kV
  | [], vs, ks, r, e => by
    have r' : vs = [] := r
    cases e
    exact r'
  | x :: xs, vs, ks, r, e => by
    obtain ⟨v, u, rfl, r1, r2⟩ := r
    unfold allOf at e
    cases q : keyV x with
    | none =>
      rw [q] at e
      cases e
    | some kk =>
      rw [q] at e
      cases q2 : allOf keyV xs with
      | none =>
        rw [q2] at e
        cases e
      | some ks' =>
        rw [q2] at e
        cases e
        rw [keys_rep r2 q2]
        cases x with
        | int i =>
          cases q
          have : v = .int i := r1
          rw [this]
          rfl
        | str i =>
          cases q
          have : v = .str i := r1
          rw [this]
          rfl
        | _ => cases q
theorem kofs_of : ∀ {ks : List Key} {us : List Value}, Vals (ks.map kV) us → us.map kof = ks.map some
  | [], us, r => by
    cases r
    rfl
  | kk :: ks, us, r => by
    cases r with
    | cons a b =>
      rw [List.map_cons, List.map_cons, kofs_of b]
      cases kk with
      | inl i =>
        obtain ⟨t, rfl⟩ := a
        rfl
      | inr x =>
        obtain ⟨t, rfl⟩ := a
        rfl
/-- set(e): the set stands beside H -/
def SetP (X : Cx) (pins : List (Addr × Obj)) (σ : L2.St) (Q : List Key → Hp → Prop) (u : Value) (s' : Shared) : Prop := ∃ p ks H', u = .ref p ∧ L2.Inv X pins σ H' s' ∧ SetG X.w s'.heap p ks ∧ H' p = none ∧ Q ks H'
def tSetL (K : PySem.W.Frag) (ta : TE) : L2.St → Hp → (List Key → Hp → Prop) → Prop := fun σ H Q => ta σ H fun x H1 => ∃ l ks, x = .ref l ∧ SqL K H1 l (ks.map kV) ∧ ks.length + 1 < scanBound ∧ Q (addAll [] ks) H1
section
variable {X : Cx} {a : Expr} {ta : TE} {p q pos : Pos}
theorem eval_setL {pins : List (Addr × Obj)} {s : Shared} {σ : L2.St} {H : Hp} {Q : List Key → Hp → Prop} (hc : X.calm = true) (hg : Gl X "set") (hm : X.mg "set" = none) (ha : PE X a ta) (I : L2.Inv X pins σ H s) (h : tSetL X.K ta σ H Q)
    (na : starEach [a] X.env = (false, PySem.eval a X.env) :: starEach [] X.env := by rfl) : wpAny (model X.prog X.w) X.A (PySem.eval (.Call (.Name "set" p) [a] [] q) X.env) (SetP X pins σ Q) X.xe s := by
  refine Call_ (ld_blt I hg hm boot_set ?_)
  refine PyProof.Rows.callWith_type1 (PyProof.Rows.args_cons (thn (ha.run pins s σ H _ I h) fun v s1 ⟨x, H1, I1, r1, l, ks, ex, hq, hz, q1⟩ => PyProof.Rows.args_nil ?_) na) na rfl
  subst ex
  cases r1
  obtain ⟨its, r, pl, _⟩ := I1.list hq
  refine call_setG (I1.ok.hd hc) pl.isList (by simpa using kofs_of r) hz fun h' tk hS hk => ?_
  exact ⟨_, _, H1, rfl, I1.kept (t' := tk) hk, hS, I1.hok.fresh (Nat.le_refl _), q1⟩
/-- len(..) of a set made on the spot -/
theorem pe_lenOf {e : Expr} {t : L2.St → Hp → (List Key → Hp → Prop) → Prop} (hg : Gl X "len") (hm : X.mg "len" = none) (he : ∀ pins s σ H Q, L2.Inv X pins σ H s → t σ H Q → wpAny (model X.prog X.w) X.A (PySem.eval e X.env) (SetP X pins σ Q) X.xe s)
    (ne : starEach [e] X.env = (false, PySem.eval e X.env) :: starEach [] X.env := by rfl) : PE X (.Call (.Name "len" p) [e] [] pos) (fun σ H Q => t σ H fun ks H1 => Q (.int ks.length) H1) := by
  refine ⟨fun pins s σ H Q I h => ?_⟩
  refine Call_ (ld_blt I hg hm boot_len ?_)
  refine PyProof.Rows.callWith_builtin1 (PyProof.Rows.args_cons (thn (he pins s σ H _ I h) fun u s1 ⟨b, ks, H1, eu, I1, hS, hn, q⟩ => PyProof.Rows.args_nil ?_) ne) ne rfl
  subst eu
  exact len_setG hS ⟨.int ks.length, H1, I1.tok _, ⟨_, rfl⟩, q⟩
end
/-! ### the same, mirrored -/
def lenKV (ks : List Key) : Option Val := if ks.length + 1 < 4096 then some (.int (addAll [] ks).length) else none
end Mi
namespace Mi
open PySem PySem.Spec PyProof.Rows L2 ClX
/-! ### len(set(e)), sorted(set(e)), mirrored -/
def lenSetV (st : Sto) (a : Val) : Option Val := match lstOf st a with
  | some xs => match allOf keyV xs with
    | some ks => lenKV ks
    | none => none
  | none => none
section
variable {X : Cx} {k : Kx} {E : WX} {a : Expr} {m : M Val} {p p2 q pos : Pos}
theorem me_lenSet (hc : X.calm = true) (hg : Gl X "len") (hm : X.mg "len" = none) (hg2 : Gl X "set") (hm2 : X.mg "set" = none) (ha : PE X a (tM k E m)) (na : starEach [a] X.env = (false, PySem.eval a X.env) :: starEach [] X.env := by rfl)
    (nc : starEach [.Call (.Name "set" p2) [a] [] q] X.env = (false, PySem.eval (.Call (.Name "set" p2) [a] [] q) X.env) :: starEach [] X.env := by rfl) (hk : X.K = k.K := by rfl) :
    PE X (.Call (.Name "len" p) [.Call (.Name "set" p2) [a] [] q] [] pos) (tM k E (un lenSetV m)) :=
  imp (pe_lenOf (t := tSetL X.K (tM k E m)) hg hm (fun pins s σ H Q I h => eval_setL hc hg2 hm2 ha I h na) nc) fun σ H Q h => tG.mono (tG.bnd (R1 := RepV k) h) fun x H1 ⟨W, b, rb, h3⟩ => by
    obtain ⟨c, st, e, o, q⟩ := h3.lift
    unfold lenSetV at e
    split at e
    · rename_i xs hx
      split at e
      · rename_i ks hks
        unfold lenKV at e
        split at e
        · rename_i hl
          cases e
          obtain ⟨pp, vs, e1, s1, r1⟩ := lstOf_rep o rb hx
          rw [keys_rep r1 hks] at s1
          exact ⟨pp, ks, e1, by rw [hk]; exact s1, hl, q W H1 _ (Le.refl _ _) o rfl⟩
        · cases e
      · cases e
    · cases e
end
/-! ### classes as values; class methods -/
section
variable {X : Cx} {k : Kx} {E : WX}
def tCMthS (C : Addr) (sp : Sp) (F : L2.St → XK) (t : TA) : TE := fun σ H Q => t σ H fun vs H2 => sp (.ref C :: vs) H2 Q (F σ)
theorem pe_cmthS {CX : CXT} {kk : Nat} {C pa g : Addr} {mc : Value} {c m : Str} {fd : FuncData} {ps : List Str} {sp : Sp} {F : L2.St → XK} {t : TA} {e : Expr} {es : List Expr} {apos np pos : Pos} {pl : Sem Bool} (hg : Gl X c) (hm : X.mg c = some (.ref C)) (r : CRead X.K C mc) (cm : CMet X.K C mc m pa g)
    (G : FnOk X.prog X.w X.K X.mg X.base CX kk g fd ps sp) (hr : Room kk X.A) (hb : Binds X.K fd ps []) (hx : ∀ σ, PassesAt CX X σ (F σ)) (ha : PA X (e :: es) t) (hdb : (c == ("__debug__" : Str)) = false := by decide)
    (hst : starEach (e :: es) X.env = (false, PySem.eval e X.env) :: starEach es X.env := by rfl) (hpl : (backTo pos (starEach es X.env)).any (·.1) = false := by rfl)
    (ht : PySem.eval (.Call (.Attribute (.Name c np) m apos) (e :: es) [] pos) X.env = (do
      let ov ← PySem.eval (.Name c np) X.env
      standAt apos.atName
      let (f, first) ← holding [ov] (getMethod ov m pl)
      callWith pos f first (backTo pos (starEach (e :: es) X.env)) (backToKw pos (keywordEach [] X.env))) := by rfl) :
    PE X (.Call (.Attribute (.Name c np) m apos) (e :: es) [] pos) (tCMthS C sp F t) := by
  refine ⟨fun pins s σ H Q I h => ?_⟩
  refine PySem.W.methodCall_KW (pl := pl) (ld_glob I hg hm ?_ hdb) ht
  refine getmethcm_ok I r cm fun s2 I2 => ?_
  refine callwith_cm I2 (base_none I (Nat.le_refl _)) cm.fi (thn (ha.run pos _ s2 σ H _ I2 h) fun us s3 ⟨vs, H2, I3, rv, q2⟩ => ⟨⟨pin_at I3, I3.kIn⟩, ?_⟩) hst hpl
  have r2 : Vals (V.ref C :: vs) (Value.ref C :: us) := .cons rfl rv
  have hl : (Value.ref C :: us).length = ps.length := by
    rw [← r2.length]
    exact G.len _ _ _ _ q2
  have z : wpAny (model X.prog X.w) X.A (call (.ref s.heap.objs.size) us) (EP X ((s.heap.objs.size, PySem.W.methodObj (.ref g) (.ref C)) :: pins) σ Q) X.xe s3 := by
    refine wpAny_call (PySem.W.method_call (pin_at I3) (codeAny_mono (G.run X.A X.stack s3 H2 ⟨Value.ref C :: us, []⟩ (Value.ref C :: us) (V.ref C :: vs) Q (F σ) hr I3.env0 (by have z := hb s3 (Value.ref C :: us) I3.kIn (by rw [List.append_nil]; exact hl); rw [List.append_nil] at z; exact z) r2 q2) fun r s' hq => ?_))
    cases r with
    | error er => exact hx σ _ H2 s3 er s' I3 hq
    | ok fl =>
      cases fl with
      | ret u => exact I3.after hq
      | next => exact False.elim hq
      | brk => exact False.elim hq
      | cont => exact False.elim hq
  exact thn z fun _ _ y => unpinE y
/-- C.m(..), the callee over the empty store -/
def cmthP (c : Str) (n : Nat) (cf : CF) (ms : M (List Val)) : M Val := bnd ms fun us _ st => if us.length + 1 = n then runP cf (.cls c :: us) st else none
theorem me_cmthP {kk n : Nat} {pa g : Addr} {mc : Value} {c m : Str} {fd : FuncData} {ps : List Str} {cf : CF} {ms : M (List Val)} {e : Expr} {es : List Expr} {apos np pos : Pos} {pl : Sem Bool} (hg : Gl X c) (hm : X.mg c = some (.ref (k.cl c))) (r : CRead X.K (k.cl c) mc) (cm : CMet X.K (k.cl c) mc m pa g)
    (G : FnOk X.prog X.w X.K X.mg X.base (L2.CX X.prog X.w) kk g fd ps (spM k n cf)) (hr : Room kk X.A) (hb : Binds X.K fd ps []) (tk : Takes X E) (ha : PA X (e :: es) (tMa k E ms)) (hdb : (c == ("__debug__" : Str)) = false := by decide)
    (hst : starEach (e :: es) X.env = (false, PySem.eval e X.env) :: starEach es X.env := by rfl) (hpl : (backTo pos (starEach es X.env)).any (·.1) = false := by rfl)
    (ht : PySem.eval (.Call (.Attribute (.Name c np) m apos) (e :: es) [] pos) X.env = (do
      let ov ← PySem.eval (.Name c np) X.env
      standAt apos.atName
      let (f, first) ← holding [ov] (getMethod ov m pl)
      callWith pos f first (backTo pos (starEach (e :: es) X.env)) (backToKw pos (keywordEach [] X.env))) := by rfl) :
    PE X (.Call (.Attribute (.Name c np) m apos) (e :: es) [] pos) (tM k E (cmthP c n cf ms)) :=
  imp (pe_cmthS (F := WE E) hg hm r cm G hr hb (fun σ => passAt tk σ) ha hdb hst hpl ht) fun σ H Q h => tG.mono (tG.bnd (R1 := RepL k) h) fun vs H1 ⟨W, us, ru, env, st, o, h1, h2, h3, h4⟩ => by
    dsimp only at h3
    split at h3
    · rename_i hl
      exact runP_sp (us := .cls c :: us) hl h1 (RepL.cons rfl ru) h3 h4
    · cases h3
end
end Mi
namespace Mi
open PySem PySem.Spec PyProof.Rows L2
/-! ### x(..), x a local that holds a class -/
def makeL (i : Nat) (c : Str) (n : Nat) (cf : CF) (ds : List Val) (ms : M (List Val)) : M Val := fun env st => match env[i]? with
  | some (some (.cls c')) => if c' = c then makeP c n cf ds ms env st else none
  | _ => none
section
variable {X : Cx} {k : Kx} {E : WX}
theorem pe_mkLS {CX : CXT} {kk i : Nat} {C f : Addr} {x : Str} {fd : FuncData} {ps : List Str} {sp : Sp} {ds : List Value} {dvs : List V} {F : L2.St → XK} {t : TA} {e : Expr} {es : List Expr} {p pos : Pos} (hn : PE X (.Name x p) (tVar i)) (M : Mk X.K C f) (G : FnOk X.prog X.w X.K X.mg X.base CX kk f fd ps sp) (hr : Room (kk + 1) X.A)
    (hb : Binds X.K fd ps ds) (hd : Vals dvs ds) (hx : ∀ σ, PassesAt CX X σ (F σ)) (ha : PA X (e :: es) t) (he : starEach (e :: es) X.env = (false, PySem.eval e X.env) :: starEach es X.env := by rfl) (hpl : (backTo pos (starEach es X.env)).any (·.1) = false := by rfl) :
    PE X (.Call (.Name x p) (e :: es) [] pos) (fun σ H Q => σ[i]? = some (some (.ref C)) ∧ tMkS C sp dvs F t σ H Q) := by
  refine ⟨fun pins s σ H Q I h => ?_⟩
  obtain ⟨hσ, h⟩ := h
  refine wpAny_Call_Name_kw (thn (hn.run pins s σ H (fun v H' => v = .ref C ∧ H' = H) I ⟨_, hσ, rfl, rfl⟩) fun u s0 ⟨v, H0, I0, rv, ev, eH⟩ => ?_)
  subst ev
  subst eH
  obtain rfl : u = Value.ref C := rv
  exact PySem.W.callWith_K (h₀ := X.base) I.ok.mod.kin M.kp (thn (ha.run pos pins s0 σ H0 _ I0 h) fun us s1 ⟨vs, H1, I1, r, q⟩ => ⟨I1.kIn, run_mkS M G hr hb hd (hx σ) I1 r q⟩) he hpl
theorem me_makeL {kk n i : Nat} {f : Addr} {x c : Str} {fd : FuncData} {ps : List Str} {cf : CF} {ds : List Val} {dus : List Value} {dvs : List V} {ms : M (List Val)} {e : Expr} {es : List Expr} {p pos : Pos} (hn : PE X (.Name x p) (tVar i)) (M : Mk X.K (k.cl c) f) (G : FnOk X.prog X.w X.K X.mg X.base (L2.CX X.prog X.w) kk f fd ps (spM k n cf)) (hr : Room (kk + 1) X.A)
    (hb : Binds X.K fd ps dus) (hv : Vals dvs dus) (hd : ∀ W H, RepL k W H ds dvs) (tk : Takes X E) (ha : PA X (e :: es) (tMa k E ms)) (he : starEach (e :: es) X.env = (false, PySem.eval e X.env) :: starEach es X.env := by rfl) (hpl : (backTo pos (starEach es X.env)).any (·.1) = false := by rfl) :
    PE X (.Call (.Name x p) (e :: es) [] pos) (tM k E (makeL i c n cf ds ms)) :=
  imp (pe_mkLS (F := WE E) hn M G hr hb hv (fun σ => passAt tk σ) ha he hpl) fun σ H Q ⟨W, env, st, o, h1, h2, h3, h4⟩ => by
    unfold makeL at h3
    split at h3
    · rename_i c' hc
      split at h3
      · rename_i ec
        subst ec
        obtain ⟨v, hv, rv⟩ := h2.get hc
        have ev : v = .ref (k.cl c') := rv
        subst ev
        exact ⟨hv, makeP_read hd ⟨W, env, st, o, h1, h2, h3, h4⟩⟩
      · cases h3
    · cases h3
/-! ### xs.extend(ys) -/
end
end Mi
namespace Mi
open PySem L2
/-! ### running a mirror by rewriting: what follows a step stands unapplied, so that nothing ahead of its turn is run -/
def bK {α β : Type} : Res α → (α → M β) → Env → Res β
  | some (.ok a, s), f, env => f a env s
  | some (.error x, s), _, _ => some (.error x, s)
  | none, _, _ => none
@[simp] theorem bK_ok {α β : Type} {a : α} {s : Sto} {f : α → M β} {env : Env} : bK (some (.ok a, s)) f env = f a env s := rfl
@[simp] theorem bK_err {α β : Type} {x : Exc} {s : Sto} {f : α → M β} {env : Env} : bK (some (.error x, s)) f env = some (.error x, s) := rfl
@[simp] theorem bK_none {α β : Type} {f : α → M β} {env : Env} : bK none f env = none := rfl
def lR {α : Type} : Option α → Sto → Res α
  | some c, s => some (.ok c, s)
  | none, _ => none
@[simp] theorem lR_some {α : Type} {c : α} {s : Sto} : lR (some c) s = some (.ok c, s) := rfl
@[simp] theorem lR_none {α : Type} {s : Sto} : lR (none : Option α) s = none := rfl
def lSR {α : Type} : Option (α × Sto) → Res α
  | some (c, s) => some (.ok c, s)
  | none => none
@[simp] theorem lSR_some {α : Type} {c : α} {s : Sto} : lSR (some (c, s)) = some (.ok c, s) := rfl
def vR : Option (Option Val) → Sto → Res Val
  | some (some v), s => some (.ok v, s)
  | _, _ => none
@[simp] theorem vR_some {v : Val} {s : Sto} : vR (some (some v)) s = some (.ok v, s) := rfl
section
variable {α β : Type} {env : Env} {st : Sto}
@[simp] theorem x_ret {a : α} : ret a env st = some (.ok a, st) := rfl
@[simp] theorem x_bnd {m : M α} {f : α → M β} : bnd m f env st = bK (m env st) f env := by
  unfold bnd bK
  split <;> simp_all
@[simp] theorem x_lift {o : Sto → Option α} : lift o env st = lR (o st) st := by
  unfold lift lR
  cases o st <;> rfl
@[simp] theorem x_liftS {o : Sto → Option (α × Sto)} : liftS o env st = lSR (o st) := by
  unfold liftS lSR
  cases o st <;> rfl
@[simp] theorem x_var {i : Nat} : var i env st = vR env[i]? st := by
  unfold var vR
  split <;> simp_all
@[simp] theorem x_bin {f : Sto → Val → Val → Option Val} {ma mb : M Val} : bin f ma mb env st = bK (ma env st) (fun a => bnd mb fun b => lift fun st => f st a b) env := x_bnd
@[simp] theorem x_un {f : Sto → Val → Option Val} {ma : M Val} : un f ma env st = bK (ma env st) (fun a => lift fun st => f st a) env := x_bnd
@[simp] theorem x_asB {m : M Val} : asB m env st = bK (m env st) (fun a => lift fun _ => asBool a) env := x_bnd
@[simp] theorem asBool_bl {b : Bool} : asBool (.bl b) = some b := rfl
@[simp] theorem x_andB {a b : M Bool} : andB a b env st = bK (a env st) (fun c => if c then b else ret false) env := x_bnd
@[simp] theorem x_orB {a b : M Bool} : orB a b env st = bK (a env st) (fun c => if c then ret true else b) env := x_bnd
@[simp] theorem x_notB {a : M Bool} : notB a env st = bK (a env st) (fun c => ret (!c)) env := x_bnd
@[simp] theorem x_andV {a b : M Val} : andV a b env st = bK (asB a env st) (fun c => if c then b else ret (.bl false)) env := x_bnd
@[simp] theorem x_orV {a b : M Val} : orV a b env st = bK (asB a env st) (fun c => if c then ret (.bl true) else b) env := x_bnd
@[simp] theorem x_notV {a : M Val} : notV a env st = bK (asB a env st) (fun c => ret (.bl (!c))) env := x_bnd
@[simp] theorem x_ifV {c : M Bool} {a b : M Val} : ifV c a b env st = bK (c env st) (fun t => if t then a else b) env := x_bnd
@[simp] theorem x_chain {f g : Sto → Val → Val → Option Val} {ma mb mc : M Val} : chain f g ma mb mc env st = bK (ma env st) (fun a => bnd mb fun b => bnd (lift fun st => (f st a b).bind asBool) fun t => if t then bnd mc fun c => lift fun st => g st b c else ret (.bl false)) env := x_bnd
@[simp] theorem x_consM {m : M Val} {ms : M (List Val)} : consM m ms env st = bK (m env st) (fun a => bnd ms fun as => ret (a :: as)) env := x_bnd
@[simp] theorem x_nilM : nilM env st = some (.ok [], st) := rfl
@[simp] theorem x_app {f : Sto → List Val → Option Val} {ms : M (List Val)} : app f ms env st = bK (ms env st) (fun as => lift fun st => f st as) env := x_bnd
@[simp] theorem x_mkTup {ms : M (List Val)} : mkTup ms env st = bK (ms env st) (fun xs => lift fun _ => if xs.length ≤ LIM then some (.tup xs) else none) env := x_bnd
@[simp] theorem x_callM {n : Nat} {c : CF} {ds : List Val} {ms : M (List Val)} : callM n c ds ms env st = bK (ms env st) (fun us _ st => if (us ++ ds).length = n then c (us ++ ds) st else none) env := x_bnd
@[simp] theorem x_callP {n : Nat} {c : CF} {ds : List Val} {ms : M (List Val)} : callP n c ds ms env st = bK (ms env st) (fun us _ st => if (us ++ ds).length = n then runP c (us ++ ds) st else none) env := x_bnd
/-! statements -/
def sR : Option (Out × Env × Sto) → S → Option (Out × Env × Sto)
  | some (.next, e, s), f => f e s
  | o, _ => o
@[simp] theorem sR_next {e : Env} {s : Sto} {f : S} : sR (some (.next, e, s)) f = f e s := rfl
@[simp] theorem sR_ret {v : Val} {e : Env} {s : Sto} {f : S} : sR (some (.ret v, e, s)) f = some (.ret v, e, s) := rfl
@[simp] theorem sR_err {v : Exc} {e : Env} {s : Sto} {f : S} : sR (some (.err v, e, s)) f = some (.err v, e, s) := rfl
@[simp] theorem sR_cont {e : Env} {s : Sto} {f : S} : sR (some (.cont, e, s)) f = some (.cont, e, s) := rfl
@[simp] theorem sR_brk {e : Env} {s : Sto} {f : S} : sR (some (.brk, e, s)) f = some (.brk, e, s) := rfl
@[simp] theorem x_sSeq {a b : S} : sSeq a b env st = sR (a env st) b := by
  unfold sSeq sR
  split <;> simp_all
def eK {γ : Type} : Res γ → (γ → S) → Env → Option (Out × Env × Sto)
  | some (.ok a, s), f, e => f a e s
  | some (.error x, s), _, e => some (.err x, e, s)
  | none, _, _ => none
@[simp] theorem eK_ok {γ : Type} {a : γ} {s : Sto} {e : Env} {f : γ → S} : eK (some (.ok a, s)) f e = f a e s := rfl
@[simp] theorem eK_err {γ : Type} {x : Exc} {s : Sto} {e : Env} {f : γ → S} : eK (some (.error x, s)) f e = some (.err x, e, s) := rfl
@[simp] theorem eK_none {γ : Type} {e : Env} {f : γ → S} : eK none f e = none := rfl
@[simp] theorem x_sBnd {m : M α} {f : α → S} : sBnd m f env st = eK (m env st) f env := by
  unfold sBnd eK
  split <;> simp_all
@[simp] theorem x_sExpr {m : M Val} : sExpr m env st = eK (m env st) (fun _ => sNext) env := x_sBnd
@[simp] theorem x_sRet {m : M Val} : sRet m env st = eK (m env st) (fun v env st => some (.ret v, env, st)) env := x_sBnd
@[simp] theorem x_sSet {i : Nat} {m : M Val} : sSet i m env st = eK (m env st) (fun v env st => some (.next, env.set i (some v), st)) env := x_sBnd
@[simp] theorem x_sIf {c : M Bool} {a b : S} : sIf c a b env st = eK (c env st) (fun t => if t then a else b) env := x_sBnd
@[simp] theorem x_sNext : sNext env st = some (.next, env, st) := rfl
@[simp] theorem x_sPar {i j : Nat} {ms : M (List Val)} : sPar i j ms env st = eK (ms env st) (fun xs env st => match xs with
  | [a, b] => some (.next, (env.set i (some a)).set j (some b), st)
  | _ => none) env := x_sBnd
def oR : Option (Out × Env × Sto) → Res Val
  | some (.ret v, _, s) => some (.ok v, s)
  | some (.next, _, s) => some (.ok .non, s)
  | some (.err x, _, s) => some (.error x, s)
  | _ => none
@[simp] theorem oR_ret {v : Val} {e : Env} {s : Sto} : oR (some (.ret v, e, s)) = some (.ok v, s) := rfl
@[simp] theorem oR_next {e : Env} {s : Sto} : oR (some (.next, e, s)) = some (.ok .non, s) := rfl
@[simp] theorem oR_err {x : Exc} {e : Env} {s : Sto} : oR (some (.err x, e, s)) = some (.error x, s) := rfl
end
end Mi
namespace Mi
open PySem L2
/-! ### running comprehensions, loops, calls over lists of coded things -/
section
variable {env : Env} {st : Sto}
@[simp] theorem x_makeP {c : Str} {n : Nat} {cf : CF} {ds : List Val} {ms : M (List Val)} : makeP c n cf ds ms env st = bK (ms env st) (fun us _ st => if (us ++ ds).length + 1 = n then runMk c cf (us ++ ds) st else none) env := x_bnd
@[simp] theorem x_methP {c m : Str} {n : Nat} {cf : CF} {ds : List Val} {mo : M Val} {ms : M (List Val)} : methP c m n cf ds mo ms env st = bK (mo env st) (fun a env st => if isOf c m st a then bnd ms (fun us _ st => if (a :: (us ++ ds)).length = n then runP cf (a :: (us ++ ds)) st else none) env st else none) env := x_bnd
@[simp] theorem x_itS {m : M Val} : itS m env st = bK (m env st) (fun a => lift fun _ => stillOf a) env := x_bnd
@[simp] theorem x_cmpV {p : Int → Int → Bool} {i j : Int} : cmpV p st (.int i) (.int j) = some (.bl (p i j)) := rfl
@[simp] theorem x_sFldV {own : Str → Bool} {f : Str} {mo mv : M Val} : sFldV own f mo mv env st = eK (mv env st) (fun y => sBnd mo fun a env st => match a with
  | .ref i => match st[i]? with
    | some (.ins c ks xs) => if own c = true ∧ ks.length < 900 then some (.next, env, st.set i (.ins c (putK f ks) (putX f y ks xs))) else none
    | _ => none
  | _ => none) env := x_sBnd
@[simp] theorem x_part {m : M Val} : part m env st = bK (m env st) (fun a => lift fun _ => (intOf a).map some) env := x_bnd
@[simp] theorem x_nopart : nopart env st = some (.ok none, st) := rfl
@[simp] theorem x_sliceM {ma : M Val} {ml mh : M (Option Int)} : sliceM ma ml mh env st = bK (ma env st) (fun a => bnd ml fun lo => bnd mh fun hi => lift fun st => cutVal st a lo hi) env := x_bnd
@[simp] theorem intOf_int {i : Int} : intOf (.int i) = some i := rfl
@[simp] theorem addV_int {i j : Int} : addV st (.int i) (.int j) = some (.int (i + j)) := rfl
@[simp] theorem cutVal_tup {xs : List Val} {lo hi : Option Int} : cutVal st (.tup xs) lo hi = some (.tup (cutL xs lo hi)) := rfl
@[simp] theorem cutVal_lst {xs : List Val} {lo hi : Option Int} : cutVal st (.lst xs) lo hi = some (.lst (cutL xs lo hi)) := rfl
@[simp] theorem x_m1 {f : Sto → Val → Val → Option Val} {mo ma : M Val} : m1 f mo ma env st = bK (mo env st) (fun a => bnd (lift fun _ => strOf a) fun _ => bnd ma fun b => lift fun st => f st a b) env := x_bnd
@[simp] theorem strOf_str {x : Str} : strOf (.str x) = some x := rfl
@[simp] theorem x_lm {f : Sto → Val → List Val → Option (Val × Sto)} {mo : M Val} {ms : M (List Val)} : lm f mo ms env st = bK (mo env st) (fun a => bnd (lift fun st => isLst st a) fun _ => bnd ms fun as => liftS fun st => f st a as) env := x_bnd
end
end Mi
namespace Mi
open PySem PySem.Spec PyProof.Rows L2
section
variable {X : Cx} {k : Kx}
/-! ### a[i] by an own __getitem__ -/
theorem fun_fnIn {K : PySem.W.Frag} {x qual : Str} {st : Stmt} {f : Addr} {fd : FuncData} (h : Fun K x qual st f fd) : PySem.W.fnIn K f = true := by
  obtain ⟨oc, od, kV, doc, pm, an, cdv, ct, osl, e, l, c⟩ := h.ex
  unfold PySem.W.fnIn
  rw [l]
theorem run_ownX {CX : CXT} {kk : Nat} {f : Addr} {fd : FuncData} {ps : List Str} {sp : Sp} {F : XK} {A : Around} {pins : List (Addr × Obj)} {σ : L2.St} {H : Hp} {s : Shared} {Q : VK} {vs : List V} {us : List Value} (G : FnOk X.prog X.w X.K X.mg X.base CX kk f fd ps sp) (hb : Binds X.K fd ps []) (hr : Room kk A) (hfr : A.frames = X.A.frames) (hx : PassesAt CX X σ F) (I : Inv X pins σ H s) (r : Vals vs us) (h : sp vs H Q F) :
    wpAny (model X.prog X.w) A (call (.ref f) us) (EP X pins σ Q) X.xe s := by
  have e0 : Env0 X.prog X.w X.K X.mg X.base A X.stack s H := by
    have e := I.env0
    exact ⟨by rw [hfr]; exact e.frames, e.mod, e.bs, e.bsz, e.funs, e.frf, e.hok, e.bare⟩
  have hl : us.length = ps.length := by
    rw [← r.length]
    exact G.len _ _ _ _ h
  have b := hb s us I.kIn (by rw [List.append_nil]; exact hl)
  rw [List.append_nil] at b
  refine wpAny_call (codeAny_mono (G.run A X.stack s H ⟨us, []⟩ us vs Q _ hr e0 b r h) fun res s' hq => ?_)
  match res, hq with
  | .error e, z => exact hx pins H s e s' I z
  | .ok (.ret u), z => exact I.after z
  | .ok .next, z => exact z.elim
  | .ok .brk, z => exact z.elim
  | .ok .cont, z => exact z.elim
def PlainIxO (b : Expr) : Prop := ∀ o i, subscripted b true o i = runValue (.builtin "lifetime.subscript" ⟨[o, i], []⟩)
def tIdxG (K : PySem.W.Frag) (C : Addr) (sp : Sp) (E : L2.St → XK) (ta tb : TE) : TE := fun σ H Q => ta σ H fun x H1 => tb σ H1 fun y H2 => (rIxL K x y H2 Q ∨ (rIxT K x y H2 Q ∨ rIxS x y H2 Q)) ∨ ∃ a dx fs, x = .ref a ∧ H2 a = some (.ins C dx fs) ∧ sp [x, y] H2 Q (E σ)
theorem pe_idxG {CX : CXT} {kk : Nat} {C f : Addr} {fd : FuncData} {ps : List Str} {sp : Sp} {F : L2.St → XK} {ta tb : TE} {a b : Expr} {pos : Pos} (ha : PE X a ta) (hb : PE X b tb) (hs : PlainIx b) (hs' : PlainIxO b) (hm : Meth X.K C "__getitem__" f) (hf : PySem.W.fnIn X.K f = true) (G : FnOk X.prog X.w X.K X.mg X.base CX kk f fd ps sp) (hr : Room (kk + 1) X.A) (hbd : Binds X.K fd ps []) (hx : ∀ σ, PassesAt CX X σ (F σ)) :
    PE X (.Subscript a b pos) (tIdxG X.K C sp F ta tb) := by
  refine ⟨fun pins s σ H Q I h => Subscript_ (binT ha hb I h fun v u s2 x y H2 I2 rx ry q => ?_)⟩
  rcases q with q | ⟨p, dx, fs, ex, hp, q⟩
  · exact (ix_list.or (ix_tup.or ix_str)) a b pins s2 σ H2 x y v u Q I2 rx ry q (hs _ _)
  · subst ex
    have eu : v = Value.ref p := rx
    subst eu
    obtain ⟨mA, J, _⟩ := ins_get I2.hok hp
    obtain ⟨od, J, _⟩ := J.look
    obtain ⟨m, hF⟩ := I2.fr
    exact PySem.W.sub_K hF I2.ok.mod.kin J hm.at_ hf hm.fn (run_ownX (vs := [.ref p, y]) (us := [.ref p, u]) G hbd hr.in1 rfl (hx σ) I2 (.cons rfl (.cons ry .nil)) q) (hs' _ _)
def idxG (c : Str) (cf : CF) (ma mb : M Val) : M Val := bnd ma fun a => bnd mb fun b _ st => match clsAt st a with
  | some (c', _) => if c' = c then runP cf [a, b] st else none
  | none => match idxV st a b with
    | some z => some (.ok z, st)
    | none => none
theorem idxG_read {E : WX} {c : Str} {cf : CF} {ma mb : M Val} {σ : L2.St} {H : Hp} {Q : VK} (h : tM k E (idxG c cf ma mb) σ H Q) : tIdxG k.K (k.cl c) (spM k 2 cf) (WE E) (tM k E ma) (tM k E mb) σ H Q :=
  tG.mono (tG.bnd (R1 := RepV k) h) fun x H1 ⟨W, a, ra, h1⟩ => by
    refine tG.mono (At.bnd (R1 := RepV k) (W := W) (fun W H => RepV k W H a x) (fun l r => r.le l) ra h1) fun y H2 ⟨W2, b, ra2, rb, env2, st2, o2, g1, g2, g3, g4⟩ => ?_
    dsimp only at g3
    split at g3
    · rename_i c' ks hc
      split at g3
      · rename_i ec
        subst ec
        obtain ⟨p, dx, fs, ex, hp⟩ := clsAt_rep g1 ra2 hc
        exact .inr ⟨p, dx, fs, ex, hp, runP_sp rfl g1 (RepL.cons ra2 (RepL.cons rb rl_nil)) g3 g4⟩
      · cases g3
    · split at g3
      · rename_i z hz
        cases g3
        exact .inl (rd_idx W2 H2 st2 a b x y _ Q g1 ra2 rb hz g4)
      · cases g3
theorem me_idxG {E : WX} {kk : Nat} {c : Str} {f : Addr} {fd : FuncData} {ps : List Str} {cf : CF} {a b : Expr} {ma mb : M Val} {pos : Pos} (ha : PE X a (tM k E ma)) (hb : PE X b (tM k E mb)) (hs : PlainIx b) (hs' : PlainIxO b) (hm : Meth X.K (k.cl c) "__getitem__" f) (hf : PySem.W.fnIn X.K f = true) (G : FnOk X.prog X.w X.K X.mg X.base (L2.CX X.prog X.w) kk f fd ps (spM k 2 cf)) (hr : Room (kk + 1) X.A) (hbd : Binds X.K fd ps []) (tk : Takes X E) (hk : X.K = k.K := by rfl) :
    PE X (.Subscript a b pos) (tM k E (idxG c cf ma mb)) :=
  imp (pe_idxG ha hb hs hs' hm hf G hr hbd (fun σ => passAt tk σ)) fun σ H Q h => by
    rw [hk]
    exact idxG_read h
@[simp] theorem x_idxG {c : Str} {cf : CF} {ma mb : M Val} {env : Env} {st : Sto} : idxG c cf ma mb env st = bK (ma env st) (fun a => bnd mb fun b _ st => match clsAt st a with
  | some (c', _) => if c' = c then runP cf [a, b] st else none
  | none => match idxV st a b with
    | some z => some (.ok z, st)
    | none => none) env := x_bnd
end
/-! ### xs[::0 - 1] -/
theorem pe_revL0 {X : Cx} {e : Expr} {te : TE} {k0 k : Nat} {p0 p1 p2 p3 pos : Pos} (he : PE X e te) : PE X (.Subscript e (.Slice none none (some (.BinOp (.Constant (.int 0) k0 p0) .Sub (.Constant (.int 1) k p1) p2)) p3) pos) (tRevL X.K te) := by
  refine ⟨fun pins s σ H Q I h => ?_⟩
  refine Subscript_ (thn (he.run pins s σ H _ I h) fun v s1 ⟨x, H1, I1, r1, q1⟩ => ?_)
  obtain ⟨a, xs, ex, hx, q⟩ := q1
  subst ex
  cases r1
  have hst : PO X (some (.BinOp (.Constant (.int 0) k0 p0) .Sub (.Constant (.int 1) k p1) p2)) (tPart (tOp (rI0 fun i j => .int (i - j)) (tC (.int 0)) (tC (.int 1)))) := po_some (pe_op op_sub pe_int pe_int)
  refine wpAny_Slice (thn (po_none.run pins s1 σ H1 (fun o H2 => o = none ∧ H2 = H1) I1 ⟨rfl, rfl⟩) fun vl s2 ⟨l, H2, I2, pl, el, e2⟩ => ?_)
  subst el e2
  refine thn (po_none.run pins s2 σ H2 (fun o H3 => o = none ∧ H3 = H2) I2 ⟨rfl, rfl⟩) fun vu s3 ⟨u, H3, I3, pu, eu, e3⟩ => ?_
  subst eu e3
  refine thn (hst.run pins s3 σ H3 (fun o H4 => o = some (-1) ∧ H4 = H3) I3 ⟨0, 1, rfl, rfl, -1, rfl, rfl, rfl⟩) fun vs s4 ⟨o, H4, I4, ps, eo, e4⟩ => ?_
  subst eo e4
  have I5 : Inv X pins σ H4 { s4 with heap := s4.heap.push { cls := .type "slice", data := .fields #[vl, vu, vs] } } := I4.kept (t' := s4.toks) fun b ob q => Heap.get?_push_of_some _ q
  obtain ⟨its, r, ht, hz⟩ := I5.list hx
  have hlen := r.length
  show wpAny (model X.prog X.w) X.A (subscriptTail e (.Slice none none (some (.BinOp (.Constant (.int 0) k0 p0) .Sub (.Constant (.int 1) k p1) p2)) p3) (.ref a) (.ref s4.heap.objs.size)) (EP X pins σ Q) X.xe { s4 with heap := s4.heap.push { cls := .type "slice", data := .fields #[vl, vu, vs] } }
  refine tail_any (ops := [.ref a, .ref s4.heap.objs.size]) ht.isList.typeIs (PySem.slot_list_getitem.lookup) ?_ (by with_unfolding_all rfl)
  refine wpAny_getItem_list_slice ht.isList (Heap.IsSliceOf.new _ vl vu vs) pl pu ps (by decide) ?_ (by rw [List.size_toArray]; omega)
  rw [PySem.W.krv_pick]
  refine ⟨.ref _, _, I5.laid (t' := s4.toks) (o := .lst xs.reverse) (fun b ob q => Heap.get?_push_of_some _ q) (Nat.le_refl _) ?_, rfl, q _ (I5.hok.fresh (Nat.le_refl _))⟩
  exact ⟨by rw [List.length_reverse]; exact hz, _, 0, r.reverse, Heap.get?_push_size _ rfl⟩
theorem me_rev0 {X : Cx} {k : Kx} {E : WX} {e : Expr} {j j0 : Nat} {p0 p1 p2 p3 pos : Pos} {m : M Val} (he : PE X e (tM k E m)) (hk : X.K = k.K := by rfl) :
    PE X (.Subscript e (.Slice none none (some (.BinOp (.Constant (.int 0) j0 p0) .Sub (.Constant (.int 1) j p1) p2)) p3) pos) (tM k E (un revV m)) := by
  refine imp (pe_revL0 he) fun σ H Q h => ?_
  rw [hk]
  refine tG.mono (tG.bnd (R1 := RepV k) h) fun x H1 ⟨W, a, ra, h1⟩ => ?_
  obtain ⟨c, st, e, o, q⟩ := h1.lift
  unfold revV at e
  cases h : lstOf st a with
  | none =>
    rw [h] at e
    cases e
  | some xs =>
    rw [h] at e
    cases e
    obtain ⟨p, vs, e1, s, r⟩ := lstOf_rep o ra h
    exact ⟨p, vs, e1, s, fun p hp => newLst o hp r.reverse q⟩
end Mi
namespace Mi
open PySem PySem.Spec PyProof.Rows L2
/-! ### text.upper() -/
end Mi
namespace L2
open PySem PySem.Spec PyProof.Rows
/-- the ends of a suite, behind which slot i is empty -/
def offE (i : Nat) (D : Ends) : Ends := { nx := fun z G => D.nx (z.set i none) G, rt := D.rt, bk := fun z G => D.bk (z.set i none) G, ct := fun z G => D.ct (z.set i none) G }
/-- a clause: its class, its suite -/
abbrev Cla := Value × (Addr → Value → Option Addr → TS)
/-- what some clauses 'except .. as n' ask of an error, one behind the other -/
def wAll (K : PySem.W.Frag) (i : Nat) (Wo : WX) (D : Ends) : List Cla → WX
  | [] => Wo
  | q :: r => fun cls d σ H =>
    ∃ t, PySem.W.exmOne K cls q.1 = some t ∧
      (t = true → ∀ a, H a = none → q.2 a cls d (offE i D) (σ.set i (some (.ref a))) H) ∧
      (t = false → wAll K i Wo D r cls d σ H)
inductive ClaOk (X : Cx) (n : Str) : List ExceptHandler → List Cla → Prop
  | nil : ClaOk X n [] []
  | cons {y : Str} {c : Value} {ts : Addr → Value → Option Addr → TS} {t0 : Stmt} {tl : List Stmt} {p1 p2 : Pos} {hs : List ExceptHandler} {l : List Cla}
      (hc : Names X y c)
      (hsu : ∀ (z : Addr) (ob : Obj) (cl : Value) (d : Option Addr) (pn : List (Addr × Obj)), Zc cl d ob →
        (∃ vs, ob.data = .fields vs) → PSs (X.suite z ((z, ob) :: pn)) (t0 :: tl) (ts z cl d))
      (r : ClaOk X n hs l) :
      ClaOk X n (.ExceptHandler (some (.Name y p1)) (some n) (t0 :: tl) p2 :: hs) ((c, ts) :: l)
section
variable {X : Cx} {n : Str} {i : Nat} {body : List Stmt} {g0 : ExceptHandler} {gs : List ExceptHandler}
variable {l : List Cla} {pos : Pos} {tb : WX → TS} {Wo : WX}
theorem ps_try_all (e1 : X.stack = X.env :: X.outer) (e2 : X.env.frame = some X.env.locals) (e3 : X.N.Nodup)
    (e4 : X.N[i]? = some n) (e5 : X.env.kindOf n = some .local) (tk : Takes X Wo)
    (hb : ∀ (V : WX) (pn : List (Addr × Obj)) (xx : Value → Shared → Prop), Takes (X.tr pn xx) V →
      PassesOwn (model X.prog X.w) X.A X.env xx → PSs (X.tr pn xx) body (tb V))
    (hh : ClaOk X n (g0 :: gs) l) :
    PS X (.Try body (g0 :: gs) [] [] pos) (fun D σ H => tb (wAll X.K i Wo D l) D σ H) := by
  refine ⟨fun pins s σ H D I0 h0 => ?_⟩
  have okI := I0.ok
  have frX : X.A.frames = some (X.env :: X.outer) := by rw [okI.frames, e1]
  have locN : Loc X.env.scope n := .inl e5
  refine wpAny_Try_except ?_
  refine wpAny_mono ((hb (wAll X.K i Wo D l) (X.pn ++ pins)
    (fun er sa => wpAny (model X.prog X.w) X.A (noteFrame er X.env)
      (fun _ sb => wpAny (model X.prog X.w) X.A (setFlight er none)
        (fun _ sc => wpAny (model X.prog X.w) X.A (handleBy er X.env (g0 :: gs)) (SP X pins D) X.xe sc) X.xe sb) X.xe sa)
    (fun u s1 xx => ?_) PassesOwn.looking).run [] s σ H D (I0.toTry _) h0) (fun f s1 q => ?_) (fun _ _ q => q)
  · obtain ⟨z, B, sI, pq, σ1, H1, cl, d, rfl, Jt, nb, up0, sky, nz, os, ag, ask⟩ := xx
    have J0 : Inv X pins σ1 H1 sI := Jt.ofTry okI
    have sk : Sky B (X.env :: X.outer) z (Zc cl d) X.env.locals s1.heap := by
      rw [← e1]
      exact sky
    show wpAny (model X.prog X.w) X.A (noteFrame (.ref z) X.env) _ _ _
    refine Sky.land Zc.steady frX e2 sk fun ha fa ua => ?_
    have Ja : Inv X pins σ1 H1 { s1 with heap := ha } :=
      J0.landed nb fa.1 (up0.trans ua) os ag
    obtain ⟨oa, va, ga, za, da⟩ := fa.there
    have nfr : z ∉ frs (X.env :: X.outer) := fun hm => by
      obtain ⟨_, o2, g2, nf⟩ := fa.2.2.1.mem hm
      rw [ga] at g2
      cases g2
      exact nf _ da
    have nL : z ≠ X.env.locals := fun q =>
      nfr (List.mem_filterMap.mpr ⟨X.env, List.mem_cons_self, by rw [e2, q]⟩)
    have nF : z ∉ X.fs := fun hm => by
      obtain ⟨w1, w2, w3⟩ := List.mem_filterMap.mp hm
      exact nfr (List.mem_filterMap.mpr ⟨w1, List.mem_cons_of_mem _ w2, w3⟩)
    have Sa := Ja.suite ga da nz nL nF
    have go : ∀ {hs : List ExceptHandler} {m : List Cla}, ClaOk X n hs m → wAll X.K i Wo D m cl d σ1 H1 →
        wpAny (model X.prog X.w) X.A (handleBy (.ref z) X.env hs) (SP X pins D) X.xe { s1 with heap := ha } := by
      intro hs m hk
      induction hk with
      | nil =>
        intro ask
        refine wpAny_handleBy_nil ?_
        obtain ⟨k1, k2, k3, ob, vs, T, oT, tz, gb, zb, db, b1, hr⟩ := id fa
        unfold PySem.passOn
        refine wpAny_bind (wpAny_field gb db b1 ?_)
        rw [if_neg (show ¬ ((Value.ref T == Value.none) = true) by simp)]
        have fin : wpAny (model X.prog X.w) X.A (setFlight (.ref z) X.env.frame)
            (fun _ sd => wpAny (model X.prog X.w) X.A (throw (.ref z) : Sem Flow) (SP X pins D) X.xe sd) X.xe { s1 with heap := ha } := by
          rw [e2]
          refine HandSPX.setFlight_upZ fa fun hd hf ud => wpAny_throw (tk _ _ ?_)
          exact ⟨z, B, sI, pins, σ1, H1, cl, d, rfl, J0, nb, (up0.trans ua).trans ud, .inr (.inr (by rw [e1]; exact hf)), nz, os, ag, ask⟩
        first
          | exact wpAny_bind (wpAny_pure (wpAny_bind fin))
          | exact wpAny_bind fin
      | @cons y c ts t0 tl p1 p2 hs2 m2 hc hsu r ih =>
        intro ask
        obtain ⟨t, ht, yes, no⟩ := ask
        refine wpAny_handleBy_cons (codeAny_handlers_test ?_) (fun q => nomatch q)
        have LT : PySem.W.Looks (model X.prog X.w) ha (typeOf (.ref z)) cl :=
          fun A Q E s kk q => wpAny_typeOf_ref (kk _ _ ga) (by rw [za.1]; exact q)
        have LM := PySem.W.exm_one (M := model X.prog X.w) Ja.kIn LT ht
        have test : ∀ {Q E : Value → Shared → Prop}, Q c { s1 with heap := ha } →
            wpAny (model X.prog X.w) (X.A.mark (some (.ref z))) (eval (.Name y p1) X.env) Q E { s1 with heap := ha } := by
          intro Q E q
          obtain ⟨hg, hdb, hm | ⟨hm, hv, hn⟩⟩ := hc
          · exact ld_glob (X := X.suite z ((z, oa) :: (X.pn ++ pins))) Sa hg hm q hdb
          · exact ld_blt (X := X.suite z ((z, oa) :: (X.pn ++ pins))) Sa hg hm hv q hn hdb
        refine test (LM.here ?_)
        cases t with
        | true =>
          refine codeAny_handlers_suite_as ?_
          refine HandSPX.lands_againZ fa fun hd fd ud => ?_
          have Jd : Inv X pins σ1 H1 { s1 with heap := hd } :=
            J0.landed nb fd.1 ((up0.trans ua).trans ud) os ag
          obtain ⟨od, vd, gd, zd, dd⟩ := fd.there
          have Sd := Jd.suite gd dd nz nL nF
          refine store_ok (X := X.suite z ((z, od) :: (X.pn ++ pins))) (v := .ref z) Sd e3 e4 locN rfl (fun se Se => ?_) (.inr e5)
          refine wpAny_mono ((hsu z od cl d (X.pn ++ pins) zd ⟨_, dd⟩).run [] se _ H1 _ Se (yes rfl z nz)) (fun f sf q => ?_) (fun _ _ q => q.elim)
          have fin : ∀ {σf : St} {Hf : Hp} {Q : Shared → Prop}, Inv (X.suite z ((z, od) :: (X.pn ++ pins))) [] σf Hf sf →
              (∀ sg, Inv X pins (σf.set i none) Hf sg → Q sg) →
              wpAny (model X.prog X.w) X.A (do bindName X.env n .none; unbindBehindTheSuite X.env n p2) (fun _ sg => Q sg) X.xe sf :=
            fun Sf hq => gone_ok (Sf.unsuite okI) e3 e4 e5 hq
          cases f with
          | ret u =>
            obtain ⟨vf, σf, Hf, Sf, rf, qf⟩ := q
            exact fin Sf fun sg Jg => ⟨_, _, _, Jg, rf, qf⟩
          | _ =>
            obtain ⟨σf, Hf, Sf, qf⟩ := q
            exact fin Sf fun sg Jg => ⟨_, _, Jg, qf⟩
        | false =>
          show wpAny _ X.A (handleBy (.ref z) X.env hs2) _ _ _
          exact ih (no rfl)
    exact go hh ask
  · cases f with
    | next =>
      obtain ⟨σ2, H2, J2, q2⟩ := q
      exact wpAny_execs_nil ⟨σ2, H2, J2.ofTry okI, q2⟩
    | ret u =>
      obtain ⟨v2, σ2, H2, J2, r2, q2⟩ := q
      exact ⟨v2, σ2, H2, J2.ofTry okI, r2, q2⟩
    | _ =>
      obtain ⟨σ2, H2, J2, q2⟩ := q
      exact ⟨σ2, H2, J2.ofTry okI, q2⟩
end
end L2
namespace Mi
open PySem L2
/-- the suite of a clause 'except .. as n', slot i -/
def tryS (i : Nat) (suite : S) (x : Exc) (env : Env) (st : Sto) : Option (Out × Env × Sto) :=
  if noRefs x.xs then match suite ((plainE env).set i (some (.exv x.cls x.ks x.xs))) [] with
      | some (.next, env2, _) => some (.next, (plainE env2).set i none, st)
      | some (.ret v, _, _) => if noRef v then some (.ret v, [], st) else none
      | _ => none
    else none
def tryL (i : Nat) : List ((Str → Option Bool) × S) → Exc → Env → Sto → Option (Out × Env × Sto)
  | [], x, env, st => some (.err x, env, st)
  | (own, s) :: r, x, env, st => match own x.cls with
    | some true => tryS i s x env st
    | some false => tryL i r x env st
    | none => none
def sTryL (i : Nat) (b : S) (l : List ((Str → Option Bool) × S)) : S := fun env st => match b env st with
  | some (.err x, env1, st1) => tryL i l x env1 st1
  | o => o
section
variable {X : Cx} {k : Kx} {E : WX}
inductive ClaM (X : Cx) (k : Kx) (n : Str) : List ExceptHandler → List (Value × (Str → Option Bool) × S) → Prop
  | nil : ClaM X k n [] []
  | cons {y : Str} {c : Value} {own : Str → Option Bool} {s : S} {t0 : Stmt} {tl : List Stmt} {p1 p2 : Pos} {hs : List ExceptHandler} {l : List (Value × (Str → Option Bool) × S)}
      (hc : Names X y c) (ho : ∀ n t, own n = some t → PySem.W.exmOne X.K (.ref (k.cl n)) c = some t)
      (hsu : ∀ (z : Addr) (ob : Obj) (cl : Value) (d : Option Addr) (pn : List (Addr × Obj)), Zc cl d ob →
        (∃ vs, ob.data = .fields vs) → PSs (X.suite z ((z, ob) :: pn)) (t0 :: tl) (tS (k.hd (some (z, cl, d))) (fun _ _ _ _ => False) s))
      (r : ClaM X k n hs l) :
      ClaM X k n (.ExceptHandler (some (.Name y p1)) (some n) (t0 :: tl) p2 :: hs) ((c, own, s) :: l)
def claT (k : Kx) (q : Value × (Str → Option Bool) × S) : Cla := (q.1, fun z cl d => tS (k.hd (some (z, cl, d))) (fun _ _ _ _ => False) q.2.2)
theorem ClaM.ok {n : Str} {hs : List ExceptHandler} {l : List (Value × (Str → Option Bool) × S)} (h : ClaM X k n hs l) : ClaOk X n hs (l.map (claT k)) := by
  induction h with
  | nil => exact .nil
  | cons hc ho hsu r ih => exact .cons hc hsu ih
theorem tryS_ok {i : Nat} {s : S} {y : Exc} {env1 : Env} {st1 : Sto} {o : Out × Env × Sto} {D : Ends} {W W' : Wd} {H H' : Hp} {σ' : L2.St} {d : Option Addr} {a : Addr}
    (h4 : FinS k E W H D o) (l : Le W W' H H') (o' : Ok k W' H' st1) (r' : RepE k W' H' env1 σ') (rx : RepX k W' H' y (.ref (k.cl y.cls)) d) (na : H' a = none)
    (h3 : tryS i s y env1 st1 = some o) : tS (k.hd (some (a, .ref (k.cl y.cls), d))) (fun _ _ _ _ => False) s (offE i D) (σ'.set i (some (.ref a))) H' := by
  obtain ⟨_, rx1, rx2⟩ := rx
  unfold tryS at h3
  split at h3
  · rename_i hy
    cases q3 : s ((plainE env1).set i (some (.exv y.cls y.ks y.xs))) [] with
    | none =>
      rw [q3] at h3
      cases h3
    | some o3 =>
      rw [q3] at h3
      obtain ⟨r3, env3, st3⟩ := o3
      have o0 : Ok (k.hd (some (a, .ref (k.cl y.cls), d))) (W'.sub false H' []) H' [] := by
        have := o'.sub (b := false)
        exact ⟨this.nd, this.len, this.fzs, this.apart, fun i u p e => by simp at e⟩
      have ex0 : RepV (k.hd (some (a, .ref (k.cl y.cls), d))) (W'.sub false H' []) H' (.exv y.cls y.ks y.xs) (.ref a) := by
        refine ⟨a, _, d, rfl, rfl, rfl, rx1, ?_⟩
        rcases rx2 with z | ⟨dx, vs, z1, z2, z3⟩
        · exact .inl z
        · exact .inr ⟨dx, vs, z1, z2, RepL.hd (z3.other (fun p f => Or.inl f) hy) hy⟩
      have e0 : RepE (k.hd (some (a, .ref (k.cl y.cls), d))) (W'.sub false H' []) H' ((plainE env1).set i (some (.exv y.cls y.ks y.xs))) (σ'.set i (some (.ref a))) :=
        RepE.setAny (fun x hx => ⟨.ref a, rfl, by cases hx; exact ex0⟩) i (RepE.mapO (fun v u hn ru => RepV.hd (ru.other (fun p f => Or.inl f) hn) hn) r')
      have key : ∀ W2 H2 {st2}, Le (W'.sub false H' []) W2 H' H2 → Ok (k.hd (some (a, .ref (k.cl y.cls), d))) W2 H2 st2 → _ := fun W2 H2 st2 l o2 => o'.back (x := fun _ => False) (fun _ _ z => z) (fun _ z => by cases z) (fun _ z => z.elim) l o2.fzs (fun _ z => z)
      have kb : (k.hd (some (a, .ref (k.cl y.cls), d))).hd k.ex = k := rfl
      refine ⟨W'.sub false H' [], _, [], _, o0, e0, q3, ?_⟩
      cases r3 with
      | next =>
        cases h3
        intro W2 H2 σ2 l2 o2 r2
        obtain ⟨a1, a2, a3, a4⟩ := key W2 H2 l2 o2
        refine h4 _ H2 _ (l.trans a1) a2 (RepE.setAny (fun x hx => by cases hx) i (RepE.mapO (fun v u hn ru => ?_) r2))
        exact RepV.back a3 (a4 rfl) (by have := RepV.hd (z := k.ex) ru hn; rw [kb] at this; exact this) hn
      | ret v =>
        dsimp only at h3
        split at h3
        · rename_i hv
          cases h3
          intro W2 H2 u l2 o2 ru
          obtain ⟨a1, a2, a3, a4⟩ := key W2 H2 l2 o2
          exact h4 _ H2 u (l.trans a1) a2 (RepV.back a3 (a4 rfl) (by have := RepV.hd (z := k.ex) ru hv; rw [kb] at this; exact this) hv)
        · cases h3
      | _ => cases h3
  · cases h3
theorem tryL_ok {n : Str} {i : Nat} {y : Exc} {env1 : Env} {st1 : Sto} {o : Out × Env × Sto} {D : Ends} {W W' : Wd} {H H' : Hp} {σ' : L2.St} {d : Option Addr}
    (h4 : FinS k E W H D o) (lx : Le W W' H H') (o' : Ok k W' H' st1) (r' : RepE k W' H' env1 σ') (rx : RepX k W' H' y (.ref (k.cl y.cls)) d) {hds : List ExceptHandler} {l : List (Value × (Str → Option Bool) × S)} (hh : ClaM X k n hds l) :
    tryL i (l.map (·.2)) y env1 st1 = some o → wAll X.K i (fun c d σ H => E c d σ H) D (l.map (claT k)) (.ref (k.cl y.cls)) d σ' H' := by
  induction hh with
  | nil =>
    intro h3
    cases h3
    exact h4 W' H' σ' _ _ lx o' r' rx
  | @cons y' c own s t0 tl p1 p2 hs l hc ho hsu r ih =>
    intro h3
    dsimp only [List.map] at h3
    unfold tryL at h3
    dsimp only [List.map, wAll]
    cases q2 : own y.cls with
    | none =>
      rw [q2] at h3
      cases h3
    | some t =>
      rw [q2] at h3
      refine ⟨t, ho _ _ q2, fun ht a na => ?_, fun ht => ?_⟩
      · subst ht
        exact tryS_ok h4 lx o' r' rx na h3
      · subst ht
        exact ih h3
theorem ms_tryL {n : Str} {i : Nat} {body : List Stmt} {g0 : ExceptHandler} {gs : List ExceptHandler} {pos : Pos} {b : S} {l : List (Value × (Str → Option Bool) × S)} (hs : X.stack = X.env :: X.outer) (hf : X.env.frame = some X.env.locals) (hN : X.N.Nodup) (hi : X.N[i]? = some n) (hln : X.env.kindOf n = some .local) (tk : Takes X E)
    (hb : ∀ (W : WX) (pn : List (Addr × Obj)) (xe : Value → Shared → Prop), Takes (X.tr pn xe) W → PassesOwn (model X.prog X.w) X.A X.env xe → PSs (X.tr pn xe) body (tS k W b))
    (hh : ClaM X k n (g0 :: gs) l) :
    PS X (.Try body (g0 :: gs) [] [] pos) (tS k E (sTryL i b (l.map (·.2)))) :=
  impS (ps_try_all hs hf hN hi hln tk hb hh.ok) fun D σ H ⟨W, env, st, o, h1, h2, h3, h4⟩ => by
    unfold sTryL at h3
    cases q : b env st with
    | none =>
      rw [q] at h3
      cases h3
    | some o' =>
      rw [q] at h3
      obtain ⟨r, env1, st1⟩ := o'
      refine ⟨W, env, st, _, h1, h2, q, ?_⟩
      cases r with
      | err y =>
        intro W' H' σ' cc d lx o' r' rx
        dsimp only at h3
        obtain rfl := rx.1
        exact tryL_ok h4 lx o' r' rx hh h3
      | _ =>
        cases h3
        exact FinS.wx h4 (fun _ _ _ z => nomatch z)
end
end Mi
namespace Mi
open PySem
theorem var_at {i : Nat} {v : Val} {env : Env} {st : Sto} (h : env[i]? = some (some v)) : var i env st = some (.ok v, st) := by
  rw [x_var, h]
  rfl
end Mi
namespace Mi
open PySem L2
theorem kit_ty {K : PySem.W.Frag} {C : Addr} {T : String} {b : Bool} (hm : PySem.W.kitMeta T = true) (h : PySem.W.subIn K (.ref C) (.type T) = some b) : PySem.W.kitOne K (.ref C) (.type T) = some b := by
  unfold PySem.W.kitOne
  rw [if_neg (by simp)]
  show (if PySem.W.kitMeta T = true then PySem.W.subIn K (.ref C) (.type T) else none) = _
  rw [if_pos hm, h]
end Mi
/-! arguments by their names -/
namespace Mi
open PySem PySem.Spec PyProof.Rows L2 ClX
end Mi
namespace Mi
open PySem PySem.Spec PyProof.Rows L2
/-! ### calls over deep snapshots: all that stands in the store is read alone -/
mutual
/-- tuples and what is no object of the store's kinds -/
def plain : Val → Bool
  | .non | .bl _ | .int _ | .str _ | .cls _ => true
  | .tup xs | .rol xs => plains xs
  | _ => false
def plains : List Val → Bool
  | [] => true
  | x :: xs => plain x && plains xs
end
/-- everything frozen -/
def Wd.all (W : Wd) : Wd := ⟨[], fun p => W.fz p ∨ p ∈ W.rho⟩
section
variable {k : Kx} {W W' : Wd} {H H' : Hp} {st : Sto}
theorem Ok.all (o : Ok k W H st) : Ok k W.all H [] := by
  refine ⟨List.nodup_nil, rfl, fun p f => ?_, fun p m => ?_, fun i u q e => ?_⟩
  · rcases f with f | f
    · exact o.fzs p f
    · exact o.there f
  · exact nomatch m
  · rw [List.getElem?_nil] at e
    cases e
mutual
theorem RepV.plain {W2 : Wd} : ∀ {v : Val} {u : V}, RepV k W H v u → plain v = true → RepV k W2 H v u
  | .non, _, h, _ => h
  | .bl _, _, h, _ => h
  | .int _, _, h, _ => h
  | .str _, _, h, _ => h
  | .cls _, _, h, _ => h
  | .tpd _, _, _, n => nomatch n
  | .tup xs, _, h, n => by
    obtain ⟨p, vs, e, s, r⟩ := h
    exact ⟨p, vs, e, s, RepL.plain r n⟩
  | .rol xs, _, h, n => by
    obtain ⟨p, vs, e, s, r⟩ := h
    exact ⟨p, vs, e, s, RepL.plain r n⟩
  | .lst _, _, _, n => nomatch n
  | .ins _ _ _, _, _, n => nomatch n
  | .ref _, _, _, n => nomatch n
  | .exv _ _ _, _, _, n => nomatch n
  | .lam _ _ _ _ _ _, _, _, n => nomatch n
theorem RepL.plain {W2 : Wd} : ∀ {v : List Val} {u : List V}, RepL k W H v u → plains v = true → RepL k W2 H v u
  | [], _, h, _ => h
  | y :: ys, _, h, n => by
    obtain ⟨v, r, e, h1, h2⟩ := h
    have n' := Bool.and_eq_true_iff.mp n
    exact ⟨v, r, e, RepV.plain h1 n'.1, RepL.plain h2 n'.2⟩
end
end
end Mi
namespace Mi
open PySem PySem.Spec PyProof.Rows L2 PpSet
/-! ### set comprehensions of ints and texts -/
end Mi
namespace Mi
open PySem PySem.Spec PyProof.Rows L2 PpSet
/-! ### sorted({.. for .. in ..}) -/
end Mi
namespace Mi
open PySem PySem.Spec PyProof.Rows L2
/-! ### for at, x in enumerate(a list of the store), which the turns leave as long as it is -/
section
variable {X : Cx} {k : Kx} {E : WX}
/-! ### o.f += e, ints -/
/-! ### xs[lo:hi], a list that will be changed -/
def sliceS (ma : M Val) (ml mh : M (Option Int)) : M Val := bnd ma fun a => bnd ml fun lo => bnd mh fun hi => liftS fun st => (lstOf st a).map fun xs => (.ref st.length, st ++ [.lst (cutL xs lo hi)])
/-! ### an expression asked over deep snapshots -/
end
end Mi
namespace Mi
open PySem L2
/-! ### running: more steps -/
section
variable {env : Env} {st : Sto}
@[simp] theorem x_sSetT {t : Tg} {m : M Val} : sSetT t m env st = eK (m env st) (fun v env st => match bindT t v env with
  | some env' => some (.next, env', st)
  | none => none) env := x_sBnd
@[simp] theorem x_sSub {me mo mi : M Val} : sSub me mo mi env st = eK (me env st) (fun v => sBnd mo fun a => sBnd mi fun j env st => match a, j with
  | .ref i, .int n => match st[i]? with
    | some (.lst xs) => match ixN xs.length n with
      | some l => some (.next, env, st.set i (.lst (xs.set l v)))
      | none => none
    | _ => none
  | _, _ => none) env := x_sBnd
@[simp] theorem x_methM {c m : Str} {n : Nat} {cf : CF} {ds : List Val} {mo : M Val} {ms : M (List Val)} : methM c m n cf ds mo ms env st = bK (mo env st) (fun a env st => if isOf c m st a then bnd ms (fun us _ st => if (a :: (us ++ ds)).length = n then cf (a :: (us ++ ds)) st else none) env st else none) env := x_bnd
@[simp] theorem x_makeM {c : Str} {n : Nat} {cf : CF} {ds : List Val} {ms : M (List Val)} : makeM c n cf ds ms env st = bK (ms env st) (fun us _ st => if (us ++ ds).length + 1 = n then match cf (.ref st.length :: (us ++ ds)) (st ++ [.ins c [] []]) with
  | some (.ok .non, st') => some (.ok (.ref st.length), st')
  | some (.ok _, _) => none
  | some (.error x, st') => some (.error x, st')
  | none => none else none) env := x_bnd
@[simp] theorem x_sliceS {ma : M Val} {ml mh : M (Option Int)} : sliceS ma ml mh env st = bK (ma env st) (fun a => bnd ml fun lo => bnd mh fun hi => liftS fun st => (lstOf st a).map fun xs => (.ref st.length, st ++ [.lst (cutL xs lo hi)])) env := x_bnd
@[simp] theorem x_appS {f : Sto → List Val → Option (Val × Sto)} {ms : M (List Val)} : appS f ms env st = bK (ms env st) (fun as => liftS fun st => f st as) env := x_bnd
@[simp] theorem x_mkLstM {ms : M (List Val)} : mkLstM ms env st = bK (ms env st) (fun xs => liftS fun st => if xs.length ≤ LIM then some (.ref st.length, st ++ [.lst xs]) else none) env := x_bnd
@[simp] theorem isNV_non : isNV st .non .non = some (.bl true) := rfl
@[simp] theorem isNV_tup {xs : List Val} : isNV st (.tup xs) .non = some (.bl false) := rfl
@[simp] theorem notNV_non : notNV st .non .non = some (.bl false) := rfl
@[simp] theorem notNV_tup {xs : List Val} : notNV st (.tup xs) .non = some (.bl true) := rfl
@[simp] theorem eqV_ints {i j : Int} : eqV st (.int i) (.int j) = some (.bl (i == j)) := by first | rfl | exact eqV_int st i j
@[simp] theorem neV_ints {i j : Int} : neV st (.int i) (.int j) = some (.bl (!(i == j))) := rfl
theorem app_ref {i : Nat} {xs : List Val} {a : Val} (h : st[i]? = some (.lst xs)) (hl : xs.length < 16000000) : appendV st (.ref i) [a] = some (.non, st.set i (.lst (xs ++ [a]))) := by
  unfold appendV
  dsimp only
  rw [h]
  dsimp only
  rw [if_pos hl]
end
end Mi
namespace Mi
open PySem L2
/-! ### == and != of data without truth values -/
end Mi
namespace Mi
open PySem PySem.Spec PyProof.Rows L2 PpSet
/-! ### sum of ints, how often a text stands in a list -/
end Mi
namespace Mi
open PySem L2
/-! ### running statements to a wish -/
def Runs (o : Option (Out × Env × Sto)) (Q : Out → Env → Sto → Prop) : Prop := ∃ r e s, o = some (r, e, s) ∧ Q r e s
@[simp] theorem runs_some {r : Out} {e : Env} {s : Sto} {Q : Out → Env → Sto → Prop} : Runs (some (r, e, s)) Q ↔ Q r e s :=
  ⟨fun ⟨_, _, _, h, q⟩ => by cases h; exact q, fun q => ⟨_, _, _, rfl, q⟩⟩
theorem Runs.mono {o : Option (Out × Env × Sto)} {Q Q' : Out → Env → Sto → Prop} (h : Runs o Q) (hq : ∀ r e s, Q r e s → Q' r e s) : Runs o Q' := by
  obtain ⟨r, e, s, h, q⟩ := h
  exact ⟨r, e, s, h, hq r e s q⟩
theorem Runs.seq {a b : S} {env : Env} {st : Sto} {Q : Out → Env → Sto → Prop} (h : Runs (a env st) fun r e s => r = .next ∧ Runs (b e s) Q) : Runs (sSeq a b env st) Q := by
  obtain ⟨r, e, s, h, rfl, q⟩ := h
  rw [x_sSeq, h]
  exact q
/-- slots of a row of names -/
theorem g_ne {α : Type} {l : List α} {i j : Nat} {a : α} (h : i ≠ j) : (l.set i a)[j]? = l[j]? := List.getElem?_set_ne h
theorem g_eq {α : Type} {l : List α} {i : Nat} {a : α} (h : i < l.length) : (l.set i a)[i]? = some a := List.getElem?_set_self h
/-- a loop whose turns keep a wish -/
theorem runs_for {mi : M (List Val)} {t : Tg} {body : S} (I : Nat → Env → Sto → Prop) {xs : List Val} {env : Env} {st s1 : Sto} {Q : Out → Env → Sto → Prop} (hm : mi env st = some (.ok xs, s1)) (h0 : I 0 env s1)
    (hs : ∀ i x env st, xs[i]? = some x → I i env st → ∃ env1, bindT t x env = some env1 ∧ Runs (body env1 st) fun r e s => (r = .next ∨ r = .cont) ∧ I (i + 1) e s)
    (hq : ∀ e s, I xs.length e s → Q .next e s) : Runs (sFor mi t body env st) Q := by
  obtain ⟨e', s', h, hI⟩ := sFor_inv I hm h0 fun i x env st hx hi => by
    obtain ⟨e1, b, r, e, s, h, hr, q⟩ := hs i x env st hx hi
    refine ⟨e1, b, e, s, ?_, q⟩
    rcases hr with rfl | rfl
    · exact .inl h
    · exact .inr h
  exact ⟨_, _, _, h, hq _ _ hI⟩
end Mi
namespace Mi
open PySem L2
/-! ### list(range(..)) -/
def rgL (i j : Int) : List Val := (List.range (j - i).toNat).map fun (n : Nat) => .int (i + n)
def lstRg (ma mb : M Val) : M Val := bnd ma fun a => bnd mb fun b => lift fun _ => match a, b with
  | .int i, .int j => if 0 ≤ i ∧ i ≤ 16000000 ∧ 0 ≤ j ∧ j ≤ 16000000 then some (.lst (rgL i j)) else none
  | _, _ => none
def lstRg1 (ma : M Val) : M Val := bnd ma fun a => lift fun _ => match a with
  | .int j => if 0 ≤ j ∧ j ≤ 16000000 then some (.lst (rgL 0 j)) else none
  | _ => none
@[simp] theorem x_lstRg {ma mb : M Val} {env : Env} {st : Sto} : lstRg ma mb env st = bK (ma env st) (fun a => bnd mb fun b => lift fun _ => match a, b with
  | .int i, .int j => if 0 ≤ i ∧ i ≤ 16000000 ∧ 0 ≤ j ∧ j ≤ 16000000 then some (.lst (rgL i j)) else none
  | _, _ => none) env := x_bnd
@[simp] theorem x_lstRg1 {ma : M Val} {env : Env} {st : Sto} : lstRg1 ma env st = bK (ma env st) (fun a => lift fun _ => match a with
  | .int j => if 0 ≤ j ∧ j ≤ 16000000 then some (.lst (rgL 0 j)) else none
  | _ => none) env := x_bnd
end Mi
namespace Mi
open PySem PySem.Spec PyProof.Rows L2
end Mi
namespace Mi
open PySem PySem.Spec PyProof.Rows L2
section
variable {X : Cx} {k : Kx} {E : WX}
/-! ### x or y, by what x is -/
def truT : Val → Option Bool
  | .non => some false
  | .bl b => some b
  | .int i => some (i != 0)
  | .tup xs => some (!xs.isEmpty)
  | _ => none
def orTV (ma mb : M Val) : M Val := bnd ma fun a => bnd (lift fun _ => truT a) fun t => if t then ret a else mb
end
@[simp] theorem x_orTV {ma mb : M Val} {env : Env} {st : Sto} : orTV ma mb env st = bK (ma env st) (fun a => bnd (lift fun _ => truT a) fun t => if t then ret a else mb) env := x_bnd
end Mi
namespace Mi
open PySem PySem.Spec PyProof.Rows L2
end Mi
namespace Mi
open PySem PySem.Spec PyProof.Rows L2
/-! ### (a, b) = a list -/
section
variable {X : Cx} {k : Kx} {E : WX} {pos : Pos}
def gLst (K : PySem.W.Frag) (n : Nat) (t : TGs) : TG := fun v σ H Q => ∃ a xs, v = .ref a ∧ SqL K H a xs ∧ xs.length = n ∧ t xs σ H Q
theorem pg_lsq {es : List Expr} {kk : Nat} {t : TGs} {n : Nat} (hc : X.calm = true) (h : PGs X es t)
    (hn : (assignEach es X.env).length = n := by rfl) (hst : (assignEach es X.env).findIdx? (·.1) = none := by rfl) : PG X (.Tuple es kk pos) (gLst X.K n t) := by
  refine ⟨fun pins s σ H v u Q I r hw => ?_⟩
  obtain ⟨a, xs, e1, hq, hl, hw⟩ := hw
  subst e1
  cases r
  obtain ⟨its, rv, ht, hz⟩ := I.list hq
  obtain ⟨o, n', e, c1, c2, c3⟩ := ht
  have hL : s.heap.IsList a its.toArray := ⟨o, e, c1, _, c3⟩
  rw [assign_Tuple]
  refine wpAny_bind (wpAny_standAt ?_)
  unfold unpack
  rw [show (assignEach es X.env).length = its.toArray.size by simp [hn, ← hl, rv.length], hst]
  refine wpAny_bind (wpAny_holding (PySem.W.kun_itemsOf (I.ok.hd hc) hL fun h' hx => ?_))
  have I1 : Inv X pins σ H { s with heap := h' } := I.kept (t' := s.toks) fun b o e => hx b o (Nat.ne_of_lt (Heap.lt_size e)) e
  exact h.run pins _ σ H xs _ Q I1 (by simpa using rv) hw
def sSetL (ts : List Tg) (m : M Val) : S := sBnd m fun v env st => match v with
  | .lst xs => if xs.length = ts.length then match bindTs ts xs env with
    | some env' => some (.next, env', st)
    | none => none
    else none
  | _ => none
theorem setL_read {ts : List Tg} {m : M Val} {D : Ends} {σ : L2.St} {H : Hp} (h : tS k E (sSetL ts m) D σ H) : tAsg (tM k E m) (gLst k.K ts.length (gTs k.K ts)) D σ H :=
  tG.mono (tS.bnd (R := RepV k) h) fun x H1 ⟨W, a, ra, env, st, o, h1, h2, h3, h4⟩ => by
    dsimp only at h3
    cases a with
    | lst xs =>
      dsimp only at h3
      split at h3
      · rename_i hl
        cases e : bindTs ts xs env with
        | none =>
          rw [e] at h3
          cases h3
        | some env' =>
          rw [e] at h3
          cases h3
          obtain ⟨p, vs, e1, fz, hp, r⟩ := ra
          exact ⟨p, vs, e1, .inl (.inl hp), by rw [r.len]; exact hl, gTs_of r hl h2 e fun σ' r _ => h4 W H1 σ' (Le.refl _ _) h1 r⟩
      · cases h3
    | _ => cases h3
theorem ms_setL {ts : List Tg} {tg e : Expr} {m : M Val} {pos : Pos} (he : PE X e (tM k E m)) (hg : PG X tg (gLst X.K ts.length (gTs X.K ts))) (h : PS X (.Assign [tg] e pos) (tAsg (tM k E m) (gLst X.K ts.length (gTs X.K ts)))) (hk : X.K = k.K := by rfl) : PS X (.Assign [tg] e pos) (tS k E (sSetL ts m)) :=
  impS h fun D σ H h => by
    rw [hk]
    exact setL_read h
end
@[simp] theorem x_sSetL {ts : List Tg} {m : M Val} {env : Env} {st : Sto} : sSetL ts m env st = eK (m env st) (fun v env st => match v with
  | .lst xs => if xs.length = ts.length then match bindTs ts xs env with
    | some env' => some (.next, env', st)
    | none => none
    else none
  | _ => none) env := x_sBnd
end Mi
namespace Mi
open PySem PySem.Spec PyProof.Rows L2
/-! ### values as keys -/
/-- what stands at the key n -/
def atN (n : NestedKey) : List Val → List Val → Option Val
  | c :: ks, x :: xs => if tupKey c = some n then some x else atN n ks xs
  | _, _ => none
def atKx (n : Key) : List Key → List Val → Option Val
  | c :: ks, x :: xs => if c = n then some x else atKx n ks xs
  | _, _ => none
/-! ### the object of a dict of tuples -/
/-! ### rules -/
section
variable {X : Cx} {k : Kx} {E : WX} {pos : Pos}
/-! ### d[k] -/
def getD (st : Sto) (a b : Val) : Option Val := match a with
  | .ref i => match st[i]? with
    | some (.dk ks xs) => match keyV b with
      | some q => atKx q ks xs
      | none => none
    | some (.dn ks xs) => match tupKey b with
      | some n => atN n ks xs
      | none => none
    | _ => none
  | _ => none
/-! ### d[k] = v -/
end
end Mi
namespace Mi
open PySem PySem.Spec PyProof.Rows L2
/-! ### calls whose answer is frozen: what the callee made never changes any more -/
section
variable {k : Kx} {W W' : Wd} {H H' : Hp} {st st' : Sto}
def Wd.kept (W W' : Wd) : Wd := ⟨W.rho, fun p => W'.fz p ∨ p ∈ W'.rho⟩
theorem Ok.kept (o : Ok k W H st) (h : Le (W.sub false H []) W' H H') (o' : Ok k W' H' st') : Le W (W.kept W') H H' ∧ Ok k (W.kept W') H' st := by
  have keep : ∀ p u, H p = some u → H' p = some u := fun p u e => h.rest p u e fun m => nomatch m
  have fz : ∀ p, W'.fz p → W.fz p ∨ H p = none := fun p f => by
    rcases h.newf p f with (z | ⟨z, _⟩) | z
    · exact .inl z
    · cases z
    · exact .inr z
  have rh : ∀ p, p ∈ W'.rho → H p = none := fun p m => by
    rcases h.newr p m with z | z
    · cases z
    · exact z
  have le : Le W (W.kept W') H H' := ⟨⟨[], by simp [Wd.kept]⟩, fun p f => .inl (h.fz p (.inl f)), fun p u e _ => keep p u e, fun p u e _ => keep p u e, fun p u e _ => keep p u e, fun p m => .inl m, fun p f => by
    rcases f with f | f
    · exact fz p f
    · exact .inr (rh p f), h.dom⟩
  refine ⟨le, ⟨o.nd, o.len, fun p f => ?_, fun p m f => ?_, fun i u q e1 e2 => ?_⟩⟩
  · rcases f with f | f
    · exact o'.fzs p f
    · exact o'.there f
  · rcases f with f | f
    · rcases fz p f with z | z
      · exact o.apart p m z
      · exact o.there m z
    · exact o.there m (rh p f)
  · have hq : q ∈ W.rho := List.mem_of_getElem? e2
    refine (o.obj i u q e1 e2).le le ?_
    cases z : H q with
    | none => exact absurd z (o.there hq)
    | some y => exact keep q y z
end
/-! ### a def with defaults, called by names -/
end Mi
namespace Mi
open PySem PySem.Spec PyProof.Rows L2
/-! ### isinstance(e, (C, D)) of a handled error -/
end Mi
namespace Mi
open PySem L2
/-! ### [e for x in xs for y in (a tuple)] -/
theorem SqT.aside {k : Kx} {H : Hp} {p D : Addr} {vs : List V} {acc : List V} {o : HO} (h : SqT k.K H p vs) (hD : H D = some (.lst acc)) : SqT k.K (upd H D o) p vs := by
  have ne : ∀ u, H p = some u → Imm u → p ≠ D := fun u e i z => by
    rw [z, hD] at e
    cases e
    exact i
  rcases h with (h | ⟨u, h⟩) | h
  · exact .inl (.inl (by rw [upd_ne (ne _ h trivial)]; exact h))
  · exact .inl (.inr ⟨u, by rw [upd_ne (ne _ h trivial)]; exact h⟩)
  · exact .inr h
end Mi
namespace Mi
open PySem PySem.Spec PyProof.Rows L2
/-! ### lists of the store, added -/
/-! ### str of tuples and lists -/
/-! ### tuples in a tuple of such -/
end Mi
namespace Mi
open PySem PySem.Spec PyProof.Rows L2
/-! ### comprehensions over a list of the store that stays as it is -/
end Mi
namespace Mi
open PySem PySem.Spec PyProof.Rows L2
/-! ### {k: v, ..} with keys that are written texts -/
/-! ### [.. for x in a list of the store], kept in the store -/
/-! ### a list of any things against the empty list -/
end Mi
namespace Mi
open PySem PySem.Spec PyProof.Rows L2
/-! ### dicts of windows: made of pairs, as a list, how many -/
/-! ### None in a list of None and of tuples, whatever these hold -/
end Mi
namespace Mi
open PySem PySem.Spec PyProof.Rows L2
/-! ### d.get(k, v) of keys that are numbers, texts -/
end Mi
namespace Mi
open PySem PySem.Spec PyProof.Rows L2
/-! ### walking a dict whose keys are tuples -/
/-! the world beside a dict that is walked -/
end Mi
namespace Mi
open PySem PySem.Spec PyProof.Rows L2
/-! ### {k: v for x in ..}, the keys tuples -/
end Mi
namespace Mi
open PySem PySem.Spec PyProof.Rows L2 ClX
/-! ### str.replace of written texts: a token must be out already -/
end Mi
namespace Mi
open PySem PySem.Spec PyProof.Rows L2
/-! ### len(set(t)), t a tuple of tuples of ints -/
end Mi
namespace Mi
open PySem PySem.Spec PyProof.Rows L2
/-! ### xs[:c] = ys -/
/-! ### a list of any things is the empty list -/
end Mi
namespace Mi
open PySem PySem.Spec PyProof.Rows L2
/-! ### sorted of a list of ints -/
end Mi
namespace Mi
open PySem L2
/-! ### y = {..} where y is a cell: nothing is swapped -/
end Mi
namespace Mi
open PySem L2
/-! ### the mirror's words for them -/
/-! ### repr of things in which lists of the store stand -/
end Mi
namespace L2
open PySem PySem.Spec PyProof.Rows
/-! ### a lambda is made: what is written, exactly -/
/-- the heap behind the making: the code object c was there, or is new and stands in the table at P now -/
def LkMade (H H1 : Hp) (P : Addr) (ps : Array Value) (pos : Pos) (c : Addr) (q : Str) : Prop :=
  (H1 = H ∧ codeAmong pos ps.toList = some (.ref c)) ∨
  (H c = none ∧ H1 = upd (upd H P (.tbl (ps ++ #[rawInt pos.line, rawInt pos.col, .ref c]))) c (LamX.CodeO c q))
/-- the function object of a lambda -/
abbrev lkFun (X : Cx) (params : Arguments) (body : Expr) (scope : Scope) (pm : Value) (c : Addr) (ct : Value) : Obj :=
  PySem.W.kla_obj "<lambda>" (X.env.qual ++ "<lambda>") params body scope (cloFrom X.env.cells scope.names []) pm c ct
section
variable {X : Cx} {pins : List (Addr × Obj)} {σ : L2.St} {H : Hp} {s : Shared} {c P : Addr} {ps : Array Value}
variable {params : Arguments} {body : Expr} {scope : Scope} {pos : Pos} {E Q : Value → Shared → Prop}
theorem lk_make (I : Inv X pins σ H s) (TB : LamX.TabB X.base X.mg c P) (hcode : X.env.code = .ref c)
    (hP : H P = some (.tbl ps)) (ht : TriplesOk ps.toList)
    (ha : ∀ p v, codeAmong p ps.toList = some v → ∃ d, v = .ref d ∧ H d = some (LamX.CodeO d (X.env.qual ++ "<lambda>")))
    (hdef : defaultsOf params X.env = ([], []))
    (hfree : ∀ y ∈ scope.names, y.2 = .free → ∃ d, X.env.cells.lookup y.1 = some d)
    (h : ∀ (f d : Addr) (pm ct : Value) (H1 : Hp) (s' : Shared), Inv X pins σ H1 s' →
      s'.heap.get? f = some (lkFun X params body scope pm d ct) → H1 f = none → f ∉ frs X.stack →
      LkMade H H1 P ps pos d (X.env.qual ++ "<lambda>") → H1 d = some (LamX.CodeO d (X.env.qual ++ "<lambda>")) → Q (.ref f) s') :
    wpAny (model X.prog X.w) X.A (eval (.Lambda params body scope pos) X.env) Q E s := by
  have hb := TB.bm.keeps I.bk
  have hPs : s.heap.get? P = some { cls := .none, data := .fields ps } := I.hok P _ hP
  have noframe : ∀ z, s.heap.objs.size ≤ z → z ∉ frs X.stack := by
    intro z hz hm
    cases List.mem_cons.mp (I.stkSub _ hm) with
    | inl e =>
      have g := I.lt
      rw [← e] at g
      exact absurd (Nat.lt_of_lt_of_le g hz) (Nat.lt_irrefl _)
    | inr e => exact I.nofs hz e
  have C := TB.code.keeps I.bk
  have gl := I.mod.glob.keeps I.bk
  apply PySem.W.kla_eval hdef
  cases hc : codeAmong pos ps.toList with
  | some v =>
    obtain ⟨d, rfl, hd⟩ := ha pos v hc
    apply PySem.W.kla_makeFunctionHit (mg := X.mg) (c := c) (P := P) (ps := ps) (closure_ok hfree) I.ok.glob gl hcode C hPs ht hc hb
    intro ct h' tk keep big
    have J : Inv X pins σ H { s with heap := h'.push (lkFun X params body scope ((X.mg "__name__").getD .none) d ct), toks := tk } :=
      I.kept fun b o e => Heap.get?_push_of_some _ (keep b o e)
    exact h _ d _ ct H _ J (Heap.get?_push_size _ rfl) (I.hok.fresh big) (noframe _ big) (.inl ⟨rfl, hc⟩) hd
  | none =>
    apply PySem.W.kla_makeFunction (mg := X.mg) (c := c) (P := P) (ps := ps) (closure_ok hfree) I.ok.glob gl hcode C hPs ht hc TB.gP hb
    intro d ct h' tk keep lo hi rec tab
    obtain ⟨d2, oc, vs, t, e2, hoc, hdt, hv⟩ := rec
    cases e2
    have free : H d = none := I.hok.fresh lo
    have big : s.heap.objs.size ≤ h'.objs.size := by omega
    have J := LamX.inv_table (c := d) (q := X.env.qual ++ "<lambda>") (t' := tk) (more := #[rawInt pos.line, rawInt pos.col, .ref d])
      (h' := h'.push (lkFun X params body scope ((X.mg "__name__").getD .none) d ct)) I hP
      (fun b o n e => Heap.get?_push_of_some _ (keep b o n e)) (Heap.get?_push_of_some _ tab) lo
      ⟨oc, vs, t, Heap.get?_push_of_some _ hoc, hdt, hv⟩
    refine h h'.objs.size d _ ct _ _ J (Heap.get?_push_size _ rfl) ?_ (noframe _ big) (.inr ⟨free, rfl⟩) upd_same
    have lP := Heap.lt_size hPs
    rw [upd_ne (Nat.ne_of_gt hi), upd_ne (Nat.ne_of_gt (Nat.lt_of_lt_of_le lP big))]
    exact I.hok.fresh big
/-- a(): the lambda runs, in the def that was handed it (a name of slot i); what it raises is wished for at that def's slots -/
theorem lk_act {CXg : CXT} {Eg : XK} {Ng : List Str} {qg : Str} {sg : Scope} {g f d : Addr} {cdg pm ct : Value} {k i : Nat} {a : Str} {pn : List (Addr × Obj)} {xe : Value → Shared → Prop} {V : WX} {tb : XK → TE} {p1 p2 : Pos}
    (I : Inv X pins σ H s) (L : LamX.LamS X.env.scope scope) (hf : s.heap.get? f = some (lkFun X params body scope pm d ct)) (hn : H f = none) (hs : f ∉ frs X.stack)
    (hbind : bindArgs (PySem.W.kla_fn "<lambda>" (X.env.qual ++ "<lambda>") params body scope (cloFrom X.env.cells scope.names []) pm (.ref d) ct) ⟨[], []⟩ = pure [])
    (tk : Takes ((cxOf CXg X.prog X.w X.K X.mg X.base Ng qg sg g cdg X.A X.stack s H Eg).tr pn xe) V)
    (hr : Room (k + 1) (X.A.deeper (envOfC qg sg s.heap.objs.size g cdg)))
    (hbody : ∀ (A : Around) (outer : List Env) (s : Shared) (H : Hp) (F : XK), Room k (A.deeper (LamX.lamEnv X scope s.heap.objs.size f d)) → PE (LamX.lamCx X A outer s H F scope f d) body (tb F))
    (hN : Ng[i]? = some a) (hv : Vis sg a) (hd : (a == ("__debug__" : Str)) = false := by decide) (hcd : (a == ("__classdict__" : Str)) = false := by decide) :
    PE ((cxOf CXg X.prog X.w X.K X.mg X.base Ng qg sg g cdg X.A X.stack s H Eg).tr pn xe) (.Call (.Name a p1) [] [] p2)
      (fun τ G R => τ[i]? = some (some (.ref f)) ∧ G d = some (LamX.CodeO d (X.env.qual ++ "<lambda>")) ∧ tb (WE V τ) σ G R) := by
  constructor
  intro pinsZ sZ τ G R IZ ⟨hs0, hc, ht⟩
  have look := (pe_var (pos := p1) (i := i) hN hv hd hcd).run pinsZ sZ τ G (fun v G1 => v = .ref f ∧ G1 = G) IZ ⟨.ref f, hs0, rfl, rfl⟩
  apply wpAny_Call_Name_kw
  apply thn look
  intro u s1 ⟨v, G1, I1, r1, ev, eG⟩
  subst ev
  subst eG
  have eu : u = Value.ref f := r1
  subst eu
  have at1 := I1.base.keep f _ hf hn hs (fun z => nomatch (show f ∈ ([] : List Addr) from z))
  apply PySem.W.callWith_F0 ⟨_, _, _, _, at1⟩
  obtain ⟨⟨oc, vs, t, hoc, hdc, hvc⟩, _, _⟩ := I1.hok d _ hc
  apply wpAny_call
  have un : Un (frs X.stack) [] H G1 s.heap s1.heap := I1.base
  have run : codeAny (model X.prog X.w) (X.A.deeper (envOfC qg sg s.heap.objs.size g cdg)) (.call (.ref f) ⟨[], []⟩) (CR (L2.CX X.prog X.w) (envOfC qg sg s.heap.objs.size g cdg :: X.stack) X.prog X.w G1 s1 R (WE V τ)) s1 := by
    apply PySem.W.kla_callFunE hr.depth at1 rfl L.co L.gen rfl ⟨d, oc, vs, t, rfl, hoc, hdc, hvc⟩
    rw [hbind]
    apply wpAny_pure
    refine wpAny_newFunctionEnv (fun y hy => (L.own y hy).2) (fun y hy => nomatch hy) (fun h₁ hns hsb => ⟨I1.nolimit.fresh _ hsb, ?_⟩) L.kind
    have kp : ∀ b o, s1.heap.get? b = some o → h₁.get? b = some o := by
      intro b o e
      exact hsb.extBut b o (Nat.ne_of_lt (Heap.lt_size e)) (Heap.get?_push_of_some _ e)
    have J := LamX.lam_start2 (A := X.A.deeper (envOfC qg sg s.heap.objs.size g cdg)) (outer := envOfC qg sg s.heap.objs.size g cdg :: X.stack) (E := WE V τ) (tk := s1.toks + ([] : List (Str × Value)).length) (f := f) (c' := d) I L I1.env0 hr.hd un hns kp
    have bd := (hbody _ _ s1 G1 (WE V τ) (hr.deeper _)).run [] _ _ G1 R J ht
    show codeAny _ _ (.expr body (LamX.lamEnv X scope s1.heap.objs.size f d)) _ _
    apply PySem.W.kla_codeExpr
    refine wpAny_mono bd ?_ fun _ _ z => z
    intro v s' ⟨w', G', J', rv, q⟩
    exact ⟨w', G', J'.os, J'.bare, J'.base, J'.hok, rv, q⟩
  refine codeAny_mono run ?_
  intro r s' hq
  cases r with
  | error e => exact passAt tk τ pinsZ G1 s1 e s' I1 hq
  | ok fl =>
    cases fl with
    | ret u => exact I1.after hq
    | next => exact False.elim hq
    | brk => exact False.elim hq
    | cont => exact False.elim hq
/-- x(lambda: body): the def x gets the lambda and runs; ts: what its body asks, by the function, its code object, the maker's slots -/
theorem lk_call {x a : Str} {g : Addr} {k : Nat} {st : Stmt} {fd : FuncData} {Ng : List Str} {tb : XK → TE} {ts : Addr → Addr → L2.St → TS} {p lpos cpos : Pos}
    (hg : Gl X x) (hm : X.mg x = some (.ref g)) (F : Fun X.K x x st g fd) (hb : Binds X.K fd [a] []) (Sg : FnScope Ng [a] (defScope st)) (hNg : Ng[0]? = some a) (hva : Vis (defScope st) a)
    (TB : LamX.TabB X.base X.mg c P) (hcode : X.env.code = .ref c) (hr : Room (k + 2) X.A) (L : LamX.LamS X.env.scope scope) (hdef : defaultsOf params X.env = ([], []))
    (hbind : ∀ (q : Str) (cl : List (Str × Addr)) (pm cv ct : Value), bindArgs (PySem.W.kla_fn "<lambda>" q params body scope cl pm cv ct) ⟨[], []⟩ = pure [])
    (hbody : ∀ (A : Around) (outer : List Env) (s : Shared) (H : Hp) (F : XK) (f d : Addr), Room k (A.deeper (LamX.lamEnv X scope s.heap.objs.size f d)) → PE (LamX.lamCx X A outer s H F scope f d) body (tb F))
    (hrun : ∀ (cdv : Value) (s : Shared) (H : Hp) (f d : Addr) (τ : L2.St), Room (k + 1) (X.A.deeper (envOfC x (defScope st) s.heap.objs.size g cdv)) →
      (∀ (V : WX) (pn : List (Addr × Obj)) (xe : Value → Shared → Prop) (p1 p2 : Pos), Takes ((cxOf (L2.CX X.prog X.w) X.prog X.w X.K X.mg X.base Ng x (defScope st) g cdv X.A X.stack s H fun _ _ _ => False).tr pn xe) V →
        PE ((cxOf (L2.CX X.prog X.w) X.prog X.w X.K X.mg X.base Ng x (defScope st) g cdv X.A X.stack s H fun _ _ _ => False).tr pn xe) (.Call (.Name a p1) [] [] p2)
          (fun ρ G R => ρ[0]? = some (some (.ref f)) ∧ G d = some (LamX.CodeO d (X.env.qual ++ "<lambda>")) ∧ tb (WE V ρ) τ G R)) →
      PSs (cxOf (L2.CX X.prog X.w) X.prog X.w X.K X.mg X.base Ng x (defScope st) g cdv X.A X.stack s H fun _ _ _ => False) (defBody st) (ts f d τ))
    (hdb : (x == ("__debug__" : Str)) = false := by decide) (hd : (a == ("__debug__" : Str)) = false := by decide) (hcd : (a == ("__classdict__" : Str)) = false := by decide) :
    PE X (.Call (.Name x p) [.Lambda params body scope lpos] [] cpos) (fun σ H R => ∃ ps : Array Value, H P = some (.tbl ps) ∧ TriplesOk ps.toList ∧
      (∀ q v, codeAmong q ps.toList = some v → ∃ d, v = .ref d ∧ H d = some (LamX.CodeO d (X.env.qual ++ "<lambda>"))) ∧
      ∀ f d H1, LkMade H H1 P ps lpos d (X.env.qual ++ "<lambda>") → H1 d = some (LamX.CodeO d (X.env.qual ++ "<lambda>")) →
        ts f d σ { nx := fun _ H' => R .non H', rt := R } (L2.start Ng [.ref f]) H1) := by
  constructor
  intro pins s σ H R I ⟨ps, hP, ht, ha, h⟩
  apply wpAny_Call_Name_kw
  refine ld_glob I hg hm ?_ hdb
  refine PySem.W.callWith_K (h₀ := X.base) I.ok.mod.kin F.kp ?_ (by rfl) (by rfl)
  show wpAny _ _ (spliced ((false, eval (.Lambda params body scope lpos) X.env) :: backTo cpos (starEach [] X.env))) _ _ s
  apply Calls.spliced_cons
  refine lk_make I TB hcode hP ht ha hdef (L.has I.ok) fun f d pm ct H1 s' I1 hf hn hs hmade hco => ?_
  refine Calls.spliced_nil ⟨I1.kIn, ?_⟩
  apply wpAny_call
  have run := Mi.run_at (j := k + 1) (ps := [a]) (us := [.ref f]) (vs := [.ref f]) (Q := R) (E := fun _ _ _ => False) (args := ⟨[.ref f], []⟩) F Sg rfl hr I1.env0 (hb s' [.ref f] I1.kIn rfl) (.cons rfl .nil)
    (fun cdv hr' => hrun cdv s' H1 f d σ hr' fun V pn xe p1 p2 tk => lk_act (i := 0) I1 L hf hn hs (hbind _ _ _ _ _) tk hr' (fun A outer s2 H2 F2 hr2 => hbody A outer s2 H2 F2 f d hr2) hNg hva hd hcd) (h f d H1 hmade hco)
  refine codeAny_mono run ?_
  intro r s2 hq
  cases r with
  | error e =>
    obtain ⟨_, _, _, _, _, _, _, _, _, _, _, _, z⟩ := hq
    exact z.elim
  | ok fl =>
    cases fl with
    | ret u => exact I1.after hq
    | next => exact False.elim hq
    | brk => exact False.elim hq
    | cont => exact False.elim hq
end
end L2
namespace Mi
open PySem PySem.Spec PyProof.Rows L2
/-! ### x(lambda: e): a lambda without parameters, handed to a def that calls it -/
/-- what a lambda has caught -/
def caps (env : Env) : List Nat → Option (List Val)
  | [] => some []
  | j :: js => match env[j]?, caps env js with
    | some (some x), some xs => some (x :: xs)
    | _, _ => none
/-- the maker's slots, as the lambda knows them -/
def capE (n : Nat) : List Nat → List Val → Env
  | j :: js, x :: xs => (capE n js xs).set j (some x)
  | _, _ => List.replicate n none
open Classical in
/-- a(): slot 0 holds the lambda -/
noncomputable def mAct (f d : Addr) (o : HO) (τ : L2.St) (js : List Nat) (mb : M Val) : M Val := fun env st =>
  match (env[0]? : Option (Option Val)) with
  | some (some (Val.lam f' d' o' τ' js' xs)) => if f' = f ∧ d' = d ∧ o' = o ∧ τ' = τ ∧ js' = js then mb (capE τ.length js xs) st else none
  | _ => none
theorem mAct_ok {f d : Addr} {o : HO} {τ : L2.St} {js : List Nat} {mb : M Val} {xs : List Val} {r : Env} {st : Sto} :
    mAct f d o τ js mb (some (.lam f d o τ js xs) :: r) st = mb (capE τ.length js xs) st := by
  unfold mAct
  simp
/-- the lambda's frame in the def that got it -/
def lamE0 (n : Nat) (v : Val) : Env := some v :: List.replicate (n - 1) none
/-- x(lambda: e): sT the body of x with what the lambda does, js the caught slots, nT how many names x has -/
def lamP (js : List Nat) (sT : M Val → S) (nT : Nat) (mb : M Val) : M Val := fun env st =>
  match (st[0]? : Option SO), caps env js with
  | some SO.tb, some xs => if noRefs xs then match sT (fun _ _ => mb (capE env.length js xs) []) (lamE0 nT .non) [] with
      | some (.ret v, _, _) => if noRef v then some (.ok v, st) else none
      | _ => none
    else none
  | _, _ => none
/-- x calls its argument from slot 0 alone, over the empty store, and does nothing else with it -/
def LamU (sT : M Val → S) (nT : Nat) : Prop := ∀ (w : M Val) (l : Val) (r : Res Val) (v : Val) (e : Env) (s : Sto), noRef l = false → (∀ rest, w (some l :: rest) [] = r) →
  sT (fun _ _ => r) (lamE0 nT .non) [] = some (.ret v, e, s) → ∃ e' s', sT w (lamE0 nT l) [] = some (.ret v, e', s')
section
variable {k : Kx} {W : Wd} {H : Hp}
theorem caps_rep : ∀ {js : List Nat} {xs : List Val} {env : Env} {σ : L2.St}, RepE k W H env σ → caps env js = some xs → ∃ vs, Caps σ js vs ∧ RepL k W H xs vs
  | [], xs, env, σ, _, e => by
    cases e
    exact ⟨[], rfl, rfl⟩
  | j :: js, xs, env, σ, r, e => by
    unfold caps at e
    split at e
    · rename_i x ys h1 h2
      cases e
      obtain ⟨v, e1, r1⟩ := r.get h1
      obtain ⟨vs, c, r2⟩ := caps_rep r h2
      exact ⟨v :: vs, ⟨v, vs, rfl, e1, c⟩, ⟨v, vs, rfl, r1, r2⟩⟩
    · cases e
theorem rep_nones : ∀ {σ : L2.St}, RepE k W H (List.replicate σ.length none) σ
  | [] => rfl
  | o :: σ => by
    show RepE k W H (none :: List.replicate σ.length none) (o :: σ)
    exact ⟨o, σ, rfl, fun x hx => (nomatch hx), rep_nones⟩
theorem set_same {α : Type} : ∀ {l : List α} {j : Nat} {x : α}, l[j]? = some x → l.set j x = l
  | [], j, x, h => by simp at h
  | y :: l, 0, x, h => by
    have e : y = x := by simpa using h
    rw [e]
    rfl
  | y :: l, j + 1, x, h => by
    show y :: l.set j x = y :: l
    rw [set_same (l := l) (by simpa using h)]
theorem capE_rep {σ : L2.St} : ∀ {js : List Nat} {xs : List Val} {vs : List V}, Caps σ js vs → RepL k W H xs vs → RepE k W H (capE σ.length js xs) σ
  | [], xs, vs, c, r => by
    unfold capE
    exact rep_nones
  | j :: js, [], vs, c, r => by
    unfold capE
    exact rep_nones
  | j :: js, x :: xs, vs, c, r => by
    obtain ⟨v, us, e, h1, h2⟩ := c
    obtain ⟨v', us', e', h3, h4⟩ := r
    rw [e] at e'
    cases e'
    have q := RepE.set h3 j (capE_rep h2 h4)
    rw [set_same h1] at q
    exact q
/-- the lambda's call, read in the def that got it -/
theorem mAct_read {V : WX} {f d : Addr} {o : HO} {τ ρ : L2.St} {js : List Nat} {mb : M Val} {G : Hp} {Q : VK} (h : tM k V (mAct f d o τ js mb) ρ G Q) :
    ρ[0]? = some (some (.ref f)) ∧ G d = some o ∧ tM k (fun c e _ G' => WE V ρ c e G') mb τ G Q := by
  obtain ⟨W, env, st, r, h1, h2, h3, h4⟩ := h
  unfold mAct at h3
  split at h3
  · rename_i f' d' o' τ' js' xs he
    split at h3
    · rename_i hh
      obtain ⟨rfl, rfl, rfl, rfl, rfl⟩ := hh
      obtain ⟨v, e1, vs, e2, _, e4, e5, e6⟩ := h2.get he
      subst e2
      exact ⟨e1, e4, W, _, st, r, h1, capE_rep e5 e6, h3, h4⟩
    · cases h3
  · cases h3
end
section
variable {X : Cx} {k : Kx} {E : WX}
theorem me_lamP {x a : Str} {g c P : Addr} {kk : Nat} {st : Stmt} {fd : FuncData} {Ng : List Str} {o : Addr → HO} {js : List Nat} {sT : M Val → S} {mb : M Val} {nT : Nat} {params : Arguments} {body : Expr} {scope : Scope} {p lpos cpos : Pos}
    (hT : k.tb = some (P, o)) (TB : LamX.TabB X.base X.mg c P) (hcode : X.env.code = .ref c) (ho : o = fun d => LamX.CodeO d (X.env.qual ++ "<lambda>")) (hU : LamU sT nT)
    (hg : Gl X x) (hm : X.mg x = some (.ref g)) (F : Fun X.K x x st g fd) (hb : Binds X.K fd [a] []) (Sg : FnScope Ng [a] (defScope st)) (hNg : Ng[0]? = some a) (hn : Ng.length = nT) (hva : Vis (defScope st) a)
    (hr : Room (kk + 2) X.A) (L : LamX.LamS X.env.scope scope) (hdef : defaultsOf params X.env = ([], []))
    (hbind : ∀ (q : Str) (cl : List (Str × Addr)) (pm cv ct : Value), bindArgs (PySem.W.kla_fn "<lambda>" q params body scope cl pm cv ct) ⟨[], []⟩ = pure [])
    (hbody : ∀ (A : Around) (outer : List PySem.Env) (s : Shared) (H : Hp) (F : XK) (f d : Addr), Room kk (A.deeper (LamX.lamEnv X scope s.heap.objs.size f d)) → PE (LamX.lamCx X A outer s H F scope f d) body (tM k (fun c d _ G => F c d G) mb))
    (hrun : ∀ (cdv : Value) (s : Shared) (H : Hp) (w : M Val), Room (kk + 1) (X.A.deeper (envOfC x (defScope st) s.heap.objs.size g cdv)) →
      (∀ (V : WX) (pn : List (Addr × Obj)) (xe : Value → Shared → Prop) (p1 p2 : Pos), Takes ((cxOf (L2.CX X.prog X.w) X.prog X.w X.K X.mg X.base Ng x (defScope st) g cdv X.A X.stack s H fun _ _ _ => False).tr pn xe) V →
        PE ((cxOf (L2.CX X.prog X.w) X.prog X.w X.K X.mg X.base Ng x (defScope st) g cdv X.A X.stack s H fun _ _ _ => False).tr pn xe) (.Call (.Name a p1) [] [] p2) (tM k V w)) →
      PSs (cxOf (L2.CX X.prog X.w) X.prog X.w X.K X.mg X.base Ng x (defScope st) g cdv X.A X.stack s H fun _ _ _ => False) (defBody st) (tS k (fun _ _ _ _ => False) (sT w)))
    (hdb : (x == ("__debug__" : Str)) = false := by decide) (hd : (a == ("__debug__" : Str)) = false := by decide) (hcd : (a == ("__classdict__" : Str)) = false := by decide) :
    PE X (.Call (.Name x p) [.Lambda params body scope lpos] [] cpos) (tM k E (lamP js sT nT mb)) := by
  subst ho
  have base := lk_call (p := p) (lpos := lpos) (cpos := cpos) (tb := fun F => tM k (fun c d _ G => F c d G) mb) (ts := fun f d τ => tS k (fun _ _ _ _ => False) (sT (mAct f d (LamX.CodeO d (X.env.qual ++ "<lambda>")) τ js mb)))
    hg hm F hb Sg hNg hva TB hcode hr L hdef hbind hbody
    (fun cdv s H f d τ hr' act => hrun cdv s H _ hr' fun V pn xe p1 p2 tk => ⟨fun pins s2 σ2 H2 Q2 I2 h2 => (act V pn xe p1 p2 tk).run pins s2 σ2 H2 Q2 I2 (mAct_read h2)⟩) hdb hd hcd
  refine ⟨fun pins s σ H Q I h => base.run pins s σ H Q I ?_⟩
  obtain ⟨W, env, sto, r, h1, h2, h3, h4⟩ := h
  unfold lamP at h3
  split at h3
  · rename_i xs e1 e2
    split at h3
    · rename_i hnr
      split at h3
      · rename_i v0 e0 s0 hs0
        split at h3
        · rename_i hnv
          cases h3
          obtain ⟨q0, hq0, ⟨o', ps, tq, hP, htr, hcs⟩⟩ := h1.at e1
          have eP : (q0, o') = (P, _) := Option.some.inj (tq.symm.trans hT)
          cases eP
          refine ⟨ps, hP, htr, fun q v e => ?_, fun f d H1 made hco => ?_⟩
          · obtain ⟨d, a1, _, a3⟩ := hcs q v e
            exact ⟨d, a1, a3⟩
          obtain ⟨vs, cp, rl⟩ := caps_rep h2 e2
          have key : ∃ W1, Le W W1 H H1 ∧ Ok k W1 H1 sto ∧ W1.fz d := by
            rcases made with ⟨rfl, hc2⟩ | ⟨hd2, rfl⟩
            · obtain ⟨d', a1, a2, _⟩ := hcs _ _ hc2
              cases a1
              exact ⟨W, Le.refl _ _, h1, a2⟩
            · have nq : P ≠ d := ne_of_none hP hd2
              have flip : upd (upd H P (.tbl (ps ++ #[rawInt lpos.line, rawInt lpos.col, .ref d]))) d (LamX.CodeO d (X.env.qual ++ "<lambda>")) =
                  upd (upd H d (LamX.CodeO d (X.env.qual ++ "<lambda>"))) P (.tbl (ps ++ #[rawInt lpos.line, rawInt lpos.col, .ref d])) := by
                funext b
                by_cases b1 : b = d
                · subst b1
                  rw [upd_same, upd_ne (Ne.symm nq), upd_same]
                · by_cases b2 : b = P
                  · subst b2
                    rw [upd_ne b1, upd_same, upd_same]
                  · rw [upd_ne b1, upd_ne b2, upd_ne b2, upd_ne b1]
              rw [flip]
              obtain ⟨l1, o1⟩ := h1.newFr (o := LamX.CodeO d (X.env.qual ++ "<lambda>")) hd2
              have eL : (ps ++ #[rawInt lpos.line, rawInt lpos.col, Value.ref d]).toList = ps.toList ++ [rawInt lpos.line, rawInt lpos.col, Value.ref d] := by simp
              obtain ⟨l2, o2⟩ := o1.put (o := .tbl ps) (o' := .tbl (ps ++ #[rawInt lpos.line, rawInt lpos.col, .ref d])) (u := .tb) (i := 0) hq0 (by rw [upd_ne nq]; exact hP) (show ¬ Imm (HO.tbl ps) from fun z => z) ⟨_, _, tq, upd_same, by rw [eL]; exact PySem.TriplesOk_snoc _ _ _ _ htr, fun q v e => by
                rw [eL] at e
                rcases LamX.among_app _ htr e with z | z
                · obtain ⟨d', a1, a2, a3⟩ := hcs q v z
                  refine ⟨d', a1, .inl a2, ?_⟩
                  have nd : d' ≠ P := fun z => h1.apart _ (List.mem_of_getElem? hq0) (z ▸ a2)
                  rw [upd_ne nd, upd_ne (ne_of_none a3 hd2)]
                  exact a3
                · refine ⟨d, z, .inr rfl, ?_⟩
                  rw [upd_ne (Ne.symm nq), upd_same]⟩
              rw [set_same e1] at o2
              exact ⟨_, l1.trans l2, o2, .inr rfl⟩
          obtain ⟨W1, l1, ok1, fz1⟩ := key
          rw [← h2.len] at hs0
          obtain ⟨e', s', hs⟩ := hU (mAct f d (LamX.CodeO d (X.env.qual ++ "<lambda>")) σ js mb) (.lam f d (LamX.CodeO d (X.env.qual ++ "<lambda>")) σ js xs) _ v0 e0 s0 rfl (fun rest => mAct_ok) hs0
          refine ⟨W1.sub false H1 [], _, [], _, ok1.sub, ?_, hs, ?_⟩
          · unfold lamE0 L2.start
            refine ⟨some (.ref f), _, rfl, fun y hy => ⟨.ref f, rfl, ?_⟩, ?_⟩
            · cases hy
              exact ⟨vs, rfl, .inl fz1, hco, cp, RepL.other (fun p f => Or.inl f) (rl.le l1) hnr⟩
            · have q := rep_nones (k := k) (W := W1.sub false H1 []) (H := H1) (σ := List.replicate (nT - 1) none)
              rw [List.length_replicate] at q
              rw [hn]
              exact q
          · intro W' H' u l' o' ru
            obtain ⟨a1, a2, a3, a4⟩ := ok1.back (x := fun _ => False) (fun _ _ z => z) (fun _ z => by cases z) (fun _ z => z.elim) l' o'.fzs (fun _ z => z)
            exact h4 _ H' u (l1.trans a1) a2 (ru.back a3 (a4 rfl) hnv)
        · cases h3
      · cases h3
    · cases h3
  · cases h3
theorem takes_lam {A : Around} {outer : List PySem.Env} {s : Shared} {H : Hp} {F : XK} {scope : Scope} {f d : Addr} : Takes (LamX.lamCx X A outer s H F scope f d) (fun c e _ G => F c e G) := takes_of rfl rfl rfl rfl
end
end Mi
namespace Mi
open PySem PySem.Spec PyProof.Rows L2
/-! ### the end of a law whose def makes lambdas -/
/-- as run_at, its code object named -/
theorem run_atC {P : Program} {w : World} {K : PySem.W.Frag} {mg : Str → Option Value} {base : Heap} {x qual : Str} {st : Stmt} {f c : Addr} {fd : FuncData} {N ps : List Str} {j : Nat} {A : Around} {outer : List PySem.Env} {s0 : Shared} {H : Hp} {args : Args} {us : List Value} {vs : List V} {Q : VK} {E : XK} {t : TS}
    (F : Fun K x qual st f fd) (S : FnScope N ps (defScope st)) (hl : vs.length = ps.length) (hr : Room (j + 1) A) (e0 : Env0 P w K mg base A outer s0 H) (hb : BindsTo s0 fd args (ps.zip us)) (rv : Vals vs us) (hc : fd.code = .ref c)
    (body : Room j (A.deeper (envOfC qual (defScope st) s0.heap.objs.size f (.ref c))) → PSs (cxOf (L2.CX P w) P w K mg base N qual (defScope st) f (.ref c) A outer s0 H E) (defBody st) t)
    (ht : t { nx := fun _ H' => Q .non H', rt := Q } (L2.start N vs) H) : codeAny (model P w) A (.call (.ref f) args) (CR (L2.CX P w) outer P w H s0 Q E) s0 := by
  obtain ⟨oc, od, kV, doc, pm, an, cdv, ct, osl, rfl, lk, hcd⟩ := F.ex
  have ec : cdv = .ref c := hc
  subst ec
  have stays : ∀ b o, base.get? b = some o → s0.heap.get? b = some o := fun b o q => (e0.bs b o q).1
  have KX : K.In s0.heap := e0.mod.kin.keeps stays
  refine codeAny_call_function hr.depth (KX _ _ lk) rfl S.co S.gen rfl (PySem.W.codeRec_of KX hcd) (hb _ _ _ _ ?_)
  refine wpAny_newFunctionEnv_cells S.kind (fun y hy => ?_) fun env he s1 ic => ?_
  · rcases S.par y.1 (List.of_mem_zip (show (y.1, y.2) ∈ ps.zip us from hy)).1 with q | q
    · exact .inl q
    · exact .inr ⟨q, PySem.W.cellsFrom_some _ _ _ (.inl q)⟩
  subst he
  refine ⟨(e0.mod.nolimit.keeps stays).keeps ic.toInCall.keep, codeAny_func ?_⟩
  have I := inv_start (CX := L2.CX P w) (E := E) S hr.hd e0 hl rv ic
  refine wpAny_mono ((body (hr.deeper _)).run [] s1 _ H _ I ht) (fun fl s' hs => ?_) fun _ _ hs => hs
  cases fl with
  | ret u =>
    obtain ⟨v, σ', H', J, r, q⟩ := hs
    exact ⟨v, H', J.os, J.bare, J.base, J.hok, r, q⟩
  | next =>
    obtain ⟨σ', H', J, q⟩ := hs
    exact ⟨.non, H', J.os, J.bare, J.base, J.hok, rfl, q⟩
  | _ =>
    obtain ⟨_, _, _, z⟩ := hs
    exact z.elim
/-- the law's mirror says True, from a store that holds the table of its code objects -/
theorem walk_lawT {l : PySem.W.OpenLaw} {n j : Nat} {q : Program} {loose : List Str} {XP : (Str → Option Value) → Heap → Prop} {YP : World → Heap → Prop} {d : DefRec} {K : Params → PySem.W.Frag} {x : Str} {st : Stmt} {N : List Str} {s : S} {o : Addr → HO}
    (hn : l.most = some n) (hn2 : n ≤ sizeLine) (hdf : d.params.defaults = []) (hj : j + 1 ≤ 40) (hY : ∀ (w : World) (h : Heap), YP w h → (K w.params).In h) (Sc : FnScope N [x] (defScope st))
    (F : ∀ (w : World) (mg : Str → Option Value) (fa : Addr) (h : Heap), YP w h → (K w.params).In h → h.Ns mainGlobals mg → mg d.name = some (.ref fa) →
      ∃ (fd : FuncData) (c P : Addr), Fun (K w.params) "law" "law" st fa fd ∧ (∀ (s : Shared) (u : Value), BindsTo s fd ⟨[u], []⟩ [(x, u)]) ∧ fd.code = .ref c ∧
        h.get? P = some { cls := .none, data := .fields #[] } ∧ (K w.params).lookup P = none ∧ PySem.W.codeHdIn (K w.params) c P = true ∧
        ∃ cl : Str → Addr, ∀ (base : Heap) (A : Around) (outer : List PySem.Env) (s0 : Shared) (H : Hp) (E : XK), LamX.TabB base mg c P → Room j (A.deeper (envOfC "law" (defScope st) s0.heap.objs.size fa (.ref c))) →
          PSs (cxOf (L2.CX l.prog w) l.prog w (K w.params) mg base N "law" (defScope st) fa (.ref c) A outer s0 H E) (defBody st) (tS ⟨K w.params, cl, none, w, some (P, o)⟩ (fun c d _ H' => E c d H') s))
    (hs : ∀ ns : List Int, ns.length ≤ n → (∀ i ∈ ns, Builtin.Int.intBits i ≤ 1048576) → ∀ v : Val, v = .rol (ns.map .int) ∨ v = .lst (ns.map .int) → ∃ env st', s (env0 N.length [v]) [.tb] = some (.ret (.bl true), env, st')) :
    PySem.W.WalkO q loose XP YP l.row.toRowW d [] (fun f vs => PySem.call f vs) := by
  refine LamX.walk_ofTs (K := K) (k := j + 1) (x := x) (CX := fun w => L2.CX l.prog w) hn hn2 hdf (caller_room hj) hY ?_ ?_
  · intro w mg fa h Y KX G hmg
    obtain ⟨fd, c, P, FF, hb, hc, hP, nP, hcd, cl, hF⟩ := F w mg fa h Y KX G hmg
    refine ⟨fd, [(c, P)], fun vs H Q E => vs.length = 1 ∧ tS ⟨K w.params, cl, none, w, some (P, o)⟩ (fun c d _ H' => E c d H') s { nx := fun _ H' => Q .non H', rt := Q } (L2.start N vs) H, ?_, ?_, ?_, hb, ?_, ?_⟩
    · intro p hp
      rw [List.mem_singleton.mp hp]
      exact hP
    · intro p hp
      rw [List.mem_singleton.mp hp]
      exact nP
    · intro p hp
      rw [List.mem_singleton.mp hp]
      exact PySem.W.codeHd_of_K KX hcd
    · intro H a ns hlen hbits hT hS
      have tP := hT (c, P) List.mem_cons_self
      refine ⟨rfl, ?_⟩
      have okT : ∀ fz : Addr → Prop, (∀ p, fz p → H p ≠ none) → ¬ fz P → Ok ⟨K w.params, cl, none, w, some (P, o)⟩ ⟨[P], fz⟩ H [.tb] := by
        intro fz h1 h2
        refine ⟨by simp, rfl, h1, fun p hp f => ?_, fun i u p e1 e2 => ?_⟩
        · rw [List.mem_singleton.mp hp] at f
          exact h2 f
        · cases i with
          | zero =>
            cases e1
            cases e2
            exact ⟨o, #[], rfl, tP, True.intro, fun pos v z => by
              have z' : codeAmong pos [] = some v := z
              simp [codeAmong] at z'⟩
          | succ i => simp at e1
      rcases hS with (h1 | h1) | h1
      · have na : a ≠ P := fun z => by
          rw [z, tP] at h1
          cases h1
        obtain ⟨env, st', es⟩ := hs ns hlen hbits _ (.inr rfl)
        refine ⟨⟨[P], fun p => p = a⟩, _, [.tb], _, okT _ (fun p z => by rw [z, h1]; exact fun z => nomatch z) (fun z => na z.symm), RepE.begin (us := [.lst (ns.map .int)]) (RepL.cons ⟨a, ns.map V.int, rfl, rfl, h1, RepL.map (f := Val.int) (g := V.int) (fun _ => rfl) _⟩ (show RepL _ _ _ [] [] from rfl)), es, ?_⟩
        exact fun W' H' u l o r => r
      · obtain ⟨env, st', es⟩ := hs ns hlen hbits _ (.inl rfl)
        refine ⟨⟨[P], fun _ => False⟩, _, [.tb], _, okT _ (fun p z => z.elim) (fun z => z), RepE.begin (us := [.rol (ns.map .int)]) (RepL.cons ⟨a, ns.map V.int, rfl, .inl h1, RepL.map (f := Val.int) (g := V.int) (fun _ => rfl) _⟩ (show RepL _ _ _ [] [] from rfl)), es, ?_⟩
        exact fun W' H' u l o r => r
      · obtain ⟨env, st', es⟩ := hs ns hlen hbits _ (.inl rfl)
        refine ⟨⟨[P], fun _ => False⟩, _, [.tb], _, okT _ (fun p z => z.elim) (fun z => z), RepE.begin (us := [.rol (ns.map .int)]) (RepL.cons ⟨a, ns.map V.int, rfl, .inr (.inr h1), RepL.map (f := Val.int) (g := V.int) (fun _ => rfl) _⟩ (show RepL _ _ _ [] [] from rfl)), es, ?_⟩
        exact fun W' H' u l o r => r
    · intro base KB GB TB
      refine ⟨fun vs H Q E h => h.1, fun A outer s0 H args us vs Q E hr e0 hb2 rv h => ?_⟩
      exact run_atC (c := c) FF Sc h.1 hr e0 hb2 rv hc (fun hr' => hF base A outer s0 H E (TB (c, P) List.mem_cons_self) hr') h.2
  · intro w H s1 e s' z
    obtain ⟨_, _, _, _, _, _, _, _, _, _, _, _, z⟩ := z
    exact z
end Mi
namespace Pg
open PySem PySem.Spec PyProof.Rows L2 Mi
def s_is_sequence : S :=
  (sRet (un (isiV (isiT2 "list" "tuple") noOwn) (var 0)))
def c_is_sequence : CF := callS 1 s_is_sequence
def s_Voice_init : S :=
  (sSeq (sIf (orB (notB (asB (callP 1 c_is_sequence [] (consM (var 1) nilM)))) (orB (asB (bin eqV (app lenV (consM (var 1) nilM)) (ret (.int 0)))) (notB (asB (app allV (consM (comp (itS (var 1)) (.name 3) [3] yes (un (isiV isiF (ownT [("Call", true)])) (var 3))) nilM)))))) (sRaise "InvalidVoice" ["word"] (consM (ret (.str "calls")) nilM)) sNext)
    (sSeq (sSet 2 (comp (itS (var 1)) (.name 3) [3] yes (un (fldV (ownL ["Call"]) "name") (var 3))))
    (sSeq (sIf (asB (bin (cmpV fun i j => decide (i < j)) (un lenSetV (var 2)) (app lenV (consM (var 2) nilM)))) (sRaise "InvalidVoice" ["word"] (consM (ret (.str "names")) nilM)) sNext)
    (sSeq (sFldV (ownL ["Voice"]) "calls" (var 0) (app tupleV (consM (var 1) nilM)))
    (sSeq (sFldV (ownL ["Voice"]) "names" (var 0) (app tupleV (consM (var 2) nilM)))
    (sFldV (ownL ["Voice"]) "reach" (var 0) (app maxV (consM (comp (itS (var 1)) (.name 3) [3] yes (app intV (consM (un (fldV (ownL ["Call"]) "distance") (var 3)) nilM))) nilM))))))))
def c_Voice_init : CF := callS 4 s_Voice_init
def s_is_name : S :=
  (sSeq (sIf (orB (notB (asB (un (isiV (isiT "str") noOwn) (var 0)))) (notB (asB (chain (cmpV fun i j => decide (i < j)) (cmpV fun i j => decide (i ≤ j)) (ret (.int 0)) (app lenV (consM (var 0) nilM)) (ret (.int 4)))))) (sRet (ret (.bl false))) sNext)
    (sRet (app allV (consM (comp (itS (var 0)) (.name 1) [1] yes (bin inVal (var 1) (ret (.str "abcdefghijklmnopqrstuvwxyz")))) nilM))))
def c_is_name : CF := callS 2 s_is_name
def s_is_integer : S :=
  (sRet (andV (un (isiV (isiT "int") noOwn) (var 0)) (notV (un (isiV (isiT "bool") noOwn) (var 0)))))
def c_is_integer : CF := callS 1 s_is_integer
def s_is_within : S :=
  (sRet (andV (callP 1 c_is_integer [] (consM (var 0) nilM)) (chain (cmpV fun i j => decide (i ≤ j)) (cmpV fun i j => decide (i ≤ j)) (var 1) (var 0) (var 2))))
def c_is_within : CF := callS 3 s_is_within
def s_is_word : S :=
  (sRet (andV (un (isiV (isiT "str") (ownT [("Voice", false)])) (var 0)) (bin inVal (var 0) (var 1))))
def c_is_word : CF := callS 2 s_is_word
def s_need : S :=
  (sIf (notB (asB (var 1))) (sRaise "InvalidCall" ["word"] (consM (var 0) nilM)) sNext)
def c_need : CF := callS 2 s_need
def s_Call_init : S :=
  (sSeq (sExpr (callP 2 c_need [] (consM (ret (.str "name")) (consM (callP 1 c_is_name [] (consM (var 1) nilM)) nilM))))
    (sSeq (sExpr (callP 2 c_need [] (consM (ret (.str "distance")) (consM (callP 3 c_is_within [] (consM (var 2) (consM (ret (.int 1)) (consM (ret (.int 4)) nilM)))) nilM))))
    (sSeq (sExpr (callP 2 c_need [] (consM (ret (.str "length")) (consM (callP 3 c_is_within [] (consM (var 3) (consM (ret (.int 1)) (consM (ret (.int 3)) nilM)))) nilM))))
    (sSeq (sExpr (callP 2 c_need [] (consM (ret (.str "busy")) (consM (callP 2 c_is_word [] (consM (var 4) (consM (ret (.tup [.str "wait", .str "drop", .str "cut"])) nilM))) nilM))))
    (sSeq (sExpr (callP 2 c_need [] (consM (ret (.str "least")) (consM (callP 3 c_is_within [] (consM (var 5) (consM (ret (.int 1)) (consM (ret (.int 4)) nilM)))) nilM))))
    (sSeq (sExpr (callP 2 c_need [] (consM (ret (.str "joins")) (consM (callP 3 c_is_within [] (consM (var 6) (consM (ret (.int 0)) (consM (ret (.int 3)) nilM)))) nilM))))
    (sSeq (sFldV (ownL ["Call"]) "name" (var 0) (var 1))
    (sSeq (sFldV (ownL ["Call"]) "distance" (var 0) (var 2))
    (sSeq (sFldV (ownL ["Call"]) "length" (var 0) (var 3))
    (sSeq (sFldV (ownL ["Call"]) "busy" (var 0) (var 4))
    (sSeq (sFldV (ownL ["Call"]) "least" (var 0) (var 5))
    (sFldV (ownL ["Call"]) "joins" (var 0) (var 6)))))))))))))
def c_Call_init : CF := callS 7 s_Call_init
def s_number_in : S :=
  (sSeq (sIf (orB (notB (asB (chain (cmpV fun i j => decide (i < j)) (cmpV fun i j => decide (i ≤ j)) (ret (.int 0)) (app lenV (consM (var 0) nilM)) (ret (.int 4))))) (notB (asB (app allV (consM (comp (itS (var 0)) (.name 1) [1] yes (bin inVal (var 1) (ret (.str "0123456789")))) nilM))))) (sRet (ret .non)) sNext)
    (sRet (ifV (orB (asB (bin eqV (var 0) (ret (.str "0")))) (asB (bin neV (bin idxV (var 0) (ret (.int 0))) (ret (.str "0"))))) (app intV (consM (var 0) nilM)) (ret .non))))
def c_number_in : CF := callS 2 s_number_in
def s_call_in : S :=
  (sSeq (sSet 1 (m1 splitV (var 0) (ret (.str " "))))
    (sSeq (sIf (asB (bin neV (app lenV (consM (var 1) nilM)) (ret (.int 6)))) (sRet (ret .non)) sNext)
    (sSeq (sSet 2 (comp (itS (mkLst (consM (bin idxV (var 1) (ret (.int 1))) (consM (bin idxV (var 1) (ret (.int 2))) (consM (bin idxV (var 1) (ret (.int 4))) (consM (bin idxV (var 1) (ret (.int 5))) nilM)))))) (.name 3) [3] yes (callP 1 c_number_in [] (consM (var 3) nilM))))
    (sSeq (sIf (asB (bin inVal (ret .non) (var 2))) (sRet (ret .non)) sNext)
    (sTryN (ownT [("InvalidCall", true)]) (sRet (makeP "Call" 7 c_Call_init [] (consM (bin idxV (var 1) (ret (.int 0))) (consM (bin idxV (var 2) (ret (.int 0))) (consM (bin idxV (var 2) (ret (.int 1))) (consM (bin idxV (var 1) (ret (.int 3))) (consM (bin idxV (var 2) (ret (.int 2))) (consM (bin idxV (var 2) (ret (.int 3))) nilM)))))))) (sRet (ret .non)))))))
def c_call_in : CF := callS 4 s_call_in
def s_Voice_read : S :=
  (sSeq (sSet 2 (comp (itS (m1 splitV (var 1) (ret (.str "\n")))) (.name 5) [5] yes (callP 1 c_call_in [] (consM (var 5) nilM))))
    (sSeq (sFor (enumM (consM (var 2) nilM)) (.tup [.name 3, .name 4]) (sIf (asB (bin isNV (var 4) (ret .non))) (sRaise "InvalidText" ["at"] (consM (var 3) nilM)) sNext))
    (sRet (makeL 0 "Voice" 2 c_Voice_init [] (consM (var 2) nilM)))))
def c_Voice_read : CF := callS 6 s_Voice_read
end Pg
namespace Pg
open PySem PySem.Spec PyProof.Rows L2 Mi
end Pg
namespace Pg
open PySem PySem.Spec PyProof.Rows L2 Mi
end Pg
namespace Pg
open PySem PySem.Spec PyProof.Rows L2 Mi
end Pg
namespace Pg
open PySem PySem.Spec PyProof.Rows L2 Mi
end Pg
namespace Pg
open PySem PySem.Spec PyProof.Rows L2 Mi
def s_Voice_need : S :=
  (sIf (notB (asB (chain (cmpV fun i j => decide (i ≤ j)) (cmpV fun i j => decide (i < j)) (ret (.int 0)) (var 1) (app lenV (consM (un (fldV (ownL ["Voice"]) "calls") (var 0)) nilM))))) (sRaise "NoCall" ["at"] (consM (var 1) nilM)) sNext)
def c_Voice_need : CF := callS 2 s_Voice_need
def s_Voice_without : S :=
  (sSeq (sExpr (methP "Voice" "need" 2 c_Voice_need [] (var 0) (consM (var 1) nilM)))
    (sRet (makeP "Voice" 2 c_Voice_init [] (consM (bin addV (sliceM (un (fldV (ownL ["Voice"]) "calls") (var 0)) nopart (part (var 1))) (sliceM (un (fldV (ownL ["Voice"]) "calls") (var 0)) (part (bin addV (var 1) (ret (.int 1)))) nopart)) nilM))))
def c_Voice_without : CF := callS 2 s_Voice_without
end Pg
namespace Pg
open PySem PySem.Spec PyProof.Rows L2 Mi
def s_Call_str : S :=
  (sRet (jsM [(un fmtV (un (fldV (ownL ["Call"]) "name") (var 0))), (ret (.str " ")), (un fmtV (un (fldV (ownL ["Call"]) "distance") (var 0))), (ret (.str " ")), (un fmtV (un (fldV (ownL ["Call"]) "length") (var 0))), (ret (.str " ")), (un fmtV (un (fldV (ownL ["Call"]) "busy") (var 0))), (ret (.str " ")), (un fmtV (un (fldV (ownL ["Call"]) "least") (var 0))), (ret (.str " ")), (un fmtV (un (fldV (ownL ["Call"]) "joins") (var 0)))] Str.empty))
def c_Call_str : CF := callS 1 s_Call_str
def s_Voice_str : S :=
  (sRet (m1 joinV (ret (.str "\n")) (comp (itS (un (fldV (ownL ["Voice"]) "calls") (var 0))) (.name 1) [1] yes (app (own1 ownS strV (ownT [("Call", c_Call_str)])) (consM (var 1) nilM)))))
def c_Voice_str : CF := callS 2 s_Voice_str
end Pg
namespace Pg
open PySem PySem.Spec PyProof.Rows L2 Mi
end Pg
namespace Pg
open PySem PySem.Spec PyProof.Rows L2 Mi
end Pg
namespace Pg
open PySem PySem.Spec PyProof.Rows L2 Mi
end Pg
namespace LwA
open PySem PySem.Spec PyProof.Rows L2 Mi Pg
def s_l_deal : S :=
  (sSeq (sSet 2 (comp (itS (sliceM (var 0) (part (var 1)) (part (ret (.int 62))))) (.name 4) [4] yes (app absV' (consM (app intV (consM (var 4) nilM)) nilM))))
    (sSeq (sSet 3 (bin addV (ret (.int 86028121)) (bin mulV (ret (.int 29)) (var 1))))
    (sSeq (sFor (itS (var 2)) (.name 4) (sSet 3 (bin modV (app intV (consM (bin addV (bin addV (bin mulV (var 3) (ret (.int 39373))) (bin modV (app intV (consM (var 4) nilM)) (ret (.int 2147483587)))) (ret (.int 11))) nilM)) (ret (.int 2147483647)))))
    (sRet (mkLstM (consM (unS revVM (comp (itS (var 2)) (.name 4) [4] (asB (bin (cmpV fun i j => decide (j ≤ i)) (var 4) (bin powV (ret (.int 10)) (ret (.int 18))))) (var 4))) (consM (var 3) nilM)))))))
def c_l_deal : CF := callS 5 s_l_deal
def s_l_draw : S :=
  (sSeq (sWhile (andB (asB (bin neV (bin idxV (var 0) (ret (.int 0))) (mkLst nilM))) (asB (bin eqV (bin idxV (bin idxV (var 0) (ret (.int 0))) (un (fun _ a => (intOf a).map fun i => .int (-i)) (ret (.int 1)))) (ret (.int 0))))) (sExpr (lm popV (bin idxV (var 0) (ret (.int 0))) nilM)) 100)
    (sSeq (sIf (asB (bin neV (bin idxV (var 0) (ret (.int 0))) (mkLst nilM))) (sSeq (sSet 2 (lm popV (bin idxV (var 0) (ret (.int 0))) nilM))
    (sSeq (sExpr (lm appendV (bin idxV (var 0) (ret (.int 0))) (consM (bin fdivV (var 2) (var 1)) nilM)))
    (sRet (bin modV (app intV (consM (var 2) nilM)) (var 1))))) sNext)
    (sSeq (sSub (bin modV (app intV (consM (bin addV (bin mulV (bin idxV (var 0) (ret (.int 1))) (ret (.int 39373))) (ret (.int 23))) nilM)) (ret (.int 2147483647))) (var 0) (ret (.int 1)))
    (sRet (bin modV (app intV (consM (bin fdivV (bin idxV (var 0) (ret (.int 1))) (ret (.int 16))) nilM)) (var 1))))))
def c_l_draw : CF := callS 3 s_l_draw
def s_l_mixed : S :=
  (sSeq (sPar 3 4 (consM (appS listVM (consM (var 1) nilM)) (consM (mkLstM nilM) nilM)))
    (sSeq (sFor (rng1 (consM (app lenV (consM (var 3) nilM)) nilM)) (.name 2) (sExpr (lm appendV (var 4) (consM (lm popAtV (var 3) (consM (callM 2 c_l_draw [] (consM (var 0) (consM (app lenV (consM (var 3) nilM)) nilM))) nilM)) nilM))))
    (sRet (var 4))))
def c_l_mixed : CF := callS 5 s_l_mixed
end LwA
namespace LwA
open PySem PySem.Spec PyProof.Rows L2 Mi Pg
end LwA
namespace LwA
open PySem PySem.Spec PyProof.Rows L2 Mi Pg
end LwA
namespace LwA
open PySem PySem.Spec PyProof.Rows L2 Mi Pg
end LwA
namespace LwA
open PySem PySem.Spec PyProof.Rows L2 Mi Pg
end LwA
namespace K12
open PySem PySem.Spec PyProof.Rows L2 Mi Pg LwA
def topS (i : Nat) : Stmt := PySem.Challenge.pw_turncalls_k12_calls_and_voices_known_by.main.body.getD i (.Pass ⟨0, 0, 0, 0⟩)
abbrev st_Call_str : Stmt := (clsB (topS 24)).getD 4 (.Pass ⟨0, 0, 0, 0⟩)
theorem sc_Call_str : FnScope ["self"] ["self"] (defScope st_Call_str) := ⟨rfl, rfl, rfl, by decide +kernel, rfl, by decide +kernel, by decide +kernel⟩
abbrev st_Call_eq : Stmt := (clsB (topS 24)).getD 3 (.Pass ⟨0, 0, 0, 0⟩)
theorem sc_Call_eq : FnScope ["self", "other"] ["self", "other"] (defScope st_Call_eq) := ⟨rfl, rfl, rfl, by decide +kernel, rfl, by decide +kernel, by decide +kernel⟩
abbrev st_is_name : Stmt := topS 16
theorem sc_is_name : FnScope ["value", "letter"] ["value"] (defScope st_is_name) := ⟨rfl, rfl, rfl, by decide +kernel, rfl, by decide +kernel, by decide +kernel⟩
abbrev st_is_integer : Stmt := topS 13
theorem sc_is_integer : FnScope ["value"] ["value"] (defScope st_is_integer) := ⟨rfl, rfl, rfl, by decide +kernel, rfl, by decide +kernel, by decide +kernel⟩
abbrev st_is_within : Stmt := topS 14
theorem sc_is_within : FnScope ["value", "least", "most"] ["value", "least", "most"] (defScope st_is_within) := ⟨rfl, rfl, rfl, by decide +kernel, rfl, by decide +kernel, by decide +kernel⟩
abbrev st_is_word : Stmt := topS 17
theorem sc_is_word : FnScope ["value", "words"] ["value", "words"] (defScope st_is_word) := ⟨rfl, rfl, rfl, by decide +kernel, rfl, by decide +kernel, by decide +kernel⟩
abbrev st_need : Stmt := topS 25
theorem sc_need : FnScope ["word", "is_right"] ["word", "is_right"] (defScope st_need) := ⟨rfl, rfl, rfl, by decide +kernel, rfl, by decide +kernel, by decide +kernel⟩
abbrev st_Call_init : Stmt := (clsB (topS 24)).getD 0 (.Pass ⟨0, 0, 0, 0⟩)
theorem sc_Call_init : FnScope ["self", "name", "distance", "length", "busy", "least", "joins"] ["self", "name", "distance", "length", "busy", "least", "joins"] (defScope st_Call_init) := ⟨rfl, rfl, rfl, by decide +kernel, rfl, by decide +kernel, by decide +kernel⟩
abbrev st_Voice_str : Stmt := (clsB (topS 28)).getD 9 (.Pass ⟨0, 0, 0, 0⟩)
theorem sc_Voice_str : FnScope ["self", "call"] ["self"] (defScope st_Voice_str) := ⟨rfl, rfl, rfl, by decide +kernel, rfl, by decide +kernel, by decide +kernel⟩
abbrev st_Voice_eq : Stmt := (clsB (topS 28)).getD 8 (.Pass ⟨0, 0, 0, 0⟩)
theorem sc_Voice_eq : FnScope ["self", "other"] ["self", "other"] (defScope st_Voice_eq) := ⟨rfl, rfl, rfl, by decide +kernel, rfl, by decide +kernel, by decide +kernel⟩
abbrev st_Voice_need : Stmt := (clsB (topS 28)).getD 2 (.Pass ⟨0, 0, 0, 0⟩)
theorem sc_Voice_need : FnScope ["self", "at"] ["self", "at"] (defScope st_Voice_need) := ⟨rfl, rfl, rfl, by decide +kernel, rfl, by decide +kernel, by decide +kernel⟩
abbrev st_Voice_getitem : Stmt := (clsB (topS 28)).getD 6 (.Pass ⟨0, 0, 0, 0⟩)
theorem sc_Voice_getitem : FnScope ["self", "at"] ["self", "at"] (defScope st_Voice_getitem) := ⟨rfl, rfl, rfl, by decide +kernel, rfl, by decide +kernel, by decide +kernel⟩
abbrev st_is_sequence : Stmt := topS 15
theorem sc_is_sequence : FnScope ["value"] ["value"] (defScope st_is_sequence) := ⟨rfl, rfl, rfl, by decide +kernel, rfl, by decide +kernel, by decide +kernel⟩
abbrev st_Voice_init : Stmt := (clsB (topS 28)).getD 0 (.Pass ⟨0, 0, 0, 0⟩)
theorem sc_Voice_init : FnScope ["self", "calls", "names", "call"] ["self", "calls"] (defScope st_Voice_init) := ⟨rfl, rfl, rfl, by decide +kernel, rfl, by decide +kernel, by decide +kernel⟩
abbrev st_number_in : Stmt := topS 18
theorem sc_number_in : FnScope ["word", "digit"] ["word"] (defScope st_number_in) := ⟨rfl, rfl, rfl, by decide +kernel, rfl, by decide +kernel, by decide +kernel⟩
abbrev st_call_in : Stmt := topS 26
theorem sc_call_in : FnScope ["text", "words", "numbers", "word"] ["text"] (defScope st_call_in) := ⟨rfl, rfl, rfl, by decide +kernel, rfl, by decide +kernel, by decide +kernel⟩
abbrev st_Voice_read : Stmt := (clsB (topS 28)).getD 1 (.Pass ⟨0, 0, 0, 0⟩)
theorem sc_Voice_read : FnScope ["cls", "text", "found", "at", "call", "line"] ["cls", "text"] (defScope st_Voice_read) := ⟨rfl, rfl, rfl, by decide +kernel, rfl, by decide +kernel, by decide +kernel⟩
abbrev st_Voice_without : Stmt := (clsB (topS 28)).getD 3 (.Pass ⟨0, 0, 0, 0⟩)
theorem sc_Voice_without : FnScope ["self", "at"] ["self", "at"] (defScope st_Voice_without) := ⟨rfl, rfl, rfl, by decide +kernel, rfl, by decide +kernel, by decide +kernel⟩
abbrev st_l_deal : Stmt := topS 30
theorem sc_l_deal : FnScope ["_law_script", "_law_base", "_law_cells", "_law_mixed_here", "_law_cell"] ["_law_script", "_law_base"] (defScope st_l_deal) := ⟨rfl, rfl, rfl, by decide +kernel, rfl, by decide +kernel, by decide +kernel⟩
abbrev st_l_draw : Stmt := topS 31
theorem sc_l_draw : FnScope ["_law_deal_here", "_law_many", "_law_left"] ["_law_deal_here", "_law_many"] (defScope st_l_draw) := ⟨rfl, rfl, rfl, by decide +kernel, rfl, by decide +kernel, by decide +kernel⟩
abbrev st_l_mixed : Stmt := topS 33
theorem sc_l_mixed : FnScope ["_law_deal_here", "_law_some", "_law_turn", "_law_left", "_law_found"] ["_law_deal_here", "_law_some"] (defScope st_l_mixed) := ⟨rfl, rfl, rfl, by decide +kernel, rfl, by decide +kernel, by decide +kernel⟩
abbrev st_l_tried : Stmt := topS 34
theorem sc_l_tried : FnScope ["_law_work", "_law_found", "e"] ["_law_work"] (defScope st_l_tried) := ⟨rfl, rfl, rfl, by decide +kernel, rfl, by decide +kernel, by decide +kernel⟩
abbrev st_law : Stmt := topS 35
theorem sc_law : FnScope ["_law_script", "_law_spot", "_law_deal_here", "_law_told", "_law_lines", "_law_made", "_law_turned", "_law_a", "_law_b"] ["_law_script"] (defScope st_law) := ⟨rfl, rfl, rfl, by decide +kernel, rfl, by decide +kernel, by decide +kernel⟩
abbrev st_InvalidCall_init : Stmt := (clsB (topS 3)).getD 0 (.Pass ⟨0, 0, 0, 0⟩)
theorem sb_InvalidCall : SupB "word" "word" (defBody st_InvalidCall_init) := ⟨⟨_, _, _, _, _, _, _, _, _, _, fun env => ⟨_, rfl⟩, rfl⟩⟩
theorem ss_InvalidCall : SupS "word" (defScope st_InvalidCall_init) := ⟨rfl, rfl, rfl, rfl, by decide +kernel, rfl, rfl, rfl⟩
abbrev st_InvalidText_init : Stmt := (clsB (topS 5)).getD 0 (.Pass ⟨0, 0, 0, 0⟩)
theorem sb_InvalidText : SupB "at" "at" (defBody st_InvalidText_init) := ⟨⟨_, _, _, _, _, _, _, _, _, _, fun env => ⟨_, rfl⟩, rfl⟩⟩
theorem ss_InvalidText : SupS "at" (defScope st_InvalidText_init) := ⟨rfl, rfl, rfl, rfl, by decide +kernel, rfl, rfl, rfl⟩
abbrev st_InvalidVoice_init : Stmt := (clsB (topS 4)).getD 0 (.Pass ⟨0, 0, 0, 0⟩)
theorem sb_InvalidVoice : SupB "word" "word" (defBody st_InvalidVoice_init) := ⟨⟨_, _, _, _, _, _, _, _, _, _, fun env => ⟨_, rfl⟩, rfl⟩⟩
theorem ss_InvalidVoice : SupS "word" (defScope st_InvalidVoice_init) := ⟨rfl, rfl, rfl, rfl, by decide +kernel, rfl, rfl, rfl⟩
abbrev st_NoCall_init : Stmt := (clsB (topS 6)).getD 0 (.Pass ⟨0, 0, 0, 0⟩)
theorem sb_NoCall : SupB "at" "at" (defBody st_NoCall_init) := ⟨⟨_, _, _, _, _, _, _, _, _, _, fun env => ⟨_, rfl⟩, rfl⟩⟩
theorem ss_NoCall : SupS "at" (defScope st_NoCall_init) := ⟨rfl, rfl, rfl, rfl, by decide +kernel, rfl, rfl, rfl⟩
structure Ad where
  f_Call_str : Addr
  d_Call_str : FuncData
  f_Call_eq : Addr
  d_Call_eq : FuncData
  f_is_name : Addr
  d_is_name : FuncData
  f_is_integer : Addr
  d_is_integer : FuncData
  f_is_within : Addr
  d_is_within : FuncData
  f_is_word : Addr
  d_is_word : FuncData
  f_need : Addr
  d_need : FuncData
  f_Call_init : Addr
  d_Call_init : FuncData
  f_Voice_str : Addr
  d_Voice_str : FuncData
  f_Voice_eq : Addr
  d_Voice_eq : FuncData
  f_Voice_need : Addr
  d_Voice_need : FuncData
  f_Voice_getitem : Addr
  d_Voice_getitem : FuncData
  f_is_sequence : Addr
  d_is_sequence : FuncData
  f_Voice_init : Addr
  d_Voice_init : FuncData
  f_number_in : Addr
  d_number_in : FuncData
  f_call_in : Addr
  d_call_in : FuncData
  f_Voice_read : Addr
  d_Voice_read : FuncData
  f_Voice_without : Addr
  d_Voice_without : FuncData
  f_l_deal : Addr
  d_l_deal : FuncData
  f_l_draw : Addr
  d_l_draw : FuncData
  f_l_mixed : Addr
  d_l_mixed : FuncData
  f_l_tried : Addr
  d_l_tried : FuncData
  f_law : Addr
  d_law : FuncData
structure Tx (P : Program) (k : Kx) (mg : Str → Option Value) (a : Ad) : Prop where
  F_Call_str : Fun k.K "__str__" "Call.__str__" st_Call_str a.f_Call_str a.d_Call_str
  b_Call_str : Binds k.K a.d_Call_str ["self"] []
  mt_Call_str : Meth k.K (k.cl "Call") "__str__" a.f_Call_str
  F_Call_eq : Fun k.K "__eq__" "Call.__eq__" st_Call_eq a.f_Call_eq a.d_Call_eq
  b_Call_eq : Binds k.K a.d_Call_eq ["self", "other"] []
  mt_Call_eq : Meth k.K (k.cl "Call") "__eq__" a.f_Call_eq
  F_is_name : Fun k.K "is_name" "is_name" st_is_name a.f_is_name a.d_is_name
  b_is_name : Binds k.K a.d_is_name ["value"] []
  g_is_name : mg "is_name" = some (.ref a.f_is_name)
  F_is_integer : Fun k.K "is_integer" "is_integer" st_is_integer a.f_is_integer a.d_is_integer
  b_is_integer : Binds k.K a.d_is_integer ["value"] []
  g_is_integer : mg "is_integer" = some (.ref a.f_is_integer)
  F_is_within : Fun k.K "is_within" "is_within" st_is_within a.f_is_within a.d_is_within
  b_is_within : Binds k.K a.d_is_within ["value", "least", "most"] []
  g_is_within : mg "is_within" = some (.ref a.f_is_within)
  F_is_word : Fun k.K "is_word" "is_word" st_is_word a.f_is_word a.d_is_word
  b_is_word : Binds k.K a.d_is_word ["value", "words"] []
  g_is_word : mg "is_word" = some (.ref a.f_is_word)
  F_need : Fun k.K "need" "need" st_need a.f_need a.d_need
  b_need : Binds k.K a.d_need ["word", "is_right"] []
  g_need : mg "need" = some (.ref a.f_need)
  F_Call_init : FunD k.K "__init__" "Call.__init__" (defArgs st_Call_init) (defBody st_Call_init) (defScope st_Call_init) [.str "wait", .int 1, .int 0] [] a.f_Call_init a.d_Call_init
  b4_Call_init : ∃ ds, Vals [.str "wait", .int 1, .int 0] ds ∧ Binds k.K a.d_Call_init ["self", "name", "distance", "length", "busy", "least", "joins"] ds
  b5_Call_init : ∃ ds, Vals [.int 1, .int 0] ds ∧ Binds k.K a.d_Call_init ["self", "name", "distance", "length", "busy", "least", "joins"] ds
  b7_Call_init : ∃ ds, Vals [] ds ∧ Binds k.K a.d_Call_init ["self", "name", "distance", "length", "busy", "least", "joins"] ds
  F_Voice_str : Fun k.K "__str__" "Voice.__str__" st_Voice_str a.f_Voice_str a.d_Voice_str
  b_Voice_str : Binds k.K a.d_Voice_str ["self"] []
  mt_Voice_str : Meth k.K (k.cl "Voice") "__str__" a.f_Voice_str
  F_Voice_eq : Fun k.K "__eq__" "Voice.__eq__" st_Voice_eq a.f_Voice_eq a.d_Voice_eq
  b_Voice_eq : Binds k.K a.d_Voice_eq ["self", "other"] []
  mt_Voice_eq : Meth k.K (k.cl "Voice") "__eq__" a.f_Voice_eq
  F_Voice_need : Fun k.K "need" "Voice.need" st_Voice_need a.f_Voice_need a.d_Voice_need
  b_Voice_need : Binds k.K a.d_Voice_need ["self", "at"] []
  mt_Voice_need : Meth k.K (k.cl "Voice") "need" a.f_Voice_need
  F_Voice_getitem : Fun k.K "__getitem__" "Voice.__getitem__" st_Voice_getitem a.f_Voice_getitem a.d_Voice_getitem
  b_Voice_getitem : Binds k.K a.d_Voice_getitem ["self", "at"] []
  mt_Voice_getitem : Meth k.K (k.cl "Voice") "__getitem__" a.f_Voice_getitem
  F_is_sequence : Fun k.K "is_sequence" "is_sequence" st_is_sequence a.f_is_sequence a.d_is_sequence
  b_is_sequence : Binds k.K a.d_is_sequence ["value"] []
  g_is_sequence : mg "is_sequence" = some (.ref a.f_is_sequence)
  F_Voice_init : Fun k.K "__init__" "Voice.__init__" st_Voice_init a.f_Voice_init a.d_Voice_init
  b_Voice_init : Binds k.K a.d_Voice_init ["self", "calls"] []
  F_number_in : Fun k.K "number_in" "number_in" st_number_in a.f_number_in a.d_number_in
  b_number_in : Binds k.K a.d_number_in ["word"] []
  g_number_in : mg "number_in" = some (.ref a.f_number_in)
  F_call_in : Fun k.K "call_in" "call_in" st_call_in a.f_call_in a.d_call_in
  b_call_in : Binds k.K a.d_call_in ["text"] []
  g_call_in : mg "call_in" = some (.ref a.f_call_in)
  F_Voice_read : Fun k.K "read" "Voice.read" st_Voice_read a.f_Voice_read a.d_Voice_read
  b_Voice_read : Binds k.K a.d_Voice_read ["cls", "text"] []
  cm_Voice_read : ∃ (mc : Value) (pa : Addr), ClX.CRead k.K (k.cl "Voice") mc ∧ ClX.CMet k.K (k.cl "Voice") mc "read" pa a.f_Voice_read
  F_Voice_without : Fun k.K "without" "Voice.without" st_Voice_without a.f_Voice_without a.d_Voice_without
  b_Voice_without : Binds k.K a.d_Voice_without ["self", "at"] []
  mt_Voice_without : Meth k.K (k.cl "Voice") "without" a.f_Voice_without
  F_l_deal : Fun k.K "_law_deal" "_law_deal" st_l_deal a.f_l_deal a.d_l_deal
  b_l_deal : Binds k.K a.d_l_deal ["_law_script", "_law_base"] []
  g_l_deal : mg "_law_deal" = some (.ref a.f_l_deal)
  F_l_draw : Fun k.K "_law_draw" "_law_draw" st_l_draw a.f_l_draw a.d_l_draw
  b_l_draw : Binds k.K a.d_l_draw ["_law_deal_here", "_law_many"] []
  g_l_draw : mg "_law_draw" = some (.ref a.f_l_draw)
  F_l_mixed : Fun k.K "_law_mixed" "_law_mixed" st_l_mixed a.f_l_mixed a.d_l_mixed
  b_l_mixed : Binds k.K a.d_l_mixed ["_law_deal_here", "_law_some"] []
  g_l_mixed : mg "_law_mixed" = some (.ref a.f_l_mixed)
  F_l_tried : Fun k.K "_law_tried" "_law_tried" st_l_tried a.f_l_tried a.d_l_tried
  b_l_tried : Binds k.K a.d_l_tried ["_law_work"] []
  g_l_tried : mg "_law_tried" = some (.ref a.f_l_tried)
  F_law : Fun k.K "law" "law" st_law a.f_law a.d_law
  b_law : Binds k.K a.d_law ["_law_script"] []
  g_law : mg "law" = some (.ref a.f_law)
  g_Call : mg "Call" = some (.ref (k.cl "Call"))
  K_Call : ClsK k "Call"
  M_Call : Mk k.K (k.cl "Call") a.f_Call_init
  E_Call : EqK k "Call"
  g_Voice : mg "Voice" = some (.ref (k.cl "Voice"))
  K_Voice : ClsK k "Voice"
  M_Voice : Mk k.K (k.cl "Voice") a.f_Voice_init
  E_Voice : EqK k "Voice"
  g_InvalidCall : mg "InvalidCall" = some (.ref (k.cl "InvalidCall"))
  g_NoCall : mg "NoCall" = some (.ref (k.cl "NoCall"))
  g_InvalidText : mg "InvalidText" = some (.ref (k.cl "InvalidText"))
  g_InvalidVoice : mg "InvalidVoice" = some (.ref (k.cl "InvalidVoice"))
  g_RoadError : mg "RoadError" = some (.ref (k.cl "RoadError"))
  R_InvalidCall : ∃ fI : Addr, SupC P k.K mg "word" "word" "ValueError" "ValueError.__new__" "ValueError.__init__" [.type "ValueError", .type "Exception", .type "BaseException", .type "object"] (k.cl "InvalidCall") fI
  R_InvalidText : ∃ fI : Addr, SupC P k.K mg "at" "at" "ValueError" "ValueError.__new__" "ValueError.__init__" [.type "ValueError", .type "Exception", .type "BaseException", .type "object"] (k.cl "InvalidText") fI
  R_InvalidVoice : ∃ fI : Addr, SupC P k.K mg "word" "word" "ValueError" "ValueError.__new__" "ValueError.__init__" [.type "ValueError", .type "Exception", .type "BaseException", .type "object"] (k.cl "InvalidVoice") fI
  R_NoCall : ∃ fI : Addr, SupC P k.K mg "at" "at" "IndexError" "IndexError.__new__" "IndexError.__init__" [.type "IndexError", .type "LookupError", .type "Exception", .type "BaseException", .type "object"] (k.cl "NoCall") fI
  x_NoCall_InvalidCall : PySem.W.exmOne k.K (.ref (k.cl "NoCall")) (.ref (k.cl "InvalidCall")) = some false
  x_InvalidText_InvalidCall : PySem.W.exmOne k.K (.ref (k.cl "InvalidText")) (.ref (k.cl "InvalidCall")) = some false
  x_InvalidVoice_InvalidCall : PySem.W.exmOne k.K (.ref (k.cl "InvalidVoice")) (.ref (k.cl "InvalidCall")) = some false
  x_InvalidCall_InvalidCall : PySem.W.exmOne k.K (.ref (k.cl "InvalidCall")) (.ref (k.cl "InvalidCall")) = some true
  x_RoadError_InvalidCall : PySem.W.exmOne k.K (.ref (k.cl "RoadError")) (.ref (k.cl "InvalidCall")) = some false
  x_NoCall_InvalidVoice : PySem.W.exmOne k.K (.ref (k.cl "NoCall")) (.ref (k.cl "InvalidVoice")) = some false
  x_InvalidText_InvalidVoice : PySem.W.exmOne k.K (.ref (k.cl "InvalidText")) (.ref (k.cl "InvalidVoice")) = some false
  x_InvalidVoice_InvalidVoice : PySem.W.exmOne k.K (.ref (k.cl "InvalidVoice")) (.ref (k.cl "InvalidVoice")) = some true
  x_RoadError_InvalidVoice : PySem.W.exmOne k.K (.ref (k.cl "RoadError")) (.ref (k.cl "InvalidVoice")) = some false
  x_NoCall_InvalidText : PySem.W.exmOne k.K (.ref (k.cl "NoCall")) (.ref (k.cl "InvalidText")) = some false
  x_InvalidText_InvalidText : PySem.W.exmOne k.K (.ref (k.cl "InvalidText")) (.ref (k.cl "InvalidText")) = some true
  x_RoadError_InvalidText : PySem.W.exmOne k.K (.ref (k.cl "RoadError")) (.ref (k.cl "InvalidText")) = some false
  xc_InvalidCall : XcC k.K (k.cl "InvalidCall")
  xc_InvalidVoice : XcC k.K (k.cl "InvalidVoice")
  xc_InvalidText : XcC k.K (k.cl "InvalidText")
  xn_InvalidCall_word : PySem.W.findIn k.K (.ref (k.cl "InvalidCall")) "word" = some none
  xn_InvalidText_at : PySem.W.findIn k.K (.ref (k.cl "InvalidText")) "at" = some none
  xn_InvalidVoice_word : PySem.W.findIn k.K (.ref (k.cl "InvalidVoice")) "word" = some none
  ki_Voice_str : PySem.W.kitOne k.K (.ref (k.cl "Voice")) (.type "str") = some false
  n_Call_busy : NoAttr k.K (k.cl "Call") "busy"
  n_Call_distance : NoAttr k.K (k.cl "Call") "distance"
  n_Call_joins : NoAttr k.K (k.cl "Call") "joins"
  n_Call_least : NoAttr k.K (k.cl "Call") "least"
  n_Call_length : NoAttr k.K (k.cl "Call") "length"
  n_Call_name : NoAttr k.K (k.cl "Call") "name"
  n_Voice_calls : NoAttr k.K (k.cl "Voice") "calls"
  n_Voice_names : NoAttr k.K (k.cl "Voice") "names"
  n_Voice_reach : NoAttr k.K (k.cl "Voice") "reach"
  z_int : mg "int" = none
  z_abs : mg "abs" = none
  z_list : mg "list" = none
  z_len : mg "len" = none
  z_range : mg "range" = none
  z_str : mg "str" = none
  z_isinstance : mg "isinstance" = none
  z_all : mg "all" = none
  z_bool : mg "bool" = none
  z_enumerate : mg "enumerate" = none
  z_tuple : mg "tuple" = none
  z_set : mg "set" = none
  z_max : mg "max" = none
  z_min : mg "min" = none
  c_BUSY : ∃ (v : V) (u : Value), mg "BUSY" = some u ∧ RelV v u ∧ Cst k (.tup [.str "wait", .str "drop", .str "cut"]) v
  c_DIGITS : ∃ (v : V) (u : Value), mg "DIGITS" = some u ∧ RelV v u ∧ Cst k (.str "0123456789") v
  c_GREATEST_DISTANCE : ∃ (v : V) (u : Value), mg "GREATEST_DISTANCE" = some u ∧ RelV v u ∧ Cst k (.int 4) v
  c_GREATEST_JOINS : ∃ (v : V) (u : Value), mg "GREATEST_JOINS" = some u ∧ RelV v u ∧ Cst k (.int 3) v
  c_GREATEST_LEAST : ∃ (v : V) (u : Value), mg "GREATEST_LEAST" = some u ∧ RelV v u ∧ Cst k (.int 4) v
  c_GREATEST_LENGTH : ∃ (v : V) (u : Value), mg "GREATEST_LENGTH" = some u ∧ RelV v u ∧ Cst k (.int 3) v
  c_LETTERS : ∃ (v : V) (u : Value), mg "LETTERS" = some u ∧ RelV v u ∧ Cst k (.str "abcdefghijklmnopqrstuvwxyz") v
  c_MOST_DIGITS : ∃ (v : V) (u : Value), mg "MOST_DIGITS" = some u ∧ RelV v u ∧ Cst k (.int 4) v
  c_MOST_LETTERS : ∃ (v : V) (u : Value), mg "MOST_LETTERS" = some u ∧ RelV v u ∧ Cst k (.int 4) v
def s_Call_eq : S :=
  (sRet (andV (un (isiV isiF (ownT [("Call", true)])) (var 1)) (bin eqV (app (own1 ownS strV (ownT [("Call", c_Call_str)])) (consM (var 0) nilM)) (app (own1 ownS strV (ownT [("Call", c_Call_str)])) (consM (var 1) nilM)))))
def c_Call_eq : CF := callS 2 s_Call_eq
def s_Voice_eq : S :=
  (sRet (andV (un (isiV isiF (ownT [("Voice", true)])) (var 1)) (bin eqV (app (own1 ownS strV (ownT [("Voice", c_Voice_str)])) (consM (var 0) nilM)) (app (own1 ownS strV (ownT [("Voice", c_Voice_str)])) (consM (var 1) nilM)))))
def c_Voice_eq : CF := callS 2 s_Voice_eq
def s_Voice_getitem : S :=
  (sSeq (sExpr (methP "Voice" "need" 2 c_Voice_need [] (var 0) (consM (var 1) nilM)))
    (sRet (bin idxV (un (fldV (ownL ["Voice"]) "calls") (var 0)) (var 1))))
def c_Voice_getitem : CF := callS 2 s_Voice_getitem
def s_l_tried (w : M Val) : S :=
  (sSeq (sSet 1 (ret (.str "odd")))
    (sSeq (sTryL 2 (sSet 1 (app (own1 ownS strV (ownT [("Call", c_Call_str), ("Voice", c_Voice_str)])) (consM w nilM))) [((ownT [("RoadError", false), ("InvalidCall", true), ("InvalidVoice", false), ("InvalidText", false), ("NoCall", false)]), (sSet 1 (bin addV (ret (.str "call ")) (un (exvF (ownL ["InvalidCall"]) "word") (var 2))))), ((ownT [("RoadError", false), ("InvalidVoice", true), ("InvalidText", false), ("NoCall", false)]), (sSet 1 (bin addV (ret (.str "voice ")) (un (exvF (ownL ["InvalidVoice"]) "word") (var 2))))), ((ownT [("RoadError", false), ("InvalidText", true), ("NoCall", false)]), (sSet 1 (bin addV (ret (.str "line ")) (app strV (consM (un (exvF (ownL ["InvalidText"]) "at") (var 2)) nilM)))))])
    (sRet (var 1))))
def lamO : Addr → HO := fun d => LamX.CodeO d ((("law" : Str) ++ ".<locals>.") ++ "<lambda>")
def s_law : S :=
  (sSeq (sFor (rng1 (consM (app max2V (consM (ret (.int 2)) (consM (app min2V (consM (ret (.int 4)) (consM (app lenV (consM (var 0) nilM)) nilM))) nilM))) nilM)) (.name 1) (sSeq (sSet 2 (callM 2 c_l_deal [] (consM (var 0) (consM (var 1) nilM))))
    (sSeq (sSetL [.name 7, .name 8] (sliceM (callM 2 c_l_mixed [] (consM (var 2) (consM (mkLst (consM (ret (.str "far")) (consM (ret (.str "near")) (consM (ret (.str "wait")) (consM (ret (.str "cut")) (consM (ret (.str "drop")) (consM (ret (.str "zzzz")) (consM (ret (.str "k")) nilM)))))))) nilM))) nopart (part (ret (.int 2)))))
    (sSeq (sSet 3 (mkLstM (consM (lamP [7] s_l_tried 3 (makeP "Call" 7 c_Call_init [.str "wait", .int 1, .int 0] (consM (var 7) (consM (ret (.int 4)) (consM (ret (.int 3)) nilM))))) nilM)))
    (sSeq (sExpr (lm appendV (var 3) (consM (lamP [7] s_l_tried 3 (makeP "Call" 7 c_Call_init [] (consM (var 7) (consM (ret (.int 1)) (consM (ret (.int 1)) (consM (ret (.str "cut")) (consM (ret (.int 4)) (consM (ret (.int 3)) nilM)))))))) nilM)))
    (sSeq (sIf (asB (bin (neO (ownT [("Call", c_Call_eq), ("Voice", c_Voice_eq)])) (var 3) (mkLst (consM (bin addV (var 7) (ret (.str " 4 3 wait 1 0"))) (consM (bin addV (var 7) (ret (.str " 1 1 cut 4 3"))) nilM))))) (sRet (ret (.bl false))) sNext)
    (sSeq (sSet 3 (mkLstM (consM (lamP [7] s_l_tried 3 (makeP "Call" 7 c_Call_init [.str "wait", .int 1, .int 0] (consM (var 7) (consM (ret (.int 5)) (consM (ret (.int 4)) nilM))))) nilM)))
    (sSeq (sExpr (lm appendV (var 3) (consM (lamP [7] s_l_tried 3 (makeP "Call" 7 c_Call_init [.int 1, .int 0] (consM (var 7) (consM (ret (.int 4)) (consM (ret (.int 4)) (consM (ret (.str "x")) nilM)))))) nilM)))
    (sSeq (sExpr (lm appendV (var 3) (consM (lamP [] s_l_tried 3 (makeP "Call" 7 c_Call_init [.str "wait", .int 1, .int 0] (consM (ret (.str "A")) (consM (ret (.int 0)) (consM (ret (.int 0)) nilM))))) nilM)))
    (sSeq (sIf (asB (bin (neO (ownT [("Call", c_Call_eq), ("Voice", c_Voice_eq)])) (var 3) (mkLst (consM (ret (.str "call distance")) (consM (ret (.str "call length")) (consM (ret (.str "call name")) nilM)))))) (sRet (ret (.bl false))) sNext)
    (sSeq (sSet 3 (mkLstM (consM (lamP [7] s_l_tried 3 (makeP "Call" 7 c_Call_init [] (consM (var 7) (consM (ret (.int 4)) (consM (ret (.int 3)) (consM (ret (.str "x")) (consM (ret (.int 0)) (consM (ret (.int 4)) nilM)))))))) nilM)))
    (sSeq (sExpr (lm appendV (var 3) (consM (lamP [7] s_l_tried 3 (makeP "Call" 7 c_Call_init [] (consM (var 7) (consM (ret (.int 4)) (consM (ret (.int 3)) (consM (ret (.str "drop")) (consM (ret (.int 5)) (consM (ret (.int 4)) nilM)))))))) nilM)))
    (sSeq (sExpr (lm appendV (var 3) (consM (lamP [7] s_l_tried 3 (makeP "Call" 7 c_Call_init [.str "wait", .int 1, .int 0] (consM (var 7) (consM (ret (.bl true)) (consM (ret (.int 3)) nilM))))) nilM)))
    (sSeq (sExpr (lm appendV (var 3) (consM (lamP [7] s_l_tried 3 (makeP "Call" 7 c_Call_init [] (consM (var 7) (consM (ret (.int 4)) (consM (ret (.int 3)) (consM (ret (.str "drop")) (consM (ret (.int 4)) (consM (ret (.int 4)) nilM)))))))) nilM)))
    (sSeq (sIf (asB (bin (neO (ownT [("Call", c_Call_eq), ("Voice", c_Voice_eq)])) (var 3) (mkLst (consM (ret (.str "call busy")) (consM (ret (.str "call least")) (consM (ret (.str "call distance")) (consM (ret (.str "call joins")) nilM))))))) (sRet (ret (.bl false))) sNext)
    (sSeq (sSet 4 (mkLst (consM (bin addV (var 7) (ret (.str " 2 1 wait 1 0"))) (consM (bin addV (var 8) (ret (.str " 3 2 drop 2 1"))) nilM))))
    (sSeq (sSet 5 (cmthP "Voice" 2 c_Voice_read (consM (m1 joinV (ret (.str "\n")) (var 4)) nilM)))
    (sSeq (sIf (orB (asB (bin (neO (ownT [("Call", c_Call_eq), ("Voice", c_Voice_eq)])) (un (fldV (ownL ["Voice"]) "reach") (var 5)) (ret (.int 3)))) (orB (asB (bin (neO (ownT [("Call", c_Call_eq), ("Voice", c_Voice_eq)])) (un (fldV (ownL ["Voice"]) "names") (var 5)) (mkTup (consM (var 7) (consM (var 8) nilM))))) (orB (asB (bin (neO (ownT [("Call", c_Call_eq), ("Voice", c_Voice_eq)])) (un (fldV (ownL ["Voice"]) "reach") (methP "Voice" "without" 2 c_Voice_without [] (var 5) (consM (ret (.int 1)) nilM))) (ret (.int 2)))) (asB (bin (neO (ownT [("Call", c_Call_eq), ("Voice", c_Voice_eq)])) (app (own1 ownS strV (ownT [("Call", c_Call_str), ("Voice", c_Voice_str)])) (consM (var 5) nilM)) (m1 joinV (ret (.str "\n")) (var 4))))))) (sRet (ret (.bl false))) sNext)
    (sSeq (sSet 6 (cmthP "Voice" 2 c_Voice_read (consM (m1 joinV (ret (.str "\n")) (un revV (var 4))) nilM)))
    (sSeq (sIf (orB (asB (bin (eqO (ownT [("Call", c_Call_eq), ("Voice", c_Voice_eq)])) (var 5) (var 6))) (asB (bin (neO (ownT [("Call", c_Call_eq), ("Voice", c_Voice_eq)])) (makeP "Voice" 2 c_Voice_init [] (consM (mkLst (consM (idxG "Voice" c_Voice_getitem (var 5) (ret (.int 1))) (consM (idxG "Voice" c_Voice_getitem (var 5) (ret (.int 0))) nilM))) nilM)) (var 6)))) (sRet (ret (.bl false))) sNext)
    (sSeq (sSet 3 (mkLstM (consM (lamP [4] s_l_tried 3 (cmthP "Voice" 2 c_Voice_read (consM (bin addV (bin idxV (var 4) (ret (.int 0))) (ret (.str "\n"))) nilM))) nilM)))
    (sSeq (sExpr (lm appendV (var 3) (consM (lamP [4] s_l_tried 3 (cmthP "Voice" 2 c_Voice_read (consM (bin addV (bin addV (bin idxV (var 4) (ret (.int 0))) (ret (.str "\n"))) (bin idxV (var 4) (ret (.int 0)))) nilM))) nilM)))
    (sIf (orB (asB (bin (neO (ownT [("Call", c_Call_eq), ("Voice", c_Voice_eq)])) (var 3) (mkLst (consM (ret (.str "line 1")) (consM (ret (.str "voice names")) nilM))))) (asB (bin (neO (ownT [("Call", c_Call_eq), ("Voice", c_Voice_eq)])) (lamP [] s_l_tried 3 (makeP "Voice" 2 c_Voice_init [] (consM (mkLst nilM) nilM))) (ret (.str "voice calls"))))) (sRet (ret (.bl false))) sNext)))))))))))))))))))))))
    (sRet (ret (.bl true))))
section
variable {P : Program} {k : Kx} {mg : Str → Option Value} {base : Heap} {a : Ad}
theorem ok_Call_str (T : Tx P k mg a) : FnOk P k.w k.K mg base (L2.CX P k.w) 1 a.f_Call_str a.d_Call_str ["self"] (spM k 1 c_Call_str) :=
  ok_def (j := 0) (s := s_Call_str) T.F_Call_str sc_Call_str (show c_Call_str = callS 1 s_Call_str from rfl) rfl rfl fun cdv A outer s0 H E hr => by
    have tk : Takes (cxOf (L2.CX P k.w) P k.w k.K mg base ["self"] "Call.__str__" (defScope st_Call_str) a.f_Call_str cdv A outer s0 H E) (fun c d _ H' => E c d H') := takes_of rfl rfl rfl rfl
    exact (ms_one (ms_ret (me_joined (ms := [(un fmtV (un (fldV (ownL ["Call"]) "name") (var 0))), (ret (.str " ")), (un fmtV (un (fldV (ownL ["Call"]) "distance") (var 0))), (ret (.str " ")), (un fmtV (un (fldV (ownL ["Call"]) "length") (var 0))), (ret (.str " ")), (un fmtV (un (fldV (ownL ["Call"]) "busy") (var 0))), (ret (.str " ")), (un fmtV (un (fldV (ownL ["Call"]) "least") (var 0))), (ret (.str " ")), (un fmtV (un (fldV (ownL ["Call"]) "joins") (var 0)))]) (pj_cons (m := (un fmtV (un (fldV (ownL ["Call"]) "name") (var 0)))) (me_fmt (me_fld (ownL_cons ⟨T.K_Call.t.cl, T.n_Call_name⟩ ownL_nil) (me_var 0 (pv 0)))) (pj_cons (m := (ret (.str " "))) me_str (pj_cons (m := (un fmtV (un (fldV (ownL ["Call"]) "distance") (var 0)))) (me_fmt (me_fld (ownL_cons ⟨T.K_Call.t.cl, T.n_Call_distance⟩ ownL_nil) (me_var 0 (pv 0)))) (pj_cons (m := (ret (.str " "))) me_str (pj_cons (m := (un fmtV (un (fldV (ownL ["Call"]) "length") (var 0)))) (me_fmt (me_fld (ownL_cons ⟨T.K_Call.t.cl, T.n_Call_length⟩ ownL_nil) (me_var 0 (pv 0)))) (pj_cons (m := (ret (.str " "))) me_str (pj_cons (m := (un fmtV (un (fldV (ownL ["Call"]) "busy") (var 0)))) (me_fmt (me_fld (ownL_cons ⟨T.K_Call.t.cl, T.n_Call_busy⟩ ownL_nil) (me_var 0 (pv 0)))) (pj_cons (m := (ret (.str " "))) me_str (pj_cons (m := (un fmtV (un (fldV (ownL ["Call"]) "least") (var 0)))) (me_fmt (me_fld (ownL_cons ⟨T.K_Call.t.cl, T.n_Call_least⟩ ownL_nil) (me_var 0 (pv 0)))) (pj_cons (m := (ret (.str " "))) me_str (pj_cons (m := (un fmtV (un (fldV (ownL ["Call"]) "joins") (var 0)))) (me_fmt (me_fld (ownL_cons ⟨T.K_Call.t.cl, T.n_Call_joins⟩ ownL_nil) (me_var 0 (pv 0)))) pj_nil))))))))))))))
theorem ok_Call_eq (T : Tx P k mg a) : FnOk P k.w k.K mg base (L2.CX P k.w) 4 a.f_Call_eq a.d_Call_eq ["self", "other"] (spM k 2 c_Call_eq) :=
  ok_def (j := 3) (s := s_Call_eq) T.F_Call_eq sc_Call_eq (show c_Call_eq = callS 2 s_Call_eq from rfl) rfl rfl fun cdv A outer s0 H E hr => by
    have tk : Takes (cxOf (L2.CX P k.w) P k.w k.K mg base ["self", "other"] "Call.__eq__" (defScope st_Call_eq) a.f_Call_eq cdv A outer s0 H E) (fun c d _ H' => E c d H') := takes_of rfl rfl rfl rfl
    exact (ms_one (ms_ret (me_and (me_isi (.own (k.cl "Call")) (isiF_ok T.K_Call) (ownT_cons (kit_self T.K_Call) ownT_nil) (by rfl) T.z_isinstance (me_var 1 (pv 1)) (pe_glob (by rfl) T.g_Call (show RelV (.ref (k.cl "Call")) (.ref (k.cl "Call")) from rfl))) (me_one (me_cu (cu_eq hr) (me_ct (cu_strO (kk := 1) (ownT_cons (own_mk T.K_Call T.mt_Call_str (ok_Call_str T) T.b_Call_str (by decide)) ownT_nil) hr (by decide)) (by rfl) T.z_str (by decide +kernel) (ma_cons (me_var 0 (pv 0)) ma_nil)) (me_ct (cu_strO (kk := 1) (ownT_cons (own_mk T.K_Call T.mt_Call_str (ok_Call_str T) T.b_Call_str (by decide)) ownT_nil) hr (by decide)) (by rfl) T.z_str (by decide +kernel) (ma_cons (me_var 1 (pv 1)) ma_nil)))))))
theorem ok_is_name (T : Tx P k mg a) : FnOk P k.w k.K mg base (L2.CX P k.w) 1 a.f_is_name a.d_is_name ["value"] (spM k 1 c_is_name) :=
  ok_def (j := 0) (s := s_is_name) T.F_is_name sc_is_name (show c_is_name = callS 2 s_is_name from rfl) rfl rfl fun cdv A outer s0 H E hr => by
    have tk : Takes (cxOf (L2.CX P k.w) P k.w k.K mg base ["value", "letter"] "is_name" (defScope st_is_name) a.f_is_name cdv A outer s0 H E) (fun c d _ H' => E c d H') := takes_of rfl rfl rfl rfl
    exact (ms_cons (ms_if (PW.pt (mw_or (mt_not (mt_val (me_isi (.ty "str") (isiT_ok (by decide +kernel)) (fun _ _ h => nomatch h) (by rfl) T.z_isinstance (me_var 0 (pv 0)) (pe_bltn (by rfl) T.z_str (by decide +kernel) rfl)))) (mw_or1 (mt_not (mt_ch (cu_lt) (cu_le) me_int (me_cb (cu_len) (by rfl) T.z_len PySem.boot_len (ma_cons (me_var 0 (pv 0)) ma_nil)) (T.c_MOST_LETTERS |> fun ⟨_, _, h1, h2, h3⟩ => me_glob (by rfl) h1 h2 h3)))))) (ms_one (ms_ret me_bl)) ms_nil)
      (ms_one (ms_ret (me_cb (cu_all rfl) (by rfl) T.z_all (by decide +kernel) (ma_cons (me_comp (t := (.name 1)) (own := [("letter", 1)]) (by decide) (pe_lc (own := [("letter", 1)]) (g := gT _ (.name 1)) rfl sc_is_name.nd (mi_still (me_var 0 (pv 0))) (blkOk_by (own := [("letter", 1)]) (N := ["value", "letter"]) (sc := defScope st_is_name) (by decide +kernel)) (fun _ _ _ _ _ => (pg_name (i := 1) sc_is_name.nd rfl (by first | exact Or.inl rfl | exact Or.inr rfl))) (fun _ _ _ _ _ => mts_nil) (fun _ _ _ _ _ => (me_cu (cu_in) (me_var 1 (pv 1)) (T.c_LETTERS |> fun ⟨_, _, h1, h2, h3⟩ => me_glob (by rfl) h1 h2 h3))))) ma_nil)))))
theorem ok_is_integer (T : Tx P k mg a) : FnOk P k.w k.K mg base (L2.CX P k.w) 1 a.f_is_integer a.d_is_integer ["value"] (spM k 1 c_is_integer) :=
  ok_def (j := 0) (s := s_is_integer) T.F_is_integer sc_is_integer (show c_is_integer = callS 1 s_is_integer from rfl) rfl rfl fun cdv A outer s0 H E hr => by
    have tk : Takes (cxOf (L2.CX P k.w) P k.w k.K mg base ["value"] "is_integer" (defScope st_is_integer) a.f_is_integer cdv A outer s0 H E) (fun c d _ H' => E c d H') := takes_of rfl rfl rfl rfl
    exact (ms_one (ms_ret (me_and (me_isi (.ty "int") (isiT_ok (by decide +kernel)) (fun _ _ h => nomatch h) (by rfl) T.z_isinstance (me_var 0 (pv 0)) (pe_bltn (by rfl) T.z_int (by decide +kernel) rfl)) (me_one (me_not (me_isi (.ty "bool") (isiT_ok (by decide +kernel)) (fun _ _ h => nomatch h) (by rfl) T.z_isinstance (me_var 0 (pv 0)) (pe_bltn (by rfl) T.z_bool (by decide +kernel) rfl)))))))
theorem ok_is_within (T : Tx P k mg a) : FnOk P k.w k.K mg base (L2.CX P k.w) 2 a.f_is_within a.d_is_within ["value", "least", "most"] (spM k 3 c_is_within) :=
  ok_def (j := 1) (s := s_is_within) T.F_is_within sc_is_within (show c_is_within = callS 3 s_is_within from rfl) rfl rfl fun cdv A outer s0 H E hr => by
    have tk : Takes (cxOf (L2.CX P k.w) P k.w k.K mg base ["value", "least", "most"] "is_within" (defScope st_is_within) a.f_is_within cdv A outer s0 H E) (fun c d _ H' => E c d H') := takes_of rfl rfl rfl rfl
    exact (ms_one (ms_ret (me_and (me_callP (ok_is_integer T) (hr.mono (by decide)) (by rfl) T.g_is_integer T.F_is_integer.kp T.b_is_integer .nil (fun _ _ => rl_nil) tk (ma_cons (me_var 0 (pv 0)) ma_nil)) (me_one (me_ch (cu_le) (cu_le) (me_var 1 (pv 1)) (me_var 0 (pv 0)) (me_var 2 (pv 2)))))))
theorem ok_is_word (T : Tx P k mg a) : FnOk P k.w k.K mg base (L2.CX P k.w) 1 a.f_is_word a.d_is_word ["value", "words"] (spM k 2 c_is_word) :=
  ok_def (j := 0) (s := s_is_word) T.F_is_word sc_is_word (show c_is_word = callS 2 s_is_word from rfl) rfl rfl fun cdv A outer s0 H E hr => by
    have tk : Takes (cxOf (L2.CX P k.w) P k.w k.K mg base ["value", "words"] "is_word" (defScope st_is_word) a.f_is_word cdv A outer s0 H E) (fun c d _ H' => E c d H') := takes_of rfl rfl rfl rfl
    exact (ms_one (ms_ret (me_and (me_isi (.ty "str") (isiT_ok (by decide +kernel)) (ownT_cons ⟨T.K_Voice.t, T.ki_Voice_str⟩ ownT_nil) (by rfl) T.z_isinstance (me_var 0 (pv 0)) (pe_bltn (by rfl) T.z_str (by decide +kernel) rfl)) (me_one (me_cu (cu_in) (me_var 0 (pv 0)) (me_var 1 (pv 1)))))))
theorem ok_need (T : Tx P k mg a) : FnOk P k.w k.K mg base (L2.CX P k.w) 2 a.f_need a.d_need ["word", "is_right"] (spM k 2 c_need) :=
  ok_def (j := 1) (s := s_need) T.F_need sc_need (show c_need = callS 2 s_need from rfl) rfl rfl fun cdv A outer s0 H E hr => by
    have tk : Takes (cxOf (L2.CX P k.w) P k.w k.K mg base ["word", "is_right"] "need" (defScope st_need) a.f_need cdv A outer s0 H E) (fun c d _ H' => E c d H') := takes_of rfl rfl rfl rfl
    exact (ms_one (ms_if (mt_not (mt_val (me_var 1 (pv 1)))) (ms_one (T.R_InvalidCall |> fun ⟨_, hR⟩ => ms_raise (c := "InvalidCall") hR rfl tk (hr.mono (by decide)) (by rfl) T.g_InvalidCall (ma_cons (me_var 0 (pv 0)) ma_nil))) ms_nil))
theorem ok_Call_init (T : Tx P k mg a) : FnOk P k.w k.K mg base (L2.CX P k.w) 3 a.f_Call_init a.d_Call_init ["self", "name", "distance", "length", "busy", "least", "joins"] (spM k 7 c_Call_init) :=
  ok_defD (j := 2) (s := s_Call_init) T.F_Call_init sc_Call_init (show c_Call_init = callS 7 s_Call_init from rfl) rfl rfl fun cdv A outer s0 H E hr => by
    have tk : Takes (cxOf (L2.CX P k.w) P k.w k.K mg base ["self", "name", "distance", "length", "busy", "least", "joins"] "Call.__init__" (defScope st_Call_init) a.f_Call_init cdv A outer s0 H E) (fun c d _ H' => E c d H') := takes_of rfl rfl rfl rfl
    exact (ms_cons (ms_expr (me_callP (ok_need T) (hr.mono (by decide)) (by rfl) T.g_need T.F_need.kp T.b_need .nil (fun _ _ => rl_nil) tk (ma_cons me_str (ma_cons (me_callP (ok_is_name T) (hr.mono (by decide)) (by rfl) T.g_is_name T.F_is_name.kp T.b_is_name .nil (fun _ _ => rl_nil) tk (ma_cons (me_var 1 (pv 1)) ma_nil)) ma_nil))))
      (ms_cons (ms_expr (me_callP (ok_need T) (hr.mono (by decide)) (by rfl) T.g_need T.F_need.kp T.b_need .nil (fun _ _ => rl_nil) tk (ma_cons me_str (ma_cons (me_callP (ok_is_within T) (hr.mono (by decide)) (by rfl) T.g_is_within T.F_is_within.kp T.b_is_within .nil (fun _ _ => rl_nil) tk (ma_cons (me_var 2 (pv 2)) (ma_cons me_int (ma_cons (T.c_GREATEST_DISTANCE |> fun ⟨_, _, h1, h2, h3⟩ => me_glob (by rfl) h1 h2 h3) ma_nil)))) ma_nil))))
      (ms_cons (ms_expr (me_callP (ok_need T) (hr.mono (by decide)) (by rfl) T.g_need T.F_need.kp T.b_need .nil (fun _ _ => rl_nil) tk (ma_cons me_str (ma_cons (me_callP (ok_is_within T) (hr.mono (by decide)) (by rfl) T.g_is_within T.F_is_within.kp T.b_is_within .nil (fun _ _ => rl_nil) tk (ma_cons (me_var 3 (pv 3)) (ma_cons me_int (ma_cons (T.c_GREATEST_LENGTH |> fun ⟨_, _, h1, h2, h3⟩ => me_glob (by rfl) h1 h2 h3) ma_nil)))) ma_nil))))
      (ms_cons (ms_expr (me_callP (ok_need T) (hr.mono (by decide)) (by rfl) T.g_need T.F_need.kp T.b_need .nil (fun _ _ => rl_nil) tk (ma_cons me_str (ma_cons (me_callP (ok_is_word T) (hr.mono (by decide)) (by rfl) T.g_is_word T.F_is_word.kp T.b_is_word .nil (fun _ _ => rl_nil) tk (ma_cons (me_var 4 (pv 4)) (ma_cons (T.c_BUSY |> fun ⟨_, _, h1, h2, h3⟩ => me_glob (by rfl) h1 h2 h3) ma_nil))) ma_nil))))
      (ms_cons (ms_expr (me_callP (ok_need T) (hr.mono (by decide)) (by rfl) T.g_need T.F_need.kp T.b_need .nil (fun _ _ => rl_nil) tk (ma_cons me_str (ma_cons (me_callP (ok_is_within T) (hr.mono (by decide)) (by rfl) T.g_is_within T.F_is_within.kp T.b_is_within .nil (fun _ _ => rl_nil) tk (ma_cons (me_var 5 (pv 5)) (ma_cons me_int (ma_cons (T.c_GREATEST_LEAST |> fun ⟨_, _, h1, h2, h3⟩ => me_glob (by rfl) h1 h2 h3) ma_nil)))) ma_nil))))
      (ms_cons (ms_expr (me_callP (ok_need T) (hr.mono (by decide)) (by rfl) T.g_need T.F_need.kp T.b_need .nil (fun _ _ => rl_nil) tk (ma_cons me_str (ma_cons (me_callP (ok_is_within T) (hr.mono (by decide)) (by rfl) T.g_is_within T.F_is_within.kp T.b_is_within .nil (fun _ _ => rl_nil) tk (ma_cons (me_var 6 (pv 6)) (ma_cons me_int (ma_cons (T.c_GREATEST_JOINS |> fun ⟨_, _, h1, h2, h3⟩ => me_glob (by rfl) h1 h2 h3) ma_nil)))) ma_nil))))
      (ms_cons (ms_fld (ownL_cons ⟨T.K_Call.t.cl, T.n_Call_name⟩ ownL_nil) (me_var 0 (pv 0)) (me_var 1 (pv 1)))
      (ms_cons (ms_fld (ownL_cons ⟨T.K_Call.t.cl, T.n_Call_distance⟩ ownL_nil) (me_var 0 (pv 0)) (me_var 2 (pv 2)))
      (ms_cons (ms_fld (ownL_cons ⟨T.K_Call.t.cl, T.n_Call_length⟩ ownL_nil) (me_var 0 (pv 0)) (me_var 3 (pv 3)))
      (ms_cons (ms_fld (ownL_cons ⟨T.K_Call.t.cl, T.n_Call_busy⟩ ownL_nil) (me_var 0 (pv 0)) (me_var 4 (pv 4)))
      (ms_cons (ms_fld (ownL_cons ⟨T.K_Call.t.cl, T.n_Call_least⟩ ownL_nil) (me_var 0 (pv 0)) (me_var 5 (pv 5)))
      (ms_one (ms_fld (ownL_cons ⟨T.K_Call.t.cl, T.n_Call_joins⟩ ownL_nil) (me_var 0 (pv 0)) (me_var 6 (pv 6)))))))))))))))
theorem ok_Voice_str (T : Tx P k mg a) : FnOk P k.w k.K mg base (L2.CX P k.w) 4 a.f_Voice_str a.d_Voice_str ["self"] (spM k 1 c_Voice_str) :=
  ok_def (j := 3) (s := s_Voice_str) T.F_Voice_str sc_Voice_str (show c_Voice_str = callS 2 s_Voice_str from rfl) rfl rfl fun cdv A outer s0 H E hr => by
    have tk : Takes (cxOf (L2.CX P k.w) P k.w k.K mg base ["self", "call"] "Voice.__str__" (defScope st_Voice_str) a.f_Voice_str cdv A outer s0 H E) (fun c d _ H' => E c d H') := takes_of rfl rfl rfl rfl
    exact (ms_one (ms_ret (me_join me_str (me_comp (t := (.name 1)) (own := [("call", 1)]) (by decide) (pe_lc (own := [("call", 1)]) (g := gT _ (.name 1)) rfl sc_Voice_str.nd (mi_still (me_fld (ownL_cons ⟨T.K_Voice.t.cl, T.n_Voice_calls⟩ ownL_nil) (me_var 0 (pv 0)))) (blkOk_by (own := [("call", 1)]) (N := ["self", "call"]) (sc := defScope st_Voice_str) (by decide +kernel)) (fun _ _ _ _ _ => (pg_name (i := 1) sc_Voice_str.nd rfl (by first | exact Or.inl rfl | exact Or.inr rfl))) (fun _ _ _ _ _ => mts_nil) (fun _ _ _ _ _ => (me_ct (cu_strO (kk := 1) (ownT_cons (own_mk T.K_Call T.mt_Call_str (ok_Call_str T) T.b_Call_str (by decide)) ownT_nil) hr (by decide)) (by rfl) T.z_str (by decide +kernel) (ma_cons (me_var 1 (pv 1)) ma_nil))))))))
theorem ok_Voice_eq (T : Tx P k mg a) : FnOk P k.w k.K mg base (L2.CX P k.w) 7 a.f_Voice_eq a.d_Voice_eq ["self", "other"] (spM k 2 c_Voice_eq) :=
  ok_def (j := 6) (s := s_Voice_eq) T.F_Voice_eq sc_Voice_eq (show c_Voice_eq = callS 2 s_Voice_eq from rfl) rfl rfl fun cdv A outer s0 H E hr => by
    have tk : Takes (cxOf (L2.CX P k.w) P k.w k.K mg base ["self", "other"] "Voice.__eq__" (defScope st_Voice_eq) a.f_Voice_eq cdv A outer s0 H E) (fun c d _ H' => E c d H') := takes_of rfl rfl rfl rfl
    exact (ms_one (ms_ret (me_and (me_isi (.own (k.cl "Voice")) (isiF_ok T.K_Voice) (ownT_cons (kit_self T.K_Voice) ownT_nil) (by rfl) T.z_isinstance (me_var 1 (pv 1)) (pe_glob (by rfl) T.g_Voice (show RelV (.ref (k.cl "Voice")) (.ref (k.cl "Voice")) from rfl))) (me_one (me_cu (cu_eq hr) (me_ct (cu_strO (kk := 4) (ownT_cons (own_mk T.K_Voice T.mt_Voice_str (ok_Voice_str T) T.b_Voice_str (by decide)) ownT_nil) hr (by decide)) (by rfl) T.z_str (by decide +kernel) (ma_cons (me_var 0 (pv 0)) ma_nil)) (me_ct (cu_strO (kk := 4) (ownT_cons (own_mk T.K_Voice T.mt_Voice_str (ok_Voice_str T) T.b_Voice_str (by decide)) ownT_nil) hr (by decide)) (by rfl) T.z_str (by decide +kernel) (ma_cons (me_var 1 (pv 1)) ma_nil)))))))
theorem ok_Voice_need (T : Tx P k mg a) : FnOk P k.w k.K mg base (L2.CX P k.w) 2 a.f_Voice_need a.d_Voice_need ["self", "at"] (spM k 2 c_Voice_need) :=
  ok_def (j := 1) (s := s_Voice_need) T.F_Voice_need sc_Voice_need (show c_Voice_need = callS 2 s_Voice_need from rfl) rfl rfl fun cdv A outer s0 H E hr => by
    have tk : Takes (cxOf (L2.CX P k.w) P k.w k.K mg base ["self", "at"] "Voice.need" (defScope st_Voice_need) a.f_Voice_need cdv A outer s0 H E) (fun c d _ H' => E c d H') := takes_of rfl rfl rfl rfl
    exact (ms_one (ms_if (mt_not (mt_ch (cu_le) (cu_lt) me_int (me_var 1 (pv 1)) (me_cb (cu_len) (by rfl) T.z_len PySem.boot_len (ma_cons (me_fld (ownL_cons ⟨T.K_Voice.t.cl, T.n_Voice_calls⟩ ownL_nil) (me_var 0 (pv 0))) ma_nil)))) (ms_one (T.R_NoCall |> fun ⟨_, hR⟩ => ms_raise (c := "NoCall") hR rfl tk (hr.mono (by decide)) (by rfl) T.g_NoCall (ma_cons (me_var 1 (pv 1)) ma_nil))) ms_nil))
theorem ok_Voice_getitem (T : Tx P k mg a) : FnOk P k.w k.K mg base (L2.CX P k.w) 3 a.f_Voice_getitem a.d_Voice_getitem ["self", "at"] (spM k 2 c_Voice_getitem) :=
  ok_def (j := 2) (s := s_Voice_getitem) T.F_Voice_getitem sc_Voice_getitem (show c_Voice_getitem = callS 2 s_Voice_getitem from rfl) rfl rfl fun cdv A outer s0 H E hr => by
    have tk : Takes (cxOf (L2.CX P k.w) P k.w k.K mg base ["self", "at"] "Voice.__getitem__" (defScope st_Voice_getitem) a.f_Voice_getitem cdv A outer s0 H E) (fun c d _ H' => E c d H') := takes_of rfl rfl rfl rfl
    exact (ms_cons (ms_expr (me_methP (c := "Voice") (me_var 0 (pv 0)) T.K_Voice.t.cl T.mt_Voice_need (ok_Voice_need T) (hr.mono (by decide)) T.b_Voice_need .nil (fun _ _ => rl_nil) tk (ma_cons (me_var 1 (pv 1)) ma_nil)))
      (ms_one (ms_ret (me_idx (me_fld (ownL_cons ⟨T.K_Voice.t.cl, T.n_Voice_calls⟩ ownL_nil) (me_var 0 (pv 0))) (me_var 1 (pv 1)) (fun _ _ => rfl)))))
theorem ok_is_sequence (T : Tx P k mg a) : FnOk P k.w k.K mg base (L2.CX P k.w) 1 a.f_is_sequence a.d_is_sequence ["value"] (spM k 1 c_is_sequence) :=
  ok_def (j := 0) (s := s_is_sequence) T.F_is_sequence sc_is_sequence (show c_is_sequence = callS 1 s_is_sequence from rfl) rfl rfl fun cdv A outer s0 H E hr => by
    have tk : Takes (cxOf (L2.CX P k.w) P k.w k.K mg base ["value"] "is_sequence" (defScope st_is_sequence) a.f_is_sequence cdv A outer s0 H E) (fun c d _ H' => E c d H') := takes_of rfl rfl rfl rfl
    exact (ms_one (ms_ret (me_isi2 (.ty "list") (.ty "tuple") (isiT2_ok (by decide +kernel)) (fun _ _ h => nomatch h) (by rfl) T.z_isinstance (me_var 0 (pv 0)) (pe_bltn (by rfl) T.z_list (by decide +kernel) rfl) (pe_bltn (by rfl) T.z_tuple (by decide +kernel) rfl))))
theorem ok_Voice_init (T : Tx P k mg a) : FnOk P k.w k.K mg base (L2.CX P k.w) 2 a.f_Voice_init a.d_Voice_init ["self", "calls"] (spM k 2 c_Voice_init) :=
  ok_def (j := 1) (s := s_Voice_init) T.F_Voice_init sc_Voice_init (show c_Voice_init = callS 4 s_Voice_init from rfl) rfl rfl fun cdv A outer s0 H E hr => by
    have tk : Takes (cxOf (L2.CX P k.w) P k.w k.K mg base ["self", "calls", "names", "call"] "Voice.__init__" (defScope st_Voice_init) a.f_Voice_init cdv A outer s0 H E) (fun c d _ H' => E c d H') := takes_of rfl rfl rfl rfl
    exact (ms_cons (ms_if (PW.pt (mw_or (mt_not (mt_val (me_callP (ok_is_sequence T) (hr.mono (by decide)) (by rfl) T.g_is_sequence T.F_is_sequence.kp T.b_is_sequence .nil (fun _ _ => rl_nil) tk (ma_cons (me_var 1 (pv 1)) ma_nil)))) (mw_or (mt_cu (cu_eq hr) (me_cb (cu_len) (by rfl) T.z_len PySem.boot_len (ma_cons (me_var 1 (pv 1)) ma_nil)) me_int) (mw_or1 (mt_not (mt_val (me_cb (cu_all rfl) (by rfl) T.z_all (by decide +kernel) (ma_cons (me_comp (t := (.name 3)) (own := [("call", 3)]) (by decide) (pe_lc (own := [("call", 3)]) (g := gT _ (.name 3)) rfl sc_Voice_init.nd (mi_still (me_var 1 (pv 1))) (blkOk_by (own := [("call", 3)]) (N := ["self", "calls", "names", "call"]) (sc := defScope st_Voice_init) (by decide +kernel)) (fun _ _ _ _ _ => (pg_name (i := 3) sc_Voice_init.nd rfl (by first | exact Or.inl rfl | exact Or.inr rfl))) (fun _ _ _ _ _ => mts_nil) (fun _ _ _ _ _ => (me_isi (.own (k.cl "Call")) (isiF_ok T.K_Call) (ownT_cons (kit_self T.K_Call) ownT_nil) (by rfl) T.z_isinstance (me_var 3 (pv 3)) (pe_glob (by rfl) T.g_Call (show RelV (.ref (k.cl "Call")) (.ref (k.cl "Call")) from rfl)))))) ma_nil)))))))) (ms_one (T.R_InvalidVoice |> fun ⟨_, hR⟩ => ms_raise (c := "InvalidVoice") hR rfl tk (hr.mono (by decide)) (by rfl) T.g_InvalidVoice (ma_cons me_str ma_nil))) ms_nil)
      (ms_cons (ms_comp (i := 2) (elt := .Constant .none 0 ⟨0,0,0,0⟩) (tg := .Constant .none 0 ⟨0,0,0,0⟩) (iter := .Constant .none 0 ⟨0,0,0,0⟩) (ifs := []) (scope := defScope st_Voice_init) (t := (.name 3)) (own := [("call", 3)]) (by decide) (ps_setLc (i := 2) (own := [("call", 3)]) (g := gT _ (.name 3)) rfl sc_Voice_init.nd rfl rfl (sw_true rfl rfl rfl (by decide +kernel)) (mi_still (me_var 1 (pv 1))) (blkOk_by (own := [("call", 3)]) (N := ["self", "calls", "names", "call"]) (sc := defScope st_Voice_init) (by decide +kernel)) (fun _ _ _ _ _ => (pg_name (i := 3) sc_Voice_init.nd rfl (by first | exact Or.inl rfl | exact Or.inr rfl))) (fun _ _ _ _ _ => mts_nil) (fun _ _ _ _ _ => (me_fld (ownL_cons ⟨T.K_Call.t.cl, T.n_Call_name⟩ ownL_nil) (me_var 3 (pv 3))))))
      (ms_cons (ms_if (mt_cu (cu_lt) (me_lenSet rfl (by rfl) T.z_len (by rfl) T.z_set (me_var 2 (pv 2))) (me_cb (cu_len) (by rfl) T.z_len PySem.boot_len (ma_cons (me_var 2 (pv 2)) ma_nil))) (ms_one (T.R_InvalidVoice |> fun ⟨_, hR⟩ => ms_raise (c := "InvalidVoice") hR rfl tk (hr.mono (by decide)) (by rfl) T.g_InvalidVoice (ma_cons me_str ma_nil))) ms_nil)
      (ms_cons (ms_fld (ownL_cons ⟨T.K_Voice.t.cl, T.n_Voice_calls⟩ ownL_nil) (me_var 0 (pv 0)) (me_ct (cu_tuple) (by rfl) T.z_tuple (by decide +kernel) (ma_cons (me_var 1 (pv 1)) ma_nil)))
      (ms_cons (ms_fld (ownL_cons ⟨T.K_Voice.t.cl, T.n_Voice_names⟩ ownL_nil) (me_var 0 (pv 0)) (me_ct (cu_tuple) (by rfl) T.z_tuple (by decide +kernel) (ma_cons (me_var 2 (pv 2)) ma_nil)))
      (ms_one (ms_fld (ownL_cons ⟨T.K_Voice.t.cl, T.n_Voice_reach⟩ ownL_nil) (me_var 0 (pv 0)) (me_cb (cu_max rfl) (by rfl) T.z_max (by decide +kernel) (ma_cons (me_comp (t := (.name 3)) (own := [("call", 3)]) (by decide) (pe_lc (own := [("call", 3)]) (g := gT _ (.name 3)) rfl sc_Voice_init.nd (mi_still (me_var 1 (pv 1))) (blkOk_by (own := [("call", 3)]) (N := ["self", "calls", "names", "call"]) (sc := defScope st_Voice_init) (by decide +kernel)) (fun _ _ _ _ _ => (pg_name (i := 3) sc_Voice_init.nd rfl (by first | exact Or.inl rfl | exact Or.inr rfl))) (fun _ _ _ _ _ => mts_nil) (fun _ _ _ _ _ => (me_ct (cu_int) (by rfl) T.z_int (by decide +kernel) (ma_cons (me_fld (ownL_cons ⟨T.K_Call.t.cl, T.n_Call_distance⟩ ownL_nil) (me_var 3 (pv 3))) ma_nil))))) ma_nil)))))))))
theorem ok_number_in (T : Tx P k mg a) : FnOk P k.w k.K mg base (L2.CX P k.w) 1 a.f_number_in a.d_number_in ["word"] (spM k 1 c_number_in) :=
  ok_def (j := 0) (s := s_number_in) T.F_number_in sc_number_in (show c_number_in = callS 2 s_number_in from rfl) rfl rfl fun cdv A outer s0 H E hr => by
    have tk : Takes (cxOf (L2.CX P k.w) P k.w k.K mg base ["word", "digit"] "number_in" (defScope st_number_in) a.f_number_in cdv A outer s0 H E) (fun c d _ H' => E c d H') := takes_of rfl rfl rfl rfl
    exact (ms_cons (ms_if (PW.pt (mw_or (mt_not (mt_ch (cu_lt) (cu_le) me_int (me_cb (cu_len) (by rfl) T.z_len PySem.boot_len (ma_cons (me_var 0 (pv 0)) ma_nil)) (T.c_MOST_DIGITS |> fun ⟨_, _, h1, h2, h3⟩ => me_glob (by rfl) h1 h2 h3))) (mw_or1 (mt_not (mt_val (me_cb (cu_all rfl) (by rfl) T.z_all (by decide +kernel) (ma_cons (me_comp (t := (.name 1)) (own := [("digit", 1)]) (by decide) (pe_lc (own := [("digit", 1)]) (g := gT _ (.name 1)) rfl sc_number_in.nd (mi_still (me_var 0 (pv 0))) (blkOk_by (own := [("digit", 1)]) (N := ["word", "digit"]) (sc := defScope st_number_in) (by decide +kernel)) (fun _ _ _ _ _ => (pg_name (i := 1) sc_number_in.nd rfl (by first | exact Or.inl rfl | exact Or.inr rfl))) (fun _ _ _ _ _ => mts_nil) (fun _ _ _ _ _ => (me_cu (cu_in) (me_var 1 (pv 1)) (T.c_DIGITS |> fun ⟨_, _, h1, h2, h3⟩ => me_glob (by rfl) h1 h2 h3))))) ma_nil))))))) (ms_one (ms_ret me_non)) ms_nil)
      (ms_one (ms_ret (me_if (PW.pt (mw_or (mt_cu (cu_eq hr) (me_var 0 (pv 0)) me_str) (mw_or1 (mt_cu (cu_ne hr) (me_idx (me_var 0 (pv 0)) me_int (fun _ _ => rfl)) me_str)))) (me_ct (cu_int) (by rfl) T.z_int (by decide +kernel) (ma_cons (me_var 0 (pv 0)) ma_nil)) me_non))))
theorem ok_call_in (T : Tx P k mg a) : FnOk P k.w k.K mg base (L2.CX P k.w) 5 a.f_call_in a.d_call_in ["text"] (spM k 1 c_call_in) :=
  ok_def (j := 4) (s := s_call_in) T.F_call_in sc_call_in (show c_call_in = callS 4 s_call_in from rfl) rfl rfl fun cdv A outer s0 H E hr => by
    have tk : Takes (cxOf (L2.CX P k.w) P k.w k.K mg base ["text", "words", "numbers", "word"] "call_in" (defScope st_call_in) a.f_call_in cdv A outer s0 H E) (fun c d _ H' => E c d H') := takes_of rfl rfl rfl rfl
    exact (ms_cons (ms_set (i := 1) sc_call_in.nd rfl (by first | exact Or.inl rfl | exact Or.inr rfl) (me_split (me_var 0 (pv 0)) me_str))
      (ms_cons (ms_if (mt_cu (cu_ne hr) (me_cb (cu_len) (by rfl) T.z_len PySem.boot_len (ma_cons (me_var 1 (pv 1)) ma_nil)) me_int) (ms_one (ms_ret me_non)) ms_nil)
      (ms_cons (ms_comp (i := 2) (elt := .Constant .none 0 ⟨0,0,0,0⟩) (tg := .Constant .none 0 ⟨0,0,0,0⟩) (iter := .Constant .none 0 ⟨0,0,0,0⟩) (ifs := []) (scope := defScope st_call_in) (t := (.name 3)) (own := [("word", 3)]) (by decide) (ps_setLc (i := 2) (own := [("word", 3)]) (g := gT _ (.name 3)) rfl sc_call_in.nd rfl rfl (sw_true rfl rfl rfl (by decide +kernel)) (mi_still (me_lst (ma_cons (me_idx (me_var 1 (pv 1)) me_int (fun _ _ => rfl)) (ma_cons (me_idx (me_var 1 (pv 1)) me_int (fun _ _ => rfl)) (ma_cons (me_idx (me_var 1 (pv 1)) me_int (fun _ _ => rfl)) (ma_cons (me_idx (me_var 1 (pv 1)) me_int (fun _ _ => rfl)) ma_nil)))))) (blkOk_by (own := [("word", 3)]) (N := ["text", "words", "numbers", "word"]) (sc := defScope st_call_in) (by decide +kernel)) (fun _ _ _ _ _ => (pg_name (i := 3) sc_call_in.nd rfl (by first | exact Or.inl rfl | exact Or.inr rfl))) (fun _ _ _ _ _ => mts_nil) (fun _ _ _ _ _ => (me_callP (ok_number_in T) (hr.mono (by decide)) (by rfl) T.g_number_in T.F_number_in.kp T.b_number_in .nil (fun _ _ => rl_nil) takes0 (ma_cons (me_var 3 (pv 3)) ma_nil)))))
      (ms_cons (ms_if (mt_cu (cu_in) me_non (me_var 2 (pv 2))) (ms_one (ms_ret me_non)) ms_nil)
      (ms_one (ms_tryN rfl rfl ⟨by rfl, by decide, .inl T.g_InvalidCall⟩ tk (ownT_cons T.x_InvalidCall_InvalidCall ownT_nil) (fun _ _ _ tk _ => (ms_one (ms_ret (T.b7_Call_init |> fun ⟨_, hv7, hb7⟩ => (me_makeP (c := "Call") T.M_Call (ok_Call_init T) (hr.mono (by decide)) (by rfl) T.g_Call hb7 hv7 (fun _ _ => rl_nil) tk (ma_cons (me_idx (me_var 1 (pv 1)) me_int (fun _ _ => rfl)) (ma_cons (me_idx (me_var 2 (pv 2)) me_int (fun _ _ => rfl)) (ma_cons (me_idx (me_var 2 (pv 2)) me_int (fun _ _ => rfl)) (ma_cons (me_idx (me_var 1 (pv 1)) me_int (fun _ _ => rfl)) (ma_cons (me_idx (me_var 2 (pv 2)) me_int (fun _ _ => rfl)) (ma_cons (me_idx (me_var 2 (pv 2)) me_int (fun _ _ => rfl)) ma_nil))))))))))) (fun _ _ _ _ => (ms_one (ms_ret me_non)))))))))
theorem ok_Voice_read (T : Tx P k mg a) : FnOk P k.w k.K mg base (L2.CX P k.w) 6 a.f_Voice_read a.d_Voice_read ["cls", "text"] (spM k 2 c_Voice_read) :=
  ok_def (j := 5) (s := s_Voice_read) T.F_Voice_read sc_Voice_read (show c_Voice_read = callS 6 s_Voice_read from rfl) rfl rfl fun cdv A outer s0 H E hr => by
    have tk : Takes (cxOf (L2.CX P k.w) P k.w k.K mg base ["cls", "text", "found", "at", "call", "line"] "Voice.read" (defScope st_Voice_read) a.f_Voice_read cdv A outer s0 H E) (fun c d _ H' => E c d H') := takes_of rfl rfl rfl rfl
    exact (ms_cons (ms_comp (i := 2) (elt := .Constant .none 0 ⟨0,0,0,0⟩) (tg := .Constant .none 0 ⟨0,0,0,0⟩) (iter := .Constant .none 0 ⟨0,0,0,0⟩) (ifs := []) (scope := defScope st_Voice_read) (t := (.name 5)) (own := [("line", 5)]) (by decide) (ps_setLc (i := 2) (own := [("line", 5)]) (g := gT _ (.name 5)) rfl sc_Voice_read.nd rfl rfl (sw_true rfl rfl rfl (by decide +kernel)) (mi_still (me_split (me_var 1 (pv 1)) me_str)) (blkOk_by (own := [("line", 5)]) (N := ["cls", "text", "found", "at", "call", "line"]) (sc := defScope st_Voice_read) (by decide +kernel)) (fun _ _ _ _ _ => (pg_name (i := 5) sc_Voice_read.nd rfl (by first | exact Or.inl rfl | exact Or.inr rfl))) (fun _ _ _ _ _ => mts_nil) (fun _ _ _ _ _ => (me_callP (ok_call_in T) (hr.mono (by decide)) (by rfl) T.g_call_in T.F_call_in.kp T.b_call_in .nil (fun _ _ => rl_nil) takes0 (ma_cons (me_var 5 (pv 5)) ma_nil)))))
      (ms_cons (ms_for (t := (.tup [.name 3, .name 4])) (passes_of rfl) rfl (mi_enum (by rfl) T.z_enumerate (ma_cons (me_var 2 (pv 2)) ma_nil)) (pg_tup rfl (pgs_cons (pg_name (i := 3) sc_Voice_read.nd rfl (by first | exact Or.inl rfl | exact Or.inr rfl)) (pgs_cons (pg_name (i := 4) sc_Voice_read.nd rfl (by first | exact Or.inl rfl | exact Or.inr rfl)) pgs_nil))) (ms_one (ms_if (mt_cu (cu_is) (me_var 4 (pv 4)) me_non) (ms_one (T.R_InvalidText |> fun ⟨_, hR⟩ => ms_raise (c := "InvalidText") hR rfl tk (hr.mono (by decide)) (by rfl) T.g_InvalidText (ma_cons (me_var 3 (pv 3)) ma_nil))) ms_nil)))
      (ms_one (ms_ret (me_makeL (i := 0) (c := "Voice") (pv 0) T.M_Voice (ok_Voice_init T) (hr.mono (by decide)) T.b_Voice_init .nil (fun _ _ => rl_nil) tk (ma_cons (me_var 2 (pv 2)) ma_nil))))))
theorem ok_Voice_without (T : Tx P k mg a) : FnOk P k.w k.K mg base (L2.CX P k.w) 4 a.f_Voice_without a.d_Voice_without ["self", "at"] (spM k 2 c_Voice_without) :=
  ok_def (j := 3) (s := s_Voice_without) T.F_Voice_without sc_Voice_without (show c_Voice_without = callS 2 s_Voice_without from rfl) rfl rfl fun cdv A outer s0 H E hr => by
    have tk : Takes (cxOf (L2.CX P k.w) P k.w k.K mg base ["self", "at"] "Voice.without" (defScope st_Voice_without) a.f_Voice_without cdv A outer s0 H E) (fun c d _ H' => E c d H') := takes_of rfl rfl rfl rfl
    exact (ms_cons (ms_expr (me_methP (c := "Voice") (me_var 0 (pv 0)) T.K_Voice.t.cl T.mt_Voice_need (ok_Voice_need T) (hr.mono (by decide)) T.b_Voice_need .nil (fun _ _ => rl_nil) tk (ma_cons (me_var 1 (pv 1)) ma_nil)))
      (ms_one (ms_ret (me_makeP (c := "Voice") T.M_Voice (ok_Voice_init T) (hr.mono (by decide)) (by rfl) T.g_Voice T.b_Voice_init .nil (fun _ _ => rl_nil) tk (ma_cons (me_add (me_slice (me_fld (ownL_cons ⟨T.K_Voice.t.cl, T.n_Voice_calls⟩ ownL_nil) (me_var 0 (pv 0))) mo_none (mo_some (me_var 1 (pv 1)))) (me_slice (me_fld (ownL_cons ⟨T.K_Voice.t.cl, T.n_Voice_calls⟩ ownL_nil) (me_var 0 (pv 0))) (mo_some (me_add (me_var 1 (pv 1)) me_int)) mo_none)) ma_nil)))))
theorem ok_l_deal (T : Tx P k mg a) : FnOk P k.w k.K mg base (L2.CX P k.w) 1 a.f_l_deal a.d_l_deal ["_law_script", "_law_base"] (spM k 2 c_l_deal) :=
  ok_def (j := 0) (s := s_l_deal) T.F_l_deal sc_l_deal (show c_l_deal = callS 5 s_l_deal from rfl) rfl rfl fun cdv A outer s0 H E hr => by
    have tk : Takes (cxOf (L2.CX P k.w) P k.w k.K mg base ["_law_script", "_law_base", "_law_cells", "_law_mixed_here", "_law_cell"] "_law_deal" (defScope st_l_deal) a.f_l_deal cdv A outer s0 H E) (fun c d _ H' => E c d H') := takes_of rfl rfl rfl rfl
    exact (ms_cons (ms_comp (i := 2) (elt := .Constant .none 0 ⟨0,0,0,0⟩) (tg := .Constant .none 0 ⟨0,0,0,0⟩) (iter := .Constant .none 0 ⟨0,0,0,0⟩) (ifs := []) (scope := defScope st_l_deal) (t := (.name 4)) (own := [("_law_cell", 4)]) (by decide) (ps_setLc (i := 2) (own := [("_law_cell", 4)]) (g := gT _ (.name 4)) rfl sc_l_deal.nd rfl rfl (sw_true rfl rfl rfl (by decide +kernel)) (mi_still (me_slice (me_var 0 (pv 0)) (mo_some (me_var 1 (pv 1))) (mo_some me_int))) (blkOk_by (own := [("_law_cell", 4)]) (N := ["_law_script", "_law_base", "_law_cells", "_law_mixed_here", "_law_cell"]) (sc := defScope st_l_deal) (by decide +kernel)) (fun _ _ _ _ _ => (pg_name (i := 4) sc_l_deal.nd rfl (by first | exact Or.inl rfl | exact Or.inr rfl))) (fun _ _ _ _ _ => mts_nil) (fun _ _ _ _ _ => (me_cb (cu_abs) (by rfl) T.z_abs PyProof.Rows.boot_abs (ma_cons (me_ct (cu_int) (by rfl) T.z_int (by decide +kernel) (ma_cons (me_var 4 (pv 4)) ma_nil)) ma_nil)))))
      (ms_cons (ms_set (i := 3) sc_l_deal.nd rfl (by first | exact Or.inl rfl | exact Or.inr rfl) (me_add me_int (me_mul me_int (me_var 1 (pv 1)))))
      (ms_cons (ms_for (t := (.name 4)) (passes_of rfl) rfl (mi_still (me_var 2 (pv 2))) (pg_name (i := 4) sc_l_deal.nd rfl (by first | exact Or.inl rfl | exact Or.inr rfl)) (ms_one (ms_set (i := 3) sc_l_deal.nd rfl (by first | exact Or.inl rfl | exact Or.inr rfl) (me_mod (me_ct (cu_int) (by rfl) T.z_int (by decide +kernel) (ma_cons (me_add (me_add (me_mul (me_var 3 (pv 3)) me_int) (me_mod (me_ct (cu_int) (by rfl) T.z_int (by decide +kernel) (ma_cons (me_var 4 (pv 4)) ma_nil)) me_int)) me_int) ma_nil)) me_int))))
      (ms_one (ms_ret (me_lstM (ma_cons (me_revM (me_comp (t := (.name 4)) (own := [("_law_cell", 4)]) (by decide) (pe_lc (own := [("_law_cell", 4)]) (g := gT _ (.name 4)) rfl sc_l_deal.nd (mi_still (me_var 2 (pv 2))) (blkOk_by (own := [("_law_cell", 4)]) (N := ["_law_script", "_law_base", "_law_cells", "_law_mixed_here", "_law_cell"]) (sc := defScope st_l_deal) (by decide +kernel)) (fun _ _ _ _ _ => (pg_name (i := 4) sc_l_deal.nd rfl (by first | exact Or.inl rfl | exact Or.inr rfl))) (fun _ _ _ _ _ => pts_one (mt_cu (cu_ge) (me_var 4 (pv 4)) (me_pow me_int me_int))) (fun _ _ _ _ _ => (me_var 4 (pv 4)))))) (ma_cons (me_var 3 (pv 3)) ma_nil))))))))
theorem ok_l_draw (T : Tx P k mg a) : FnOk P k.w k.K mg base (L2.CX P k.w) 1 a.f_l_draw a.d_l_draw ["_law_deal_here", "_law_many"] (spM k 2 c_l_draw) :=
  ok_def (j := 0) (s := s_l_draw) T.F_l_draw sc_l_draw (show c_l_draw = callS 3 s_l_draw from rfl) rfl rfl fun cdv A outer s0 H E hr => by
    have tk : Takes (cxOf (L2.CX P k.w) P k.w k.K mg base ["_law_deal_here", "_law_many", "_law_left"] "_law_draw" (defScope st_l_draw) a.f_l_draw cdv A outer s0 H E) (fun c d _ H' => E c d H') := takes_of rfl rfl rfl rfl
    exact (ms_cons (ms_while 100 (passes_of rfl) (PW.pt (mw_and (mt_cu (cu_ne hr) (me_idx (me_var 0 (pv 0)) me_int (fun _ _ => rfl)) (me_lst ma_nil)) (mw_and1 (mt_cu (cu_eq hr) (me_idx (me_idx (me_var 0 (pv 0)) me_int (fun _ _ => rfl)) (me_neg me_int) (fun _ _ => rfl)) me_int)))) (ms_one (ms_expr (me_pop (pe_bm0 PySem.F.plainAttrs_list PySem.F.slot_list_pop PySem.F.type_list_pop mt_pop (me_idx (me_var 0 (pv 0)) me_int (fun _ _ => rfl)))))))
      (ms_cons (ms_if (mt_cu (cu_ne hr) (me_idx (me_var 0 (pv 0)) me_int (fun _ _ => rfl)) (me_lst ma_nil)) (ms_cons (ms_set (i := 2) sc_l_draw.nd rfl (by first | exact Or.inl rfl | exact Or.inr rfl) (me_pop (pe_bm0 PySem.F.plainAttrs_list PySem.F.slot_list_pop PySem.F.type_list_pop mt_pop (me_idx (me_var 0 (pv 0)) me_int (fun _ _ => rfl)))))
      (ms_cons (ms_expr (me_append (ma := stuck) (me_idx (me_var 0 (pv 0)) me_int (fun _ _ => rfl)) (ma_cons (me_fdiv (me_var 2 (pv 2)) (me_var 1 (pv 1))) ma_nil) (pe_bm PySem.F.plainAttrs_list PySem.F.slot_list_append PySem.F.type_list_append mt_append (me_idx (me_var 0 (pv 0)) me_int (fun _ _ => rfl)) (ma_cons (me_fdiv (me_var 2 (pv 2)) (me_var 1 (pv 1))) ma_nil))))
      (ms_one (ms_ret (me_mod (me_ct (cu_int) (by rfl) T.z_int (by decide +kernel) (ma_cons (me_var 2 (pv 2)) ma_nil)) (me_var 1 (pv 1))))))) ms_nil)
      (ms_cons (ms_sub (ps_asg (me_mod (me_ct (cu_int) (by rfl) T.z_int (by decide +kernel) (ma_cons (me_add (me_mul (me_idx (me_var 0 (pv 0)) me_int (fun _ _ => rfl)) me_int) me_int) ma_nil)) me_int) (pg_sub (me_var 0 (pv 0)) me_int set_list)))
      (ms_one (ms_ret (me_mod (me_ct (cu_int) (by rfl) T.z_int (by decide +kernel) (ma_cons (me_fdiv (me_idx (me_var 0 (pv 0)) me_int (fun _ _ => rfl)) me_int) ma_nil)) (me_var 1 (pv 1))))))))
theorem ok_l_mixed (T : Tx P k mg a) : FnOk P k.w k.K mg base (L2.CX P k.w) 2 a.f_l_mixed a.d_l_mixed ["_law_deal_here", "_law_some"] (spM k 2 c_l_mixed) :=
  ok_def (j := 1) (s := s_l_mixed) T.F_l_mixed sc_l_mixed (show c_l_mixed = callS 5 s_l_mixed from rfl) rfl rfl fun cdv A outer s0 H E hr => by
    have tk : Takes (cxOf (L2.CX P k.w) P k.w k.K mg base ["_law_deal_here", "_law_some", "_law_turn", "_law_left", "_law_found"] "_law_mixed" (defScope st_l_mixed) a.f_l_mixed cdv A outer s0 H E) (fun c d _ H' => E c d H') := takes_of rfl rfl rfl rfl
    exact (ms_cons (impS (ps_par (i := 3) (j := 4) rfl sc_l_mixed.nd rfl rfl (by decide) rfl rfl (ma_cons (me_ctS cu_listM (by rfl) T.z_list (by decide +kernel) (ma_cons (me_var 1 (pv 1)) ma_nil)) (ma_cons (me_lstM ma_nil) ma_nil)) (by first | rfl | kernel_rfl)) fun _ _ _ h => par_read h)
      (ms_cons (ms_for (t := (.name 2)) (passes_of rfl) rfl (mi_range1 (pi_range1 (by rfl) T.z_range (ma_cons (me_cb (cu_len) (by rfl) T.z_len PySem.boot_len (ma_cons (me_var 3 (pv 3)) ma_nil)) ma_nil))) (pg_name (i := 2) sc_l_mixed.nd rfl (by first | exact Or.inl rfl | exact Or.inr rfl)) (ms_one (ms_expr (me_append (ma := stuck) (me_var 4 (pv 4)) (ma_cons (me_popAt (ma := stuck) (me_var 3 (pv 3)) (ma_cons (me_call (ok_l_draw T) (hr.mono (by decide)) (by rfl) T.g_l_draw T.F_l_draw.kp T.b_l_draw .nil (fun _ _ => rl_nil) tk (ma_cons (me_var 0 (pv 0)) (ma_cons (me_cb (cu_len) (by rfl) T.z_len PySem.boot_len (ma_cons (me_var 3 (pv 3)) ma_nil)) ma_nil))) ma_nil) (pe_bm PySem.F.plainAttrs_list PySem.F.slot_list_pop PySem.F.type_list_pop mt_popAt (me_var 3 (pv 3)) (ma_cons (me_call (ok_l_draw T) (hr.mono (by decide)) (by rfl) T.g_l_draw T.F_l_draw.kp T.b_l_draw .nil (fun _ _ => rl_nil) tk (ma_cons (me_var 0 (pv 0)) (ma_cons (me_cb (cu_len) (by rfl) T.z_len PySem.boot_len (ma_cons (me_var 3 (pv 3)) ma_nil)) ma_nil))) ma_nil))) ma_nil) (pe_bm PySem.F.plainAttrs_list PySem.F.slot_list_append PySem.F.type_list_append mt_append (me_var 4 (pv 4)) (ma_cons (me_popAt (ma := stuck) (me_var 3 (pv 3)) (ma_cons (me_call (ok_l_draw T) (hr.mono (by decide)) (by rfl) T.g_l_draw T.F_l_draw.kp T.b_l_draw .nil (fun _ _ => rl_nil) tk (ma_cons (me_var 0 (pv 0)) (ma_cons (me_cb (cu_len) (by rfl) T.z_len PySem.boot_len (ma_cons (me_var 3 (pv 3)) ma_nil)) ma_nil))) ma_nil) (pe_bm PySem.F.plainAttrs_list PySem.F.slot_list_pop PySem.F.type_list_pop mt_popAt (me_var 3 (pv 3)) (ma_cons (me_call (ok_l_draw T) (hr.mono (by decide)) (by rfl) T.g_l_draw T.F_l_draw.kp T.b_l_draw .nil (fun _ _ => rl_nil) tk (ma_cons (me_var 0 (pv 0)) (ma_cons (me_cb (cu_len) (by rfl) T.z_len PySem.boot_len (ma_cons (me_var 3 (pv 3)) ma_nil)) ma_nil))) ma_nil))) ma_nil))))))
      (ms_one (ms_ret (me_var 4 (pv 4))))))
theorem body_l_tried (T : Tx P k mg a) (A : Around) (outer : List PySem.Env) (cdv : Value) (s0 : Shared) (H : Hp) (w : M Val) (hr : Room 6 (A.deeper (envOfC "_law_tried" (defScope st_l_tried) s0.heap.objs.size a.f_l_tried cdv)))
    (act : ∀ (V : WX) (pn : List (Addr × Obj)) (xe : Value → Shared → Prop) (p1 p2 : Pos), Takes ((cxOf (L2.CX P k.w) P k.w k.K mg base ["_law_work", "_law_found", "e"] "_law_tried" (defScope st_l_tried) a.f_l_tried cdv A outer s0 H fun _ _ _ => False).tr pn xe) V → PE ((cxOf (L2.CX P k.w) P k.w k.K mg base ["_law_work", "_law_found", "e"] "_law_tried" (defScope st_l_tried) a.f_l_tried cdv A outer s0 H fun _ _ _ => False).tr pn xe) (.Call (.Name "_law_work" p1) [] [] p2) (tM k V w)) :
    PSs (cxOf (L2.CX P k.w) P k.w k.K mg base ["_law_work", "_law_found", "e"] "_law_tried" (defScope st_l_tried) a.f_l_tried cdv A outer s0 H fun _ _ _ => False) (defBody st_l_tried) (tS k (fun _ _ _ _ => False) (s_l_tried w)) := by
    have tk : Takes (cxOf (L2.CX P k.w) P k.w k.K mg base ["_law_work", "_law_found", "e"] "_law_tried" (defScope st_l_tried) a.f_l_tried cdv A outer s0 H fun _ _ _ => False) (fun _ _ _ _ => False) := takes_of (E := fun _ _ _ => False) rfl rfl rfl rfl
    exact (ms_cons (ms_set (i := 1) sc_l_tried.nd rfl (by first | exact Or.inl rfl | exact Or.inr rfl) me_str)
      (ms_cons (ms_tryL (i := 2) (l := [(.ref (k.cl "InvalidCall"), (ownT [("RoadError", false), ("InvalidCall", true), ("InvalidVoice", false), ("InvalidText", false), ("NoCall", false)]), (sSet 1 (bin addV (ret (.str "call ")) (un (exvF (ownL ["InvalidCall"]) "word") (var 2))))), (.ref (k.cl "InvalidVoice"), (ownT [("RoadError", false), ("InvalidVoice", true), ("InvalidText", false), ("NoCall", false)]), (sSet 1 (bin addV (ret (.str "voice ")) (un (exvF (ownL ["InvalidVoice"]) "word") (var 2))))), (.ref (k.cl "InvalidText"), (ownT [("RoadError", false), ("InvalidText", true), ("NoCall", false)]), (sSet 1 (bin addV (ret (.str "line ")) (app strV (consM (un (exvF (ownL ["InvalidText"]) "at") (var 2)) nilM)))))]) rfl rfl sc_l_tried.nd rfl rfl tk (fun _ _ _ tk _ => (ms_one (ms_set (i := 1) sc_l_tried.nd rfl (by first | exact Or.inl rfl | exact Or.inr rfl) (me_ct (cu_strO (kk := 4) (ownT_cons (own_mk T.K_Call T.mt_Call_str (ok_Call_str T) T.b_Call_str (by decide)) (ownT_cons (own_mk T.K_Voice T.mt_Voice_str (ok_Voice_str T) T.b_Voice_str (by decide)) ownT_nil)) hr (by decide)) (by rfl) T.z_str (by decide +kernel) (ma_cons (act _ _ _ _ _ tk) ma_nil))))) (.cons ⟨by rfl, by decide, .inl T.g_InvalidCall⟩ (ownT_cons T.x_RoadError_InvalidCall (ownT_cons T.x_InvalidCall_InvalidCall (ownT_cons T.x_InvalidVoice_InvalidCall (ownT_cons T.x_InvalidText_InvalidCall (ownT_cons T.x_NoCall_InvalidCall ownT_nil))))) (fun _ _ _ _ _ hz hf => (ms_one (ms_set (i := 1) sc_l_tried.nd rfl (by first | exact Or.inl rfl | exact Or.inr rfl) (me_add me_str (me_xf (k := k) (ownL_cons ⟨T.xc_InvalidCall, T.xn_InvalidCall_word⟩ ownL_nil) hz hf (pv 2)))))) (.cons ⟨by rfl, by decide, .inl T.g_InvalidVoice⟩ (ownT_cons T.x_RoadError_InvalidVoice (ownT_cons T.x_InvalidVoice_InvalidVoice (ownT_cons T.x_InvalidText_InvalidVoice (ownT_cons T.x_NoCall_InvalidVoice ownT_nil)))) (fun _ _ _ _ _ hz hf => (ms_one (ms_set (i := 1) sc_l_tried.nd rfl (by first | exact Or.inl rfl | exact Or.inr rfl) (me_add me_str (me_xf (k := k) (ownL_cons ⟨T.xc_InvalidVoice, T.xn_InvalidVoice_word⟩ ownL_nil) hz hf (pv 2)))))) (.cons ⟨by rfl, by decide, .inl T.g_InvalidText⟩ (ownT_cons T.x_RoadError_InvalidText (ownT_cons T.x_InvalidText_InvalidText (ownT_cons T.x_NoCall_InvalidText ownT_nil))) (fun _ _ _ _ _ hz hf => (ms_one (ms_set (i := 1) sc_l_tried.nd rfl (by first | exact Or.inl rfl | exact Or.inr rfl) (me_add me_str (me_ct (cu_str) (by rfl) T.z_str (by decide +kernel) (ma_cons (me_xf (k := k) (ownL_cons ⟨T.xc_InvalidText, T.xn_InvalidText_at⟩ ownL_nil) hz hf (pv 2)) ma_nil)))))) .nil))))
      (ms_one (ms_ret (me_var 1 (pv 1))))))
theorem law_body (T : Tx P k mg a) (base : Heap) (c PT : Addr) (hT : k.tb = some (PT, lamO)) (TB : LamX.TabB base mg c PT) (A : Around) (outer : List PySem.Env) (s0 : Shared) (H : Hp) (E : XK) (lamU : LamU s_l_tried 3) (hr : Room 9 (A.deeper (envOfC "law" (defScope st_law) s0.heap.objs.size a.f_law (.ref c)))) :
    PSs (cxOf (L2.CX P k.w) P k.w k.K mg base ["_law_script", "_law_spot", "_law_deal_here", "_law_told", "_law_lines", "_law_made", "_law_turned", "_law_a", "_law_b"] "law" (defScope st_law) a.f_law (.ref c) A outer s0 H E) (defBody st_law) (tS k (fun c d _ H' => E c d H') s_law) := by
    have tk : Takes (cxOf (L2.CX P k.w) P k.w k.K mg base ["_law_script", "_law_spot", "_law_deal_here", "_law_told", "_law_lines", "_law_made", "_law_turned", "_law_a", "_law_b"] "law" (defScope st_law) a.f_law (.ref c) A outer s0 H E) (fun c d _ H' => E c d H') := takes_of rfl rfl rfl rfl
    exact (ms_cons (ms_for (t := (.name 1)) (passes_of rfl) rfl (mi_range1 (pi_range1 (by rfl) T.z_range (ma_cons (me_cb (cu_max2 rfl) (by rfl) T.z_max (by decide +kernel) (ma_cons me_int (ma_cons (me_cb (cu_min2 rfl) (by rfl) T.z_min (by decide +kernel) (ma_cons me_int (ma_cons (me_cb (cu_len) (by rfl) T.z_len PySem.boot_len (ma_cons (me_var 0 (pv 0)) ma_nil)) ma_nil))) ma_nil))) ma_nil))) (pg_name (i := 1) sc_law.nd rfl (by first | exact Or.inl rfl | exact Or.inr rfl)) (ms_cons (ms_set (i := 2) sc_law.nd rfl (by first | exact Or.inl rfl | exact Or.inr rfl) (me_call (ok_l_deal T) (hr.mono (by decide)) (by rfl) T.g_l_deal T.F_l_deal.kp T.b_l_deal .nil (fun _ _ => rl_nil) tk (ma_cons (me_var 0 (pv 0)) (ma_cons (me_var 1 (pv 1)) ma_nil))))
      (ms_cons (ms_setL (ts := [.name 7, .name 8]) (me_slice (me_call (ok_l_mixed T) (hr.mono (by decide)) (by rfl) T.g_l_mixed T.F_l_mixed.kp T.b_l_mixed .nil (fun _ _ => rl_nil) tk (ma_cons (me_var 2 (pv 2)) (ma_cons (me_lst (ma_cons me_str (ma_cons me_str (ma_cons me_str (ma_cons me_str (ma_cons me_str (ma_cons me_str (ma_cons me_str ma_nil)))))))) ma_nil))) mo_none (mo_some me_int)) (pg_lsq rfl (pgs_cons (pg_name (i := 7) sc_law.nd rfl (by first | exact Or.inl rfl | exact Or.inr rfl)) (pgs_cons (pg_name (i := 8) sc_law.nd rfl (by first | exact Or.inl rfl | exact Or.inr rfl)) pgs_nil))) (ps_asg (me_slice (me_call (ok_l_mixed T) (hr.mono (by decide)) (by rfl) T.g_l_mixed T.F_l_mixed.kp T.b_l_mixed .nil (fun _ _ => rl_nil) tk (ma_cons (me_var 2 (pv 2)) (ma_cons (me_lst (ma_cons me_str (ma_cons me_str (ma_cons me_str (ma_cons me_str (ma_cons me_str (ma_cons me_str (ma_cons me_str ma_nil)))))))) ma_nil))) mo_none (mo_some me_int)) (pg_lsq rfl (pgs_cons (pg_name (i := 7) sc_law.nd rfl (by first | exact Or.inl rfl | exact Or.inr rfl)) (pgs_cons (pg_name (i := 8) sc_law.nd rfl (by first | exact Or.inl rfl | exact Or.inr rfl)) pgs_nil)))))
      (ms_cons (ms_set (i := 3) sc_law.nd rfl (by first | exact Or.inl rfl | exact Or.inr rfl) (me_lstM (ma_cons (me_lamP (kk := 7) (a := "_law_work") hT TB rfl (by rfl) lamU (by rfl) T.g_l_tried T.F_l_tried T.b_l_tried sc_l_tried rfl rfl (by first | exact Or.inl rfl | exact Or.inr (Or.inl rfl)) hr (LamX.lamS_by (sc := defScope st_law) (by decide +kernel)) (by rfl) (fun _ _ _ _ _ => rfl) (fun _ _ _ _ _ _ _ hr => (T.b4_Call_init |> fun ⟨_, hv4, hb4⟩ => (me_makeP (c := "Call") T.M_Call (ok_Call_init T) (hr.mono (by decide)) (by rfl) T.g_Call hb4 hv4 (fun _ _ => (rl_str (rl_int (rl_int rl_nil)))) takes_lam (ma_cons (me_var 7 (pv 7)) (ma_cons me_int (ma_cons me_int ma_nil)))))) (fun cdv s0 H w hr act => body_l_tried T _ _ cdv s0 H w (hr.mono (by decide)) act)) ma_nil)))
      (ms_cons (ms_expr (me_append (ma := stuck) (me_var 3 (pv 3)) (ma_cons (me_lamP (kk := 7) (a := "_law_work") hT TB rfl (by rfl) lamU (by rfl) T.g_l_tried T.F_l_tried T.b_l_tried sc_l_tried rfl rfl (by first | exact Or.inl rfl | exact Or.inr (Or.inl rfl)) hr (LamX.lamS_by (sc := defScope st_law) (by decide +kernel)) (by rfl) (fun _ _ _ _ _ => rfl) (fun _ _ _ _ _ _ _ hr => (T.b7_Call_init |> fun ⟨_, hv7, hb7⟩ => (me_makeP (c := "Call") T.M_Call (ok_Call_init T) (hr.mono (by decide)) (by rfl) T.g_Call hb7 hv7 (fun _ _ => rl_nil) takes_lam (ma_cons (me_var 7 (pv 7)) (ma_cons me_int (ma_cons me_int (ma_cons me_str (ma_cons me_int (ma_cons me_int ma_nil))))))))) (fun cdv s0 H w hr act => body_l_tried T _ _ cdv s0 H w (hr.mono (by decide)) act)) ma_nil) (pe_bm PySem.F.plainAttrs_list PySem.F.slot_list_append PySem.F.type_list_append mt_append (me_var 3 (pv 3)) (ma_cons (me_lamP (kk := 7) (a := "_law_work") hT TB rfl (by rfl) lamU (by rfl) T.g_l_tried T.F_l_tried T.b_l_tried sc_l_tried rfl rfl (by first | exact Or.inl rfl | exact Or.inr (Or.inl rfl)) hr (LamX.lamS_by (sc := defScope st_law) (by decide +kernel)) (by rfl) (fun _ _ _ _ _ => rfl) (fun _ _ _ _ _ _ _ hr => (T.b7_Call_init |> fun ⟨_, hv7, hb7⟩ => (me_makeP (c := "Call") T.M_Call (ok_Call_init T) (hr.mono (by decide)) (by rfl) T.g_Call hb7 hv7 (fun _ _ => rl_nil) takes_lam (ma_cons (me_var 7 (pv 7)) (ma_cons me_int (ma_cons me_int (ma_cons me_str (ma_cons me_int (ma_cons me_int ma_nil))))))))) (fun cdv s0 H w hr act => body_l_tried T _ _ cdv s0 H w (hr.mono (by decide)) act)) ma_nil))))
      (ms_cons (ms_if (mt_cu (cu_neO (kk := 7) (ownT_cons (ownE_mk (own_mk T.K_Call T.mt_Call_eq (ok_Call_eq T) T.b_Call_eq (by decide)) T.E_Call) (ownT_cons (ownE_mk (own_mk T.K_Voice T.mt_Voice_eq (ok_Voice_eq T) T.b_Voice_eq (by decide)) T.E_Voice) ownT_nil)) hr (by decide)) (me_var 3 (pv 3)) (me_lst (ma_cons (me_add (me_var 7 (pv 7)) me_str) (ma_cons (me_add (me_var 7 (pv 7)) me_str) ma_nil)))) (ms_one (ms_ret me_bl)) ms_nil)
      (ms_cons (ms_set (i := 3) sc_law.nd rfl (by first | exact Or.inl rfl | exact Or.inr rfl) (me_lstM (ma_cons (me_lamP (kk := 7) (a := "_law_work") hT TB rfl (by rfl) lamU (by rfl) T.g_l_tried T.F_l_tried T.b_l_tried sc_l_tried rfl rfl (by first | exact Or.inl rfl | exact Or.inr (Or.inl rfl)) hr (LamX.lamS_by (sc := defScope st_law) (by decide +kernel)) (by rfl) (fun _ _ _ _ _ => rfl) (fun _ _ _ _ _ _ _ hr => (T.b4_Call_init |> fun ⟨_, hv4, hb4⟩ => (me_makeP (c := "Call") T.M_Call (ok_Call_init T) (hr.mono (by decide)) (by rfl) T.g_Call hb4 hv4 (fun _ _ => (rl_str (rl_int (rl_int rl_nil)))) takes_lam (ma_cons (me_var 7 (pv 7)) (ma_cons me_int (ma_cons me_int ma_nil)))))) (fun cdv s0 H w hr act => body_l_tried T _ _ cdv s0 H w (hr.mono (by decide)) act)) ma_nil)))
      (ms_cons (ms_expr (me_append (ma := stuck) (me_var 3 (pv 3)) (ma_cons (me_lamP (kk := 7) (a := "_law_work") hT TB rfl (by rfl) lamU (by rfl) T.g_l_tried T.F_l_tried T.b_l_tried sc_l_tried rfl rfl (by first | exact Or.inl rfl | exact Or.inr (Or.inl rfl)) hr (LamX.lamS_by (sc := defScope st_law) (by decide +kernel)) (by rfl) (fun _ _ _ _ _ => rfl) (fun _ _ _ _ _ _ _ hr => (T.b5_Call_init |> fun ⟨_, hv5, hb5⟩ => (me_makeP (c := "Call") T.M_Call (ok_Call_init T) (hr.mono (by decide)) (by rfl) T.g_Call hb5 hv5 (fun _ _ => (rl_int (rl_int rl_nil))) takes_lam (ma_cons (me_var 7 (pv 7)) (ma_cons me_int (ma_cons me_int (ma_cons me_str ma_nil))))))) (fun cdv s0 H w hr act => body_l_tried T _ _ cdv s0 H w (hr.mono (by decide)) act)) ma_nil) (pe_bm PySem.F.plainAttrs_list PySem.F.slot_list_append PySem.F.type_list_append mt_append (me_var 3 (pv 3)) (ma_cons (me_lamP (kk := 7) (a := "_law_work") hT TB rfl (by rfl) lamU (by rfl) T.g_l_tried T.F_l_tried T.b_l_tried sc_l_tried rfl rfl (by first | exact Or.inl rfl | exact Or.inr (Or.inl rfl)) hr (LamX.lamS_by (sc := defScope st_law) (by decide +kernel)) (by rfl) (fun _ _ _ _ _ => rfl) (fun _ _ _ _ _ _ _ hr => (T.b5_Call_init |> fun ⟨_, hv5, hb5⟩ => (me_makeP (c := "Call") T.M_Call (ok_Call_init T) (hr.mono (by decide)) (by rfl) T.g_Call hb5 hv5 (fun _ _ => (rl_int (rl_int rl_nil))) takes_lam (ma_cons (me_var 7 (pv 7)) (ma_cons me_int (ma_cons me_int (ma_cons me_str ma_nil))))))) (fun cdv s0 H w hr act => body_l_tried T _ _ cdv s0 H w (hr.mono (by decide)) act)) ma_nil))))
      (ms_cons (ms_expr (me_append (ma := stuck) (me_var 3 (pv 3)) (ma_cons (me_lamP (kk := 7) (a := "_law_work") hT TB rfl (by rfl) lamU (by rfl) T.g_l_tried T.F_l_tried T.b_l_tried sc_l_tried rfl rfl (by first | exact Or.inl rfl | exact Or.inr (Or.inl rfl)) hr (LamX.lamS_by (sc := defScope st_law) (by decide +kernel)) (by rfl) (fun _ _ _ _ _ => rfl) (fun _ _ _ _ _ _ _ hr => (T.b4_Call_init |> fun ⟨_, hv4, hb4⟩ => (me_makeP (c := "Call") T.M_Call (ok_Call_init T) (hr.mono (by decide)) (by rfl) T.g_Call hb4 hv4 (fun _ _ => (rl_str (rl_int (rl_int rl_nil)))) takes_lam (ma_cons me_str (ma_cons me_int (ma_cons me_int ma_nil)))))) (fun cdv s0 H w hr act => body_l_tried T _ _ cdv s0 H w (hr.mono (by decide)) act)) ma_nil) (pe_bm PySem.F.plainAttrs_list PySem.F.slot_list_append PySem.F.type_list_append mt_append (me_var 3 (pv 3)) (ma_cons (me_lamP (kk := 7) (a := "_law_work") hT TB rfl (by rfl) lamU (by rfl) T.g_l_tried T.F_l_tried T.b_l_tried sc_l_tried rfl rfl (by first | exact Or.inl rfl | exact Or.inr (Or.inl rfl)) hr (LamX.lamS_by (sc := defScope st_law) (by decide +kernel)) (by rfl) (fun _ _ _ _ _ => rfl) (fun _ _ _ _ _ _ _ hr => (T.b4_Call_init |> fun ⟨_, hv4, hb4⟩ => (me_makeP (c := "Call") T.M_Call (ok_Call_init T) (hr.mono (by decide)) (by rfl) T.g_Call hb4 hv4 (fun _ _ => (rl_str (rl_int (rl_int rl_nil)))) takes_lam (ma_cons me_str (ma_cons me_int (ma_cons me_int ma_nil)))))) (fun cdv s0 H w hr act => body_l_tried T _ _ cdv s0 H w (hr.mono (by decide)) act)) ma_nil))))
      (ms_cons (ms_if (mt_cu (cu_neO (kk := 7) (ownT_cons (ownE_mk (own_mk T.K_Call T.mt_Call_eq (ok_Call_eq T) T.b_Call_eq (by decide)) T.E_Call) (ownT_cons (ownE_mk (own_mk T.K_Voice T.mt_Voice_eq (ok_Voice_eq T) T.b_Voice_eq (by decide)) T.E_Voice) ownT_nil)) hr (by decide)) (me_var 3 (pv 3)) (me_lst (ma_cons me_str (ma_cons me_str (ma_cons me_str ma_nil))))) (ms_one (ms_ret me_bl)) ms_nil)
      (ms_cons (ms_set (i := 3) sc_law.nd rfl (by first | exact Or.inl rfl | exact Or.inr rfl) (me_lstM (ma_cons (me_lamP (kk := 7) (a := "_law_work") hT TB rfl (by rfl) lamU (by rfl) T.g_l_tried T.F_l_tried T.b_l_tried sc_l_tried rfl rfl (by first | exact Or.inl rfl | exact Or.inr (Or.inl rfl)) hr (LamX.lamS_by (sc := defScope st_law) (by decide +kernel)) (by rfl) (fun _ _ _ _ _ => rfl) (fun _ _ _ _ _ _ _ hr => (T.b7_Call_init |> fun ⟨_, hv7, hb7⟩ => (me_makeP (c := "Call") T.M_Call (ok_Call_init T) (hr.mono (by decide)) (by rfl) T.g_Call hb7 hv7 (fun _ _ => rl_nil) takes_lam (ma_cons (me_var 7 (pv 7)) (ma_cons me_int (ma_cons me_int (ma_cons me_str (ma_cons me_int (ma_cons me_int ma_nil))))))))) (fun cdv s0 H w hr act => body_l_tried T _ _ cdv s0 H w (hr.mono (by decide)) act)) ma_nil)))
      (ms_cons (ms_expr (me_append (ma := stuck) (me_var 3 (pv 3)) (ma_cons (me_lamP (kk := 7) (a := "_law_work") hT TB rfl (by rfl) lamU (by rfl) T.g_l_tried T.F_l_tried T.b_l_tried sc_l_tried rfl rfl (by first | exact Or.inl rfl | exact Or.inr (Or.inl rfl)) hr (LamX.lamS_by (sc := defScope st_law) (by decide +kernel)) (by rfl) (fun _ _ _ _ _ => rfl) (fun _ _ _ _ _ _ _ hr => (T.b7_Call_init |> fun ⟨_, hv7, hb7⟩ => (me_makeP (c := "Call") T.M_Call (ok_Call_init T) (hr.mono (by decide)) (by rfl) T.g_Call hb7 hv7 (fun _ _ => rl_nil) takes_lam (ma_cons (me_var 7 (pv 7)) (ma_cons me_int (ma_cons me_int (ma_cons me_str (ma_cons me_int (ma_cons me_int ma_nil))))))))) (fun cdv s0 H w hr act => body_l_tried T _ _ cdv s0 H w (hr.mono (by decide)) act)) ma_nil) (pe_bm PySem.F.plainAttrs_list PySem.F.slot_list_append PySem.F.type_list_append mt_append (me_var 3 (pv 3)) (ma_cons (me_lamP (kk := 7) (a := "_law_work") hT TB rfl (by rfl) lamU (by rfl) T.g_l_tried T.F_l_tried T.b_l_tried sc_l_tried rfl rfl (by first | exact Or.inl rfl | exact Or.inr (Or.inl rfl)) hr (LamX.lamS_by (sc := defScope st_law) (by decide +kernel)) (by rfl) (fun _ _ _ _ _ => rfl) (fun _ _ _ _ _ _ _ hr => (T.b7_Call_init |> fun ⟨_, hv7, hb7⟩ => (me_makeP (c := "Call") T.M_Call (ok_Call_init T) (hr.mono (by decide)) (by rfl) T.g_Call hb7 hv7 (fun _ _ => rl_nil) takes_lam (ma_cons (me_var 7 (pv 7)) (ma_cons me_int (ma_cons me_int (ma_cons me_str (ma_cons me_int (ma_cons me_int ma_nil))))))))) (fun cdv s0 H w hr act => body_l_tried T _ _ cdv s0 H w (hr.mono (by decide)) act)) ma_nil))))
      (ms_cons (ms_expr (me_append (ma := stuck) (me_var 3 (pv 3)) (ma_cons (me_lamP (kk := 7) (a := "_law_work") hT TB rfl (by rfl) lamU (by rfl) T.g_l_tried T.F_l_tried T.b_l_tried sc_l_tried rfl rfl (by first | exact Or.inl rfl | exact Or.inr (Or.inl rfl)) hr (LamX.lamS_by (sc := defScope st_law) (by decide +kernel)) (by rfl) (fun _ _ _ _ _ => rfl) (fun _ _ _ _ _ _ _ hr => (T.b4_Call_init |> fun ⟨_, hv4, hb4⟩ => (me_makeP (c := "Call") T.M_Call (ok_Call_init T) (hr.mono (by decide)) (by rfl) T.g_Call hb4 hv4 (fun _ _ => (rl_str (rl_int (rl_int rl_nil)))) takes_lam (ma_cons (me_var 7 (pv 7)) (ma_cons me_bl (ma_cons me_int ma_nil)))))) (fun cdv s0 H w hr act => body_l_tried T _ _ cdv s0 H w (hr.mono (by decide)) act)) ma_nil) (pe_bm PySem.F.plainAttrs_list PySem.F.slot_list_append PySem.F.type_list_append mt_append (me_var 3 (pv 3)) (ma_cons (me_lamP (kk := 7) (a := "_law_work") hT TB rfl (by rfl) lamU (by rfl) T.g_l_tried T.F_l_tried T.b_l_tried sc_l_tried rfl rfl (by first | exact Or.inl rfl | exact Or.inr (Or.inl rfl)) hr (LamX.lamS_by (sc := defScope st_law) (by decide +kernel)) (by rfl) (fun _ _ _ _ _ => rfl) (fun _ _ _ _ _ _ _ hr => (T.b4_Call_init |> fun ⟨_, hv4, hb4⟩ => (me_makeP (c := "Call") T.M_Call (ok_Call_init T) (hr.mono (by decide)) (by rfl) T.g_Call hb4 hv4 (fun _ _ => (rl_str (rl_int (rl_int rl_nil)))) takes_lam (ma_cons (me_var 7 (pv 7)) (ma_cons me_bl (ma_cons me_int ma_nil)))))) (fun cdv s0 H w hr act => body_l_tried T _ _ cdv s0 H w (hr.mono (by decide)) act)) ma_nil))))
      (ms_cons (ms_expr (me_append (ma := stuck) (me_var 3 (pv 3)) (ma_cons (me_lamP (kk := 7) (a := "_law_work") hT TB rfl (by rfl) lamU (by rfl) T.g_l_tried T.F_l_tried T.b_l_tried sc_l_tried rfl rfl (by first | exact Or.inl rfl | exact Or.inr (Or.inl rfl)) hr (LamX.lamS_by (sc := defScope st_law) (by decide +kernel)) (by rfl) (fun _ _ _ _ _ => rfl) (fun _ _ _ _ _ _ _ hr => (T.b7_Call_init |> fun ⟨_, hv7, hb7⟩ => (me_makeP (c := "Call") T.M_Call (ok_Call_init T) (hr.mono (by decide)) (by rfl) T.g_Call hb7 hv7 (fun _ _ => rl_nil) takes_lam (ma_cons (me_var 7 (pv 7)) (ma_cons me_int (ma_cons me_int (ma_cons me_str (ma_cons me_int (ma_cons me_int ma_nil))))))))) (fun cdv s0 H w hr act => body_l_tried T _ _ cdv s0 H w (hr.mono (by decide)) act)) ma_nil) (pe_bm PySem.F.plainAttrs_list PySem.F.slot_list_append PySem.F.type_list_append mt_append (me_var 3 (pv 3)) (ma_cons (me_lamP (kk := 7) (a := "_law_work") hT TB rfl (by rfl) lamU (by rfl) T.g_l_tried T.F_l_tried T.b_l_tried sc_l_tried rfl rfl (by first | exact Or.inl rfl | exact Or.inr (Or.inl rfl)) hr (LamX.lamS_by (sc := defScope st_law) (by decide +kernel)) (by rfl) (fun _ _ _ _ _ => rfl) (fun _ _ _ _ _ _ _ hr => (T.b7_Call_init |> fun ⟨_, hv7, hb7⟩ => (me_makeP (c := "Call") T.M_Call (ok_Call_init T) (hr.mono (by decide)) (by rfl) T.g_Call hb7 hv7 (fun _ _ => rl_nil) takes_lam (ma_cons (me_var 7 (pv 7)) (ma_cons me_int (ma_cons me_int (ma_cons me_str (ma_cons me_int (ma_cons me_int ma_nil))))))))) (fun cdv s0 H w hr act => body_l_tried T _ _ cdv s0 H w (hr.mono (by decide)) act)) ma_nil))))
      (ms_cons (ms_if (mt_cu (cu_neO (kk := 7) (ownT_cons (ownE_mk (own_mk T.K_Call T.mt_Call_eq (ok_Call_eq T) T.b_Call_eq (by decide)) T.E_Call) (ownT_cons (ownE_mk (own_mk T.K_Voice T.mt_Voice_eq (ok_Voice_eq T) T.b_Voice_eq (by decide)) T.E_Voice) ownT_nil)) hr (by decide)) (me_var 3 (pv 3)) (me_lst (ma_cons me_str (ma_cons me_str (ma_cons me_str (ma_cons me_str ma_nil)))))) (ms_one (ms_ret me_bl)) ms_nil)
      (ms_cons (ms_set (i := 4) sc_law.nd rfl (by first | exact Or.inl rfl | exact Or.inr rfl) (me_lst (ma_cons (me_add (me_var 7 (pv 7)) me_str) (ma_cons (me_add (me_var 8 (pv 8)) me_str) ma_nil))))
      (ms_cons (ms_set (i := 5) sc_law.nd rfl (by first | exact Or.inl rfl | exact Or.inr rfl) (T.cm_Voice_read |> fun ⟨_, _, hcr, hcm⟩ => me_cmthP (c := "Voice") (by rfl) T.g_Voice hcr hcm (ok_Voice_read T) (hr.mono (by decide)) T.b_Voice_read tk (ma_cons (me_join me_str (me_var 4 (pv 4))) ma_nil)))
      (ms_cons (ms_if (PW.pt (mw_or (mt_cu (cu_neO (kk := 7) (ownT_cons (ownE_mk (own_mk T.K_Call T.mt_Call_eq (ok_Call_eq T) T.b_Call_eq (by decide)) T.E_Call) (ownT_cons (ownE_mk (own_mk T.K_Voice T.mt_Voice_eq (ok_Voice_eq T) T.b_Voice_eq (by decide)) T.E_Voice) ownT_nil)) hr (by decide)) (me_fld (ownL_cons ⟨T.K_Voice.t.cl, T.n_Voice_reach⟩ ownL_nil) (me_var 5 (pv 5))) me_int) (mw_or (mt_cu (cu_neO (kk := 7) (ownT_cons (ownE_mk (own_mk T.K_Call T.mt_Call_eq (ok_Call_eq T) T.b_Call_eq (by decide)) T.E_Call) (ownT_cons (ownE_mk (own_mk T.K_Voice T.mt_Voice_eq (ok_Voice_eq T) T.b_Voice_eq (by decide)) T.E_Voice) ownT_nil)) hr (by decide)) (me_fld (ownL_cons ⟨T.K_Voice.t.cl, T.n_Voice_names⟩ ownL_nil) (me_var 5 (pv 5))) (me_tup (ma_cons (me_var 7 (pv 7)) (ma_cons (me_var 8 (pv 8)) ma_nil)))) (mw_or (mt_cu (cu_neO (kk := 7) (ownT_cons (ownE_mk (own_mk T.K_Call T.mt_Call_eq (ok_Call_eq T) T.b_Call_eq (by decide)) T.E_Call) (ownT_cons (ownE_mk (own_mk T.K_Voice T.mt_Voice_eq (ok_Voice_eq T) T.b_Voice_eq (by decide)) T.E_Voice) ownT_nil)) hr (by decide)) (me_fld (ownL_cons ⟨T.K_Voice.t.cl, T.n_Voice_reach⟩ ownL_nil) (me_methP (c := "Voice") (me_var 5 (pv 5)) T.K_Voice.t.cl T.mt_Voice_without (ok_Voice_without T) (hr.mono (by decide)) T.b_Voice_without .nil (fun _ _ => rl_nil) tk (ma_cons me_int ma_nil))) me_int) (mw_or1 (mt_cu (cu_neO (kk := 7) (ownT_cons (ownE_mk (own_mk T.K_Call T.mt_Call_eq (ok_Call_eq T) T.b_Call_eq (by decide)) T.E_Call) (ownT_cons (ownE_mk (own_mk T.K_Voice T.mt_Voice_eq (ok_Voice_eq T) T.b_Voice_eq (by decide)) T.E_Voice) ownT_nil)) hr (by decide)) (me_ct (cu_strO (kk := 4) (ownT_cons (own_mk T.K_Call T.mt_Call_str (ok_Call_str T) T.b_Call_str (by decide)) (ownT_cons (own_mk T.K_Voice T.mt_Voice_str (ok_Voice_str T) T.b_Voice_str (by decide)) ownT_nil)) hr (by decide)) (by rfl) T.z_str (by decide +kernel) (ma_cons (me_var 5 (pv 5)) ma_nil)) (me_join me_str (me_var 4 (pv 4))))))))) (ms_one (ms_ret me_bl)) ms_nil)
      (ms_cons (ms_set (i := 6) sc_law.nd rfl (by first | exact Or.inl rfl | exact Or.inr rfl) (T.cm_Voice_read |> fun ⟨_, _, hcr, hcm⟩ => me_cmthP (c := "Voice") (by rfl) T.g_Voice hcr hcm (ok_Voice_read T) (hr.mono (by decide)) T.b_Voice_read tk (ma_cons (me_join me_str (me_rev0 (me_var 4 (pv 4)))) ma_nil)))
      (ms_cons (ms_if (PW.pt (mw_or (mt_cu (cu_eqO (kk := 7) (ownT_cons (ownE_mk (own_mk T.K_Call T.mt_Call_eq (ok_Call_eq T) T.b_Call_eq (by decide)) T.E_Call) (ownT_cons (ownE_mk (own_mk T.K_Voice T.mt_Voice_eq (ok_Voice_eq T) T.b_Voice_eq (by decide)) T.E_Voice) ownT_nil)) hr (by decide)) (me_var 5 (pv 5)) (me_var 6 (pv 6))) (mw_or1 (mt_cu (cu_neO (kk := 7) (ownT_cons (ownE_mk (own_mk T.K_Call T.mt_Call_eq (ok_Call_eq T) T.b_Call_eq (by decide)) T.E_Call) (ownT_cons (ownE_mk (own_mk T.K_Voice T.mt_Voice_eq (ok_Voice_eq T) T.b_Voice_eq (by decide)) T.E_Voice) ownT_nil)) hr (by decide)) (me_makeP (c := "Voice") T.M_Voice (ok_Voice_init T) (hr.mono (by decide)) (by rfl) T.g_Voice T.b_Voice_init .nil (fun _ _ => rl_nil) tk (ma_cons (me_lst (ma_cons (me_idxG (c := "Voice") (me_var 5 (pv 5)) me_int (fun _ _ => rfl) (fun _ _ => rfl) T.mt_Voice_getitem (fun_fnIn T.F_Voice_getitem) (ok_Voice_getitem T) (hr.mono (by decide)) T.b_Voice_getitem tk) (ma_cons (me_idxG (c := "Voice") (me_var 5 (pv 5)) me_int (fun _ _ => rfl) (fun _ _ => rfl) T.mt_Voice_getitem (fun_fnIn T.F_Voice_getitem) (ok_Voice_getitem T) (hr.mono (by decide)) T.b_Voice_getitem tk) ma_nil))) ma_nil)) (me_var 6 (pv 6)))))) (ms_one (ms_ret me_bl)) ms_nil)
      (ms_cons (ms_set (i := 3) sc_law.nd rfl (by first | exact Or.inl rfl | exact Or.inr rfl) (me_lstM (ma_cons (me_lamP (kk := 7) (a := "_law_work") hT TB rfl (by rfl) lamU (by rfl) T.g_l_tried T.F_l_tried T.b_l_tried sc_l_tried rfl rfl (by first | exact Or.inl rfl | exact Or.inr (Or.inl rfl)) hr (LamX.lamS_by (sc := defScope st_law) (by decide +kernel)) (by rfl) (fun _ _ _ _ _ => rfl) (fun _ _ _ _ _ _ _ hr => (T.cm_Voice_read |> fun ⟨_, _, hcr, hcm⟩ => me_cmthP (c := "Voice") (by rfl) T.g_Voice hcr hcm (ok_Voice_read T) (hr.mono (by decide)) T.b_Voice_read takes_lam (ma_cons (me_add (me_idx (me_var 4 (pv 4)) me_int (fun _ _ => rfl)) me_str) ma_nil))) (fun cdv s0 H w hr act => body_l_tried T _ _ cdv s0 H w (hr.mono (by decide)) act)) ma_nil)))
      (ms_cons (ms_expr (me_append (ma := stuck) (me_var 3 (pv 3)) (ma_cons (me_lamP (kk := 7) (a := "_law_work") hT TB rfl (by rfl) lamU (by rfl) T.g_l_tried T.F_l_tried T.b_l_tried sc_l_tried rfl rfl (by first | exact Or.inl rfl | exact Or.inr (Or.inl rfl)) hr (LamX.lamS_by (sc := defScope st_law) (by decide +kernel)) (by rfl) (fun _ _ _ _ _ => rfl) (fun _ _ _ _ _ _ _ hr => (T.cm_Voice_read |> fun ⟨_, _, hcr, hcm⟩ => me_cmthP (c := "Voice") (by rfl) T.g_Voice hcr hcm (ok_Voice_read T) (hr.mono (by decide)) T.b_Voice_read takes_lam (ma_cons (me_add (me_add (me_idx (me_var 4 (pv 4)) me_int (fun _ _ => rfl)) me_str) (me_idx (me_var 4 (pv 4)) me_int (fun _ _ => rfl))) ma_nil))) (fun cdv s0 H w hr act => body_l_tried T _ _ cdv s0 H w (hr.mono (by decide)) act)) ma_nil) (pe_bm PySem.F.plainAttrs_list PySem.F.slot_list_append PySem.F.type_list_append mt_append (me_var 3 (pv 3)) (ma_cons (me_lamP (kk := 7) (a := "_law_work") hT TB rfl (by rfl) lamU (by rfl) T.g_l_tried T.F_l_tried T.b_l_tried sc_l_tried rfl rfl (by first | exact Or.inl rfl | exact Or.inr (Or.inl rfl)) hr (LamX.lamS_by (sc := defScope st_law) (by decide +kernel)) (by rfl) (fun _ _ _ _ _ => rfl) (fun _ _ _ _ _ _ _ hr => (T.cm_Voice_read |> fun ⟨_, _, hcr, hcm⟩ => me_cmthP (c := "Voice") (by rfl) T.g_Voice hcr hcm (ok_Voice_read T) (hr.mono (by decide)) T.b_Voice_read takes_lam (ma_cons (me_add (me_add (me_idx (me_var 4 (pv 4)) me_int (fun _ _ => rfl)) me_str) (me_idx (me_var 4 (pv 4)) me_int (fun _ _ => rfl))) ma_nil))) (fun cdv s0 H w hr act => body_l_tried T _ _ cdv s0 H w (hr.mono (by decide)) act)) ma_nil))))
      (ms_one (ms_if (PW.pt (mw_or (mt_cu (cu_neO (kk := 7) (ownT_cons (ownE_mk (own_mk T.K_Call T.mt_Call_eq (ok_Call_eq T) T.b_Call_eq (by decide)) T.E_Call) (ownT_cons (ownE_mk (own_mk T.K_Voice T.mt_Voice_eq (ok_Voice_eq T) T.b_Voice_eq (by decide)) T.E_Voice) ownT_nil)) hr (by decide)) (me_var 3 (pv 3)) (me_lst (ma_cons me_str (ma_cons me_str ma_nil)))) (mw_or1 (mt_cu (cu_neO (kk := 7) (ownT_cons (ownE_mk (own_mk T.K_Call T.mt_Call_eq (ok_Call_eq T) T.b_Call_eq (by decide)) T.E_Call) (ownT_cons (ownE_mk (own_mk T.K_Voice T.mt_Voice_eq (ok_Voice_eq T) T.b_Voice_eq (by decide)) T.E_Voice) ownT_nil)) hr (by decide)) (me_lamP (kk := 7) (a := "_law_work") hT TB rfl (by rfl) lamU (by rfl) T.g_l_tried T.F_l_tried T.b_l_tried sc_l_tried rfl rfl (by first | exact Or.inl rfl | exact Or.inr (Or.inl rfl)) hr (LamX.lamS_by (sc := defScope st_law) (by decide +kernel)) (by rfl) (fun _ _ _ _ _ => rfl) (fun _ _ _ _ _ _ _ hr => (me_makeP (c := "Voice") T.M_Voice (ok_Voice_init T) (hr.mono (by decide)) (by rfl) T.g_Voice T.b_Voice_init .nil (fun _ _ => rl_nil) takes_lam (ma_cons (me_lst ma_nil) ma_nil))) (fun cdv s0 H w hr act => body_l_tried T _ _ cdv s0 H w (hr.mono (by decide)) act)) me_str)))) (ms_one (ms_ret me_bl)) ms_nil))))))))))))))))))))))))
      (ms_one (ms_ret me_bl)))
end
end K12
namespace K12
open PySem PySem.Spec PyProof.Rows L2 Mi Pg LwA
/-- a suite that sets slot 1 and does not look at slot 0 -/
def Blind (s : S) : Prop := ∀ (a b y z : Option Val) (y' : Mi.Env) (s2 : Sto), s [a, y, z] [] = some (.next, y', s2) → ∃ u : Val, y' = [a, some u, z] ∧ s [b, y, z] [] = some (.next, [b, some u, z], s2)
theorem blind_set {m : M Val} (h : ∀ (a b y z : Option Val), m [a, y, z] [] = m [b, y, z] []) : Blind (sSet 1 m) := by
  intro a b y z y' s2 e
  unfold sSet sBnd at e ⊢
  rw [h b a]
  split at e
  · cases e
    exact ⟨_, rfl, rfl⟩
  all_goals cases e
theorem blind_ret {m : M Val} {a y z : Option Val} {v : Val} {e : Mi.Env} {t : Sto} : sSet 1 m [a, y, z] [] ≠ some (.ret v, e, t) := by
  unfold sSet sBnd
  split
  all_goals intro q; cases q
theorem try_blind {s : S} {x : Exc} {a b : Option Val} {y : Option Val} {y' : Mi.Env} {st s2 : Sto} {o : Out} (hb : Blind s) (hr : ∀ a y z v e t, s [a, y, z] [] ≠ some (.ret v, e, t)) (h : tryS 2 s x [a, y, none] st = some (o, y', s2)) :
    o = .next ∧ ∃ c : Option Val, y'[1]? = some c ∧ ∃ y2, tryS 2 s x [b, y, none] st = some (.next, y2, s2) ∧ y2[1]? = some c := by
  unfold tryS at h ⊢
  split at h
  · rename_i hn
    rw [if_pos hn]
    have e1 : ∀ q : Option Val, (plainE [q, y, none]).set 2 (some (.exv x.cls x.ks x.xs)) = [plainO q, plainO y, some (.exv x.cls x.ks x.xs)] := fun _ => rfl
    rw [e1] at h ⊢
    split at h
    · rename_i y3 s3 hs
      cases h
      obtain ⟨u, e2, e3⟩ := hb _ (plainO b) _ _ _ _ hs
      subst e2
      rw [e3]
      exact ⟨rfl, _, rfl, _, rfl, rfl⟩
    · rename_i v y3 s3 hs
      exact absurd hs (hr _ _ _ _ _ _)
    · cases h
  · cases h
/-- the three suites -/
theorem suite_blind {x : Str} {own : Str → Bool} : ∀ (a b y z : Option Val), bin addV (ret (.str x)) (un (exvF own "word") (var 2)) [a, y, z] [] = bin addV (ret (.str x)) (un (exvF own "word") (var 2)) [b, y, z] [] := fun _ _ _ _ => rfl
theorem suite_blind2 {x : Str} {own : Str → Bool} : ∀ (a b y z : Option Val), bin addV (ret (.str x)) (app strV (consM (un (exvF own "at") (var 2)) nilM)) [a, y, z] [] = bin addV (ret (.str x)) (app strV (consM (un (exvF own "at") (var 2)) nilM)) [b, y, z] [] := fun _ _ _ _ => rfl
theorem tryL_blind : ∀ {hs : List ((Str → Option Bool) × S)}, (∀ h ∈ hs, Blind h.2 ∧ ∀ a y z v e t, h.2 [a, y, z] [] ≠ some (.ret v, e, t)) → ∀ {x : Exc} {a b y : Option Val} {y' : Mi.Env} {st s2 : Sto} {o : Out}, tryL 2 hs x [a, y, none] st = some (o, y', s2) → (o = .next ∧ ∃ c : Option Val, y'[1]? = some c ∧ ∃ y2, tryL 2 hs x [b, y, none] st = some (.next, y2, s2) ∧ y2[1]? = some c) ∨ o = .err x
  | [], _, x, a, b, y, y', st, s2, o, h => by
    unfold tryL at h
    cases h
    exact .inr rfl
  | (own, s) :: r, hh, x, a, b, y, y', st, s2, o, h => by
    unfold tryL at h ⊢
    cases q : own x.cls with
    | none =>
      rw [q] at h
      cases h
    | some t =>
      rw [q] at h
      cases t with
      | true => exact .inl (try_blind (hh _ List.mem_cons_self).1 (hh _ List.mem_cons_self).2 h)
      | false => exact tryL_blind (fun h hm => hh h (List.mem_cons_of_mem _ hm)) h
def HS : List ((Str → Option Bool) × S) := [((ownT [("RoadError", false), ("InvalidCall", true), ("InvalidVoice", false), ("InvalidText", false), ("NoCall", false)]), (sSet 1 (bin addV (ret (.str "call ")) (un (exvF (ownL ["InvalidCall"]) "word") (var 2))))), ((ownT [("RoadError", false), ("InvalidVoice", true), ("InvalidText", false), ("NoCall", false)]), (sSet 1 (bin addV (ret (.str "voice ")) (un (exvF (ownL ["InvalidVoice"]) "word") (var 2))))), ((ownT [("RoadError", false), ("InvalidText", true), ("NoCall", false)]), (sSet 1 (bin addV (ret (.str "line ")) (app strV (consM (un (exvF (ownL ["InvalidText"]) "at") (var 2)) nilM)))))]
def GS : Sto → List Val → Option Val := own1 ownS strV (ownT [("Call", c_Call_str), ("Voice", c_Voice_str)])
theorem tried_eq (w : M Val) : s_l_tried w = sSeq (sSet 1 (ret (.str "odd"))) (sSeq (sTryL 2 (sSet 1 (app GS (consM w nilM))) HS) (sRet (var 1))) := rfl
theorem HS_blind : ∀ q ∈ HS, Blind q.2 ∧ ∀ a y z v e t, q.2 [a, y, z] [] ≠ some (.ret v, e, t) := by
  intro q hq
  unfold HS at hq
  rcases List.mem_cons.mp hq with rfl | hq
  · exact ⟨blind_set suite_blind, fun _ _ _ _ _ _ => blind_ret⟩
  rcases List.mem_cons.mp hq with rfl | hq
  · exact ⟨blind_set suite_blind, fun _ _ _ _ _ _ => blind_ret⟩
  rcases List.mem_cons.mp hq with rfl | hq
  · exact ⟨blind_set suite_blind2, fun _ _ _ _ _ _ => blind_ret⟩
  · cases hq
theorem lam_u : LamU s_l_tried 3 := by
  intro w l r v e s hl hw h
  rw [tried_eq] at h ⊢
  have hb := HS_blind
  generalize HS = hs at h hb ⊢
  have a1 : ∀ q : Val, sSet 1 (ret (.str "odd")) (lamE0 3 q) [] = some (.next, [some q, some (.str "odd"), none], []) := fun _ => rfl
  rw [sSeq_next (a1 _)] at h ⊢
  have a2 : app GS (consM w nilM) [some l, some (.str "odd"), none] [] = app GS (consM (fun _ _ => r) nilM) [some .non, some (.str "odd"), none] [] := by
    have hw' := hw [some (.str "odd"), none]
    unfold app consM bnd
    rw [hw']
    rfl
  unfold sSeq sTryL at h ⊢
  unfold sSet sBnd at h ⊢
  rw [a2]
  generalize app GS (consM (fun _ _ => r) nilM) [some .non, some (.str "odd"), none] [] = R at h ⊢
  match R, h with
  | some (.ok u, s1), h => exact ⟨_, _, by cases h; rfl⟩
  | some (.error x, s1), h =>
    dsimp only at h ⊢
    cases q : tryL 2 hs x [some .non, some (.str "odd"), none] s1 with
    | none =>
      rw [q] at h
      cases h
    | some o =>
      obtain ⟨oo, y', s2⟩ := o
      rw [q] at h
      rcases tryL_blind hb (b := some l) q with ⟨rfl, c, c1, y2, q2, c2⟩ | rfl
      · rw [q2]
        dsimp only at h ⊢
        unfold sRet sBnd var at h ⊢
        rw [c1] at h
        rw [c2]
        cases c with
        | none => cases h
        | some u =>
          cases h
          exact ⟨_, _, rfl⟩
      · cases h
  | none, h => cases h
end K12
namespace Dw
open PySem Mi
open L2 (atI atI_last ixN)
structure DlN (st : Sto) (D c : Nat) (ns : List Int) : Prop where
  m : ∃ m : Int, st[D]? = some (.lst [.ref c, .int m]) ∧ 0 ≤ m ∧ m < 2147483647
  hc : st[c]? = some (.lst (ns.map .int))
  ne : D ≠ c
  len : ns.length ≤ 64
def Dl (st : Sto) (D c : Nat) : Prop := ∃ ns, DlN st D c ns
def Fr (D c : Nat) (st st' : Sto) : Prop := st'.length = st.length ∧ ∀ i, i ≠ D → i ≠ c → st'[i]? = st[i]?
theorem Fr.refl {D c : Nat} {st : Sto} : Fr D c st st := ⟨rfl, fun _ _ _ => rfl⟩
theorem Fr.trans {D c : Nat} {st s1 s2 : Sto} (a : Fr D c st s1) (b : Fr D c s1 s2) : Fr D c st s2 := ⟨b.1.trans a.1, fun i h1 h2 => (b.2 i h1 h2).trans (a.2 i h1 h2)⟩
theorem at_lt {st : Sto} {i : Nat} {o : SO} (h : st[i]? = some o) : i < st.length := (List.getElem?_eq_some_iff.mp h).1
theorem DlN.put {st : Sto} {D c : Nat} {ns ns' : List Int} (h : DlN st D c ns) (hl : ns'.length ≤ 64) : DlN (st.set c (.lst (ns'.map .int))) D c ns' ∧ Fr D c st (st.set c (.lst (ns'.map .int))) := by
  obtain ⟨⟨m, h1, h2⟩, h3, h4, h5⟩ := h
  refine ⟨⟨⟨m, ?_, h2⟩, ?_, h4, hl⟩, by simp, fun i hi1 hi2 => List.getElem?_set_ne (Ne.symm hi2)⟩
  · rw [List.getElem?_set_ne (Ne.symm h4)]
    exact h1
  · rw [List.getElem?_set_self (at_lt h3)]
theorem cells_ok {st : Sto} {D c : Nat} {ns : List Int} {env : Mi.Env} (h : DlN st D c ns) (he : env[0]? = some (some (.ref D))) : bin idxV (var 0) (ret (.int 0)) env st = some (.ok (.ref c), st) := by
  obtain ⟨⟨m, h1, _⟩, _⟩ := h
  refine bin_ok (x := .ref D) (y := .int 0) ?_ rfl ?_
  · unfold var
    rw [he]
  · show (match seqOf st (.ref D) with | some xs => atI xs 0 | none => none) = _
    have e : seqOf st (.ref D) = some [.ref c, .int m] := by
      show (match st[D]? with | some (.lst xs) => some xs | _ => none) = _
      rw [h1]
    rw [e]
    rfl
theorem full_ok {st : Sto} {D c : Nat} {ns : List Int} {env : Mi.Env} (h : DlN st D c ns) (he : env[0]? = some (some (.ref D))) : asB (bin neV (bin idxV (var 0) (ret (.int 0))) (mkLst nilM)) env st = some (.ok (!ns.isEmpty), st) :=
  asB_ok (bin_ok (cells_ok h he) (mkLst_ok nilM_ok (by decide)) (neV_nil h.hc))
theorem lstOf_c {st : Sto} {D c : Nat} {ns : List Int} (h : DlN st D c ns) : lstOf st (.ref c) = some (ns.map .int) := by
  show (match st[c]? with | some (.lst xs) => some xs | _ => none) = _
  rw [h.hc]
theorem last_ok {st : Sto} {D c : Nat} {ns : List Int} {z : Int} {env : Mi.Env} (h : DlN st D c (ns ++ [z])) (he : env[0]? = some (some (.ref D))) :
    bin idxV (bin idxV (var 0) (ret (.int 0))) (un (fun _ a => (intOf a).map fun i => .int (-i)) (ret (.int 1))) env st = some (.ok (.int z), st) := by
  refine bin_ok (cells_ok h he) (un_ok (x := .int 1) rfl rfl) ?_
  show (match seqOf st (.ref c) with | some xs => atI xs (-1) | none => none) = _
  have e : seqOf st (.ref c) = some ((ns ++ [z]).map .int) := lstOf_c h
  rw [e, List.map_append]
  exact atI_last _ _
theorem pop_ok {st : Sto} {D c : Nat} {ns : List Int} {z : Int} {env : Mi.Env} (h : DlN st D c (ns ++ [z])) (he : env[0]? = some (some (.ref D))) :
    lm popV (bin idxV (var 0) (ret (.int 0))) nilM env st = some (.ok (.int z), st.set c (.lst (ns.map .int))) := by
  refine lm_ok (cells_ok h he) (lstOf_c h) nilM_ok ?_
  show (match st[c]? with | some (.lst xs) => (match xs[xs.length - 1]? with | some y => some (y, st.set c (.lst xs.dropLast)) | none => none) | _ => none) = _
  rw [h.hc]
  simp
theorem sizes {ns : List Int} {z : Int} (h : (ns ++ [z]).length ≤ 64) : ns.length ≤ 64 := by
  rw [List.length_append] at h
  omega
theorem zeros_ok {D c : Nat} {env : Mi.Env} (he : env[0]? = some (some (.ref D))) : ∀ (n : Nat) (ns : List Int) (st : Sto), DlN st D c ns → ns.length < n →
    ∃ ns' st', sWhile (andB (asB (bin neV (bin idxV (var 0) (ret (.int 0))) (mkLst nilM))) (asB (bin eqV (bin idxV (bin idxV (var 0) (ret (.int 0))) (un (fun _ a => (intOf a).map fun i => .int (-i)) (ret (.int 1)))) (ret (.int 0))))) (sExpr (lm popV (bin idxV (var 0) (ret (.int 0))) nilM)) n env st = some (.next, env, st') ∧ DlN st' D c ns' ∧ Fr D c st st'
  | 0, ns, st, h, hl => absurd hl (Nat.not_lt_zero _)
  | n + 1, ns, st, h, hl => by
    rcases List.eq_nil_or_concat ns with e | ⟨init, z, e⟩
    · subst e
      refine ⟨[], st, ?_, h, Fr.refl⟩
      unfold sWhile
      rw [sBnd_ok (andB_ok (full_ok h he) (c := false) (s2 := st) (fun z => by cases z) fun _ => ⟨rfl, rfl⟩)]
      rfl
    · rw [List.concat_eq_append] at e
      subst e
      have full : asB (bin neV (bin idxV (var 0) (ret (.int 0))) (mkLst nilM)) env st = some (.ok true, st) := by
        rw [full_ok h he]
        cases init <;> rfl
      have test : andB (asB (bin neV (bin idxV (var 0) (ret (.int 0))) (mkLst nilM))) (asB (bin eqV (bin idxV (bin idxV (var 0) (ret (.int 0))) (un (fun _ a => (intOf a).map fun i => .int (-i)) (ret (.int 1)))) (ret (.int 0)))) env st = some (.ok (z == 0), st) :=
        andB_ok full (fun _ => asB_ok (bin_ok (last_ok h he) rfl (eqV_int st z 0))) fun z => by cases z
      unfold sWhile
      rw [sBnd_ok test]
      cases hz : (z == 0) with
      | false => exact ⟨_, st, rfl, h, Fr.refl⟩
      | true =>
        obtain ⟨h1, f1⟩ := h.put (ns' := init) (sizes h.len)
        obtain ⟨ns', st', e1, h2, f2⟩ := zeros_ok he n init _ h1 (by rw [List.length_append] at hl; simp at hl; omega)
        refine ⟨ns', st', ?_, h2, f1.trans f2⟩
        rw [if_pos rfl, sExpr_ok (pop_ok h he)]
        exact e1
theorem cutL_map {α β : Type} (f : α → β) (xs : List α) (lo hi : Option Int) : cutL (xs.map f) lo hi = (cutL xs lo hi).map f := by
  unfold cutL
  rw [List.length_map, ← List.map_drop, ← List.map_take]
theorem cutL_len {α : Type} (xs : List α) (lo hi : Option Int) : (cutL xs lo hi).length ≤ xs.length := by
  unfold cutL
  rw [List.length_take, List.length_drop]
  omega
def absF : Val → Val
  | .int i => .int (if i < 0 then -i else i)
  | v => v
def isBig : Val → Bool
  | .int i => decide ((10 : Int) ^ (18 : Int).toNat ≤ i)
  | _ => false
theorem abs_ints (ls : List Int) : (ls.map Val.int).map absF = (ls.map fun i => if i < 0 then -i else i).map Val.int := by
  rw [List.map_map, List.map_map]
  rfl
theorem big_ints (ls : List Int) : (ls.map Val.int).filter isBig = (ls.filter fun i => decide ((10 : Int) ^ (18 : Int).toNat ≤ i)).map Val.int := by
  rw [List.filter_map]
  rfl
def FrX (D c : Nat) (st st' : Sto) : Prop := st.length ≤ st'.length ∧ ∀ i, i < st.length → i ≠ D → i ≠ c → st'[i]? = st[i]?
theorem FrX.refl {D c : Nat} {st : Sto} : FrX D c st st := ⟨Nat.le_refl _, fun _ _ _ _ => rfl⟩
theorem FrX.trans {D c : Nat} {st s1 s2 : Sto} (a : FrX D c st s1) (b : FrX D c s1 s2) : FrX D c st s2 := ⟨Nat.le_trans a.1 b.1, fun i h h1 h2 => (b.2 i (Nat.lt_of_lt_of_le h a.1) h1 h2).trans (a.2 i h h1 h2)⟩
theorem DlN.app {st : Sto} {D c : Nat} {ns : List Int} {g : Sto} (h : DlN st D c ns) : DlN (st ++ g) D c ns := by
  obtain ⟨m, m1, m2⟩ := h.m
  exact ⟨⟨m, by rw [List.getElem?_append_left (at_lt m1)]; exact m1, m2⟩, by rw [List.getElem?_append_left (at_lt h.hc)]; exact h.hc, h.ne, h.len⟩
theorem Dl.app {st : Sto} {D c : Nat} {g : Sto} (h : Dl st D c) : Dl (st ++ g) D c := by
  obtain ⟨ns, h⟩ := h
  exact ⟨ns, h.app⟩
theorem Dl.other {st : Sto} {D c i : Nat} {o : SO} (h : Dl st D c) (h1 : i ≠ D) (h2 : i ≠ c) : Dl (st.set i o) D c := by
  obtain ⟨ns, h⟩ := h
  obtain ⟨m, m1, m2⟩ := h.m
  exact ⟨ns, ⟨m, by rw [List.getElem?_set_ne h1]; exact m1, m2⟩, by rw [List.getElem?_set_ne h2]; exact h.hc, h.ne, h.len⟩
theorem Dl.lt {st : Sto} {D c : Nat} (h : Dl st D c) : D < st.length ∧ c < st.length := by
  obtain ⟨ns, h⟩ := h
  obtain ⟨m, m1, m2⟩ := h.m
  exact ⟨at_lt m1, at_lt h.hc⟩
end Dw
namespace Pg
open PySem Mi
open L2 (atI atI_last ixN)
/-- a name that a call may have -/
structure Nm (t : Str) : Prop where
  name : c_is_name [.str t] [] = some (.ok (.bl true), [])
  len : t.length ≤ 4
  sp : 32 ∉ TL.tl t
  nl : 10 ∉ TL.tl t
  ok : PyData.strOk t = true
structure One where
  t : Str
  d : Int
  l : Int
  m : Str
  e : Int
  j : Int
def manners : List Str := ["wait", "drop", "cut"]
structure One.Ok (o : One) : Prop where
  t : Nm o.t
  d : 1 ≤ o.d ∧ o.d ≤ 4
  l : 1 ≤ o.l ∧ o.l ≤ 3
  m : o.m ∈ manners
  e : 1 ≤ o.e ∧ o.e ≤ 4
  j : 0 ≤ o.j ∧ o.j ≤ 3
def callV (o : One) : Val := .ins "Call" ["name", "distance", "length", "busy", "least", "joins"] [.str o.t, .int o.d, .int o.l, .str o.m, .int o.e, .int o.j]
end Pg
namespace Pg
open PySem Mi
open L2 (atI atI_last ixN)
def maxD (os : List One) : Int := (maxL (os.map (·.d))).getD 0
def voiceV (os : List One) : Val := .ins "Voice" ["calls", "names", "reach"] [.tup (os.map callV), .tup (os.map fun o => .str o.t), .int (maxD os)]
def Hands (v : Val) (os : List One) : Prop := v = .lst (os.map callV) ∨ v = .tup (os.map callV)
theorem Hands.seq {v : Val} {os : List One} {st : Sto} (h : Hands v os) : seqOf st v = some (os.map callV) := by rcases h with rfl | rfl <;> rfl
end Pg
namespace Pg
open PySem Mi
open L2 (atI atI_last ixN)
@[simp] theorem x_sTryN {own : Str → Option Bool} {b suite : S} {env : Mi.Env} {st : Sto} {v : Val} {e : Mi.Env} {s : Sto} (h : b env st = some (.ret v, e, s)) : sTryN own b suite env st = some (.ret v, e, s) := by
  unfold sTryN
  rw [h]
end Pg
namespace Pg
open PySem Mi
open L2 (atI atI_last ixN)
/-! ### ticks, plainly -/
structure Turn where
  d : Int
  op : Bool
  left : List Nat
  told : Bool
structure Sp where
  turn : Int
  num : Nat
  ticks : Int
  jn : Bool
structure Stt where
  turns : List Turn
  sp : Option Sp
  wait : List (Nat × Nat)
structure Co where
  turns : List Turn
  sp : Option Sp
  wait : List (Nat × Nat)
  met : List Str
  now : Int
def turnL (t : Turn) : List Val := [.int t.d, .bl t.op, .tup (t.left.map fun n : Nat => Val.int (n : Int)), .bl t.told]
def spV : Option Sp → Val
  | none => .non
  | some s => .tup [.int s.turn, .int (s.num : Int), .int s.ticks, .bl s.jn]
def pairV (p : Nat × Nat) : Val := .tup [.int (p.1 : Int), .int (p.2 : Int)]
def sttV (s : Stt) : Val := .tup [.tup (s.turns.map fun t => .tup (turnL t)), spV s.sp, .tup (s.wait.map pairV)]
def Turn.noLeft (t : Turn) : Turn := { t with left := [] }
def Turn.less (n : Nat) (t : Turn) : Turn := { t with left := t.left.filter fun x => x != n }
def Turn.tell (t : Turn) : Turn := { t with told := true }
def Turn.near (t : Turn) : Turn := { t with d := t.d - 1 }
def joinsAt (ts : List Turn) (i : Nat) (o : One) : Bool := match ts[i + 1]?, ts[i]? with
  | some u, some t => !u.op && decide (u.d - t.d ≤ o.j)
  | _, _ => false
def Co.begin (c : Co) (i n : Nat) (o : One) : Co :=
  { turns := if joinsAt c.turns i o then c.turns.modify (i + 1) Turn.noLeft else c.turns,
    sp := some ⟨i, n, o.l + (if joinsAt c.turns i o then 1 else 0), joinsAt c.turns i o⟩,
    wait := if joinsAt c.turns i o then c.wait.filter fun p => p.1 != i + 1 else c.wait,
    met := if (c.turns.take i).all Turn.told then c.met else c.met ++ [("ahead" : Str)],
    now := c.now }
def Co.due (c : Co) (i n : Nat) (o : One) : Co := match c.sp with
  | none => c.begin i n o
  | some _ => if o.m = "wait" then { c with wait := c.wait ++ [(i, n)] } else if o.m = "cut" then Co.begin { c with met := c.met ++ [("cut" : Str)] } i n o else c
/-- one number of the turn i -/
def due1 (os : List One) (i : Nat) (c : Co) (n : Nat) : Co := match c.turns[i]?, os[n]? with
  | some t, some o => if n ∈ t.left ∧ t.d ≤ o.d then Co.due { c with turns := c.turns.modify i (Turn.less n) } i n o else c
  | _, _ => c
def dueTurn (os : List One) (c : Co) (i : Nat) : Co := match c.turns[i]? with
  | some t => t.left.foldl (due1 os i) c
  | none => c
def allDue (os : List One) (c : Co) : Co := (List.range c.turns.length).foldl (dueTurn os) c
/-- turns from lo on, n of them, are told -/
def tellFrom (ts : List Turn) (lo n : Nat) : List Turn := (List.range n).foldl (fun ts k => ts.modify (lo + k) Turn.tell) ts
def Co.speak (c : Co) : Co × Option (Int × Nat) := match c.sp with
  | none => (c, none)
  | some s =>
    let c1 : Co := { c with sp := if 1 < s.ticks then some { s with ticks := s.ticks - 1 } else none }
    if s.ticks = 1 then
      let k : Int := if s.jn then 2 else 1
      ({ c1 with now := k, turns := tellFrom c.turns (max s.turn 0).toNat (s.turn + k - max s.turn 0).toNat }, some (s.turn, s.num))
    else (c1, some (s.turn, s.num))
def tellsNearest (c : Co) : Bool := match c.sp with
  | none => false
  | some s => s.turn == 0 || (s.turn == -1 && s.jn)
def Co.step (c : Co) : Co × Int :=
  let ts := c.turns.map Turn.near
  match ts with
  | [] => ({ c with turns := [] }, 0)
  | t :: rest => if 0 < t.d then ({ c with turns := ts }, 0) else
    let m1 := if tellsNearest c then c.met ++ [("behind" : Str)] else c.met
    let m2 := if t.told then m1 else m1 ++ [("untold" : Str)]
    ({ turns := rest, sp := c.sp.map fun s => { s with turn := max (if s.jn then -2 else -1) (s.turn - 1) },
       wait := (c.wait.filter fun p => 0 < p.1).map fun p => (p.1 - 1, p.2), met := m2, now := c.now }, 1)
def Stt.co (s : Stt) : Co := ⟨s.turns, s.sp, s.wait, [], 0⟩
def Co.stt (c : Co) : Stt := ⟨c.turns, c.sp, c.wait⟩
/-- the first part of a tick -/
def Co.first (os : List One) (c : Co) : Co := match c.sp, c.wait with
  | none, (i, n) :: w => match os[n]? with
    | some o => Co.begin { c with wait := w } i n o
    | none => c
  | _, _ => c
def crowd (c : Co) : Co := if 1 < c.wait.length then { c with met := c.met ++ [("crowd" : Str)] } else c
def tick (os : List One) (s : Stt) : Co × Option (Int × Nat) := (crowd (allDue os (s.co.first os))).speak
/-! ### what is well formed -/
structure Co.Ok (os : List One) (c : Co) : Prop where
  left : ∀ t ∈ c.turns, ∀ n ∈ t.left, n < os.length
  wait : ∀ p ∈ c.wait, p.1 < c.turns.length ∧ p.2 < os.length
  sp : ∀ s, c.sp = some s → s.num < os.length ∧ 1 ≤ s.ticks ∧ s.turn + (if s.jn then 2 else 1) ≤ c.turns.length ∧ -2 ≤ s.turn
/-! ### a course in the store -/
structure Lay where
  ti : Nat
  wi : Nat
  mi : Nat
  us : List Nat
abbrev coK : List Str := ["speaker", "turns", "speech", "waiting", "met", "told_now"]
abbrev coX (os : List One) (c : Co) (a : Lay) : List Val := [voiceV os, .ref a.ti, spV c.sp, .ref a.wi, .ref a.mi, .int c.now]
structure CAt (os : List One) (st : Sto) (i : Nat) (c : Co) (a : Lay) : Prop where
  ins : st[i]? = some (.ins "Course" coK (coX os c a))
  tur : st[a.ti]? = some (.lst (a.us.map .ref))
  len : a.us.length = c.turns.length
  each : ∀ (k : Nat) u t, a.us[k]? = some u → c.turns[k]? = some t → st[u]? = some (.lst (turnL t))
  wai : st[a.wi]? = some (.lst (c.wait.map pairV))
  met : st[a.mi]? = some (.lst (c.met.map .str))
  n1 : a.ti ≠ a.wi
  n2 : a.ti ≠ a.mi
  n3 : a.wi ≠ a.mi
  n4 : ∀ u ∈ a.us, u ≠ a.ti ∧ u ≠ a.wi ∧ u ≠ a.mi
  nd : a.us.Nodup
  lo : i ≤ a.ti ∧ i ≤ a.wi ∧ i ≤ a.mi ∧ ∀ u ∈ a.us, i ≤ u
/-- what lies below stays, nothing goes -/
def Fb (b : Nat) (st st' : Sto) : Prop := st.length ≤ st'.length ∧ ∀ j, j < b → st'[j]? = st[j]?
theorem Fb.refl {b : Nat} {st : Sto} : Fb b st st := ⟨Nat.le_refl _, fun _ _ => rfl⟩
theorem Fb.trans {b : Nat} {st s1 s2 : Sto} (h : Fb b st s1) (g : Fb b s1 s2) : Fb b st s2 := ⟨Nat.le_trans h.1 g.1, fun j hj => (g.2 j hj).trans (h.2 j hj)⟩
theorem Fb.set {b i : Nat} {st : Sto} {o : SO} (h : b ≤ i) : Fb b st (st.set i o) := ⟨by simp, fun j hj => List.getElem?_set_ne (by omega)⟩
theorem Fb.app {b : Nat} {st g : Sto} (h : b ≤ st.length) : Fb b st (st ++ g) := ⟨by simp, fun j hj => List.getElem?_append_left (by omega)⟩
theorem at_lt {st : Sto} {i : Nat} {o : SO} (h : st[i]? = some o) : i < st.length := (List.getElem?_eq_some_iff.mp h).1
theorem ne_io {st : Sto} {i j : Nat} {c : Str} {ks : List Str} {xs ys : List Val} (h : st[i]? = some (.ins c ks xs)) (g : st[j]? = some (.lst ys)) : i ≠ j := fun e => by
  subst e
  rw [h] at g
  cases g
section
variable {os : List One} {st : Sto} {i : Nat} {c : Co} {a : Lay}
theorem CAt.it (h : CAt os st i c a) : i ≠ a.ti := ne_io h.ins h.tur
/-- things laid behind -/
theorem CAt.app (h : CAt os st i c a) (g : Sto) : CAt os (st ++ g) i c a := by
  have up : ∀ {j : Nat} {o : SO}, st[j]? = some o → (st ++ g)[j]? = some o := fun {j o} e => by
    rw [List.getElem?_append_left (at_lt e)]
    exact e
  exact ⟨up h.ins, up h.tur, h.len, fun k u t hu ht => up (h.each k u t hu ht), up h.wai, up h.met, h.n1, h.n2, h.n3, h.n4, h.nd, h.lo⟩
end
end Pg
namespace Pg
open PySem Mi
open L2 (atI atI_last ixN)
/-! ### a course, seen as it stands -/
section
variable {os : List One} {st : Sto} {i : Nat} {c : Co} {a : Lay}
@[simp] theorem at_t0 {t : Turn} : atI (turnL t) 0 = some (.int t.d) := rfl
@[simp] theorem at_t1 {t : Turn} : atI (turnL t) 1 = some (.bl t.op) := rfl
@[simp] theorem at_t2 {t : Turn} : atI (turnL t) 2 = some (.tup (t.left.map fun n : Nat => Val.int (n : Int))) := rfl
@[simp] theorem at_t3 {t : Turn} : atI (turnL t) 3 = some (.bl t.told) := rfl
@[simp] theorem at4_0 {x y z w : Val} : atI [x, y, z, w] 0 = some x := rfl
@[simp] theorem at4_1 {x y z w : Val} : atI [x, y, z, w] 1 = some y := rfl
@[simp] theorem at4_2 {x y z w : Val} : atI [x, y, z, w] 2 = some z := rfl
@[simp] theorem at4_3 {x y z w : Val} : atI [x, y, z, w] 3 = some w := rfl
@[simp] theorem at2_0 {x y : Val} : atI [x, y] 0 = some x := rfl
@[simp] theorem at2_1 {x y : Val} : atI [x, y] 1 = some y := rfl
@[simp] theorem idx_t0 {st : Sto} {t : Turn} : idxV st (.lst (turnL t)) (.int 0) = some (.int t.d) := rfl
@[simp] theorem idx_t1 {st : Sto} {t : Turn} : idxV st (.lst (turnL t)) (.int 1) = some (.bl t.op) := rfl
@[simp] theorem idx_t2 {st : Sto} {t : Turn} : idxV st (.lst (turnL t)) (.int 2) = some (.tup (t.left.map fun n : Nat => Val.int (n : Int))) := rfl
@[simp] theorem idx_t3 {st : Sto} {t : Turn} : idxV st (.lst (turnL t)) (.int 3) = some (.bl t.told) := rfl
end
end Pg
namespace Pg
open PySem Mi
open L2 (atI atI_last ixN)
/-! ### a call begins, becomes due -/
def Co.mu (c : Co) : Nat := c.wait.length + (c.turns.map fun t => t.left.length).sum
/-- not too much -/
structure Co.Sz (c : Co) (n : Nat) : Prop where
  met : c.met.length + 2 * c.mu ≤ n
  turns : c.turns.length ≤ 15000000
end Pg
namespace Pg
open PySem Mi
open L2 (atI atI_last ixN)
end Pg
namespace Pg
open PySem Mi
open L2 (atI atI_last ixN)
@[simp] theorem eqV_strs {st : Sto} {x y : Str} : eqV st (.str x) (.str y) = some (.bl (x == y)) := rfl
@[simp] theorem neV_strs {st : Sto} {x y : Str} : neV st (.str x) (.str y) = some (.bl (!(x == y))) := rfl
/-! ### what stays true -/
section
variable {os : List One} {c : Co}
@[simp] theorem begin_len {k n : Nat} {o : One} : (c.begin k n o).turns.length = c.turns.length := by
  unfold Co.begin
  dsimp only
  split <;> simp
@[simp] theorem due_len {k n : Nat} {o : One} : (c.due k n o).turns.length = c.turns.length := by
  unfold Co.due
  split
  · simp
  · split
    · rfl
    · split
      · simp
      · rfl
@[simp] theorem due1_len {i n : Nat} : (due1 os i c n).turns.length = c.turns.length := by
  unfold due1
  split
  · split
    · simp
    · rfl
  · rfl
theorem fold1_len {i : Nat} : ∀ {l : List Nat} {c : Co}, (l.foldl (due1 os i) c).turns.length = c.turns.length
  | [], c => rfl
  | n :: l, c => by
    rw [List.foldl_cons, fold1_len, due1_len]
@[simp] theorem dueTurn_len {i : Nat} : (dueTurn os c i).turns.length = c.turns.length := by
  unfold dueTurn
  split
  · exact fold1_len
  · rfl
theorem foldT_len : ∀ {l : List Nat} {c : Co}, (l.foldl (dueTurn os) c).turns.length = c.turns.length
  | [], c => rfl
  | n :: l, c => by
    rw [List.foldl_cons, foldT_len, dueTurn_len]
@[simp] theorem allDue_len : (allDue os c).turns.length = c.turns.length := foldT_len
/-! sizes -/
theorem Co.Sz.mono {m m' : Nat} (h : c.Sz m) (e : m ≤ m') : c.Sz m' := ⟨Nat.le_trans h.met e, h.turns⟩
end
end Pg
namespace Pg
open PySem Mi
open L2 (atI atI_last ixN)
/-! ### all that is due -/
end Pg
namespace Pg
open PySem Mi
open L2 (atI atI_last ixN)
/-! ### speaking, stepping -/
end Pg
namespace Pg
open PySem Mi
open L2 (atI atI_last ixN)
end Pg
namespace Pg
open PySem Mi
open L2 (atI atI_last ixN)
end Pg
namespace Pg
open PySem Mi
open L2 (atI atI_last ixN)
/-! ### a tick -/
end Pg
namespace Pg
open PySem Mi
open L2 (atI atI_last ixN)
/-! ### sets, sorted -/
def addD {α : Type} [DecidableEq α] (ks : List α) (k : α) : List α := if k ∈ ks then ks else ks ++ [k]
def dedA {α : Type} [DecidableEq α] (ks : List α) : List α → List α
  | [] => ks
  | k :: r => dedA (addD ks k) r
/-! ### journeys, plainly -/
structure Jn where
  now : Stt
  gone : Int
  spoken : Int
  heard : List (Option (Int × Str))
  told : List Int
  met : List (Nat × Str)
def nameOf (os : List One) (n : Nat) : Str := match os[n]? with
  | some o => o.t
  | none => ""
def spokenNext (gone spoken : Int) : Option (Int × Nat) → Int
  | some (t, _) => if 0 ≤ t then gone + t else spoken
  | none => spoken
def faultsOf (ms : List Str) : List Str := sortS (dedA [] ms)
def Jn.go (os : List One) (j : Jn) (isStep : Bool) : Jn :=
  let ct := tick os j.now
  let sp := spokenNext j.gone j.spoken ct.2
  let cs : Co × Int := if isStep then ct.1.step else (ct.1, 0)
  { now := cs.1.stt, gone := j.gone + cs.2, spoken := sp, heard := j.heard ++ [ct.2.map fun p => (sp, nameOf os p.2)],
    told := j.told ++ (List.range ct.1.now.toNat).map fun (k : Nat) => sp + (k : Int), met := j.met ++ (faultsOf cs.1.met).map fun f => (j.heard.length, f) }
def heardV : Option (Int × Str) → Val
  | none => .non
  | some p => .tup [.int p.1, .str p.2]
def metV (p : Nat × Str) : Val := .tup [.int (p.1 : Int), .str p.2]
abbrev jK : List Str := ["speaker", "now", "gone_by", "turn_spoken", "heard_words", "told_turns", "met_faults"]
abbrev jX (os : List One) (b : Nat) (s : Stt) (g p : Int) : List Val := [voiceV os, sttV s, .int g, .int p, .ref (b + 1), .ref (b + 2), .ref (b + 3)]
structure JAt (os : List One) (st : Sto) (b : Nat) (j : Jn) : Prop where
  ins : st[b]? = some (.ins "Journey" jK (jX os b j.now j.gone j.spoken))
  hw : st[b + 1]? = some (.lst (j.heard.map heardV))
  tw : st[b + 2]? = some (.lst (j.told.map .int))
  mw : st[b + 3]? = some (.lst (j.met.map metV))
section
variable {os : List One} {st : Sto} {b : Nat} {j : Jn}
theorem JAt.fb (h : JAt os st b j) {k : Nat} {st' : Sto} (hk : b + 3 < k) (f : Fb k st st') : JAt os st' b j :=
  ⟨(f.2 b (by omega)).trans h.ins, (f.2 _ (by omega)).trans h.hw, (f.2 _ (by omega)).trans h.tw, (f.2 _ (by omega)).trans h.mw⟩
theorem JAt.lt (h : JAt os st b j) : b + 3 < st.length := at_lt h.mw
end
end Pg
namespace Pg
open PySem Mi
open L2 (atI atI_last ixN)
/-! ### a tick of a journey -/
/-- how much there is of a state -/
structure Stt.Fine (os : List One) (s : Stt) : Prop where
  wf : s.co.Ok os
  mu : s.co.mu ≤ 1000
  turns : s.turns.length ≤ 1000
end Pg
namespace Pg
open PySem Mi
open L2 (atI atI_last ixN)
end Pg
namespace Pg
open PySem Mi
open L2 (atI atI_last ixN)
/-! ### the beginning of a road -/
end Pg
namespace Pg
open PySem Mi
open L2 (atI atI_last ixN)
/-! ### a play -/
end Pg
namespace Pg
open PySem Mi
open L2 (atI atI_last ixN)
/-- a list or a tuple that is read alone -/
def Sq (v : Val) (xs : List Val) : Prop := v = .lst xs ∨ v = .tup xs
theorem Sq.seq {v : Val} {xs : List Val} (h : Sq v xs) : seqStill v = some xs := by rcases h with rfl | rfl <;> rfl
theorem Sq.is {v : Val} {xs : List Val} (h : Sq v xs) {st : Sto} : c_is_sequence [v] st = some (.ok (.bl true), st) := by rcases h with rfl | rfl <;> rfl
/-! ### all of it -/
structure Jn.In (os : List One) (j : Jn) (n : Nat) : Prop where
  fine : j.now.Fine os
  heard : j.heard.length = n
  told : j.told.length ≤ 2 * n
  met : j.met.length ≤ 2003 * n
end Pg
namespace Pg
open PySem Mi
open L2 (atI atI_last ixN)
/-! ### what is told is data -/
end Pg
namespace LwA
open PySem Mi Pg Dw
open L2 (atI atI_last ixN)
theorem draw_ok {st : Sto} {D c : Nat} {k : Int} (h : Dl st D c) (h0 : 0 < k) (h1 : k < 1073741824) : ∃ r st', c_l_draw [.ref D, .int k] st = some (.ok (.int r), st') ∧ 0 ≤ r ∧ r < k ∧ Dl st' D c ∧ Fr D c st st' := by
  obtain ⟨ns, h⟩ := h
  have he : (env0 3 [.ref D, .int k])[0]? = some (some (.ref D)) := rfl
  obtain ⟨ns', s1, e1, h2, f1⟩ := zeros_ok (env := env0 3 [.ref D, .int k]) he 100 ns st h (by have := h.len; omega)
  rcases List.eq_nil_or_concat ns' with e | ⟨init, z, e⟩
  · -- no cell is left
    subst e
    obtain ⟨m, g1, g2, g3⟩ := h2.m
    have hm : ∀ {env : Mi.Env} {st : Sto} {m : Int}, env[0]? = some (some (.ref D)) → st[D]? = some (.lst [.ref c, .int m]) → bin idxV (var 0) (ret (.int 1)) env st = some (.ok (.int m), st) := fun {env st m} he hd => by
      refine bin_ok (x := .ref D) (y := .int 1) ?_ rfl ?_
      · unfold var
        rw [he]
      · show (match seqOf st (.ref D) with | some xs => atI xs 1 | none => none) = _
        have e : seqOf st (.ref D) = some [.ref c, .int m] := by
          show (match st[D]? with | some (.lst xs) => some xs | _ => none) = _
          rw [hd]
        rw [e]
        rfl
    refine ⟨(m * 39373 + 23) % 2147483647 / 16 % k, s1.set D (.lst [.ref c, .int ((m * 39373 + 23) % 2147483647)]), ?_, Int.emod_nonneg _ (by omega), Int.emod_lt_of_pos _ h0, ?_, ?_⟩
    · refine callS_ret (e1 := env0 3 [.ref D, .int k]) ?_
      unfold s_l_draw
      rw [sSeq_next e1, sSeq_next (e1 := env0 3 [.ref D, .int k]) (s1 := s1) (by rw [sIf_false (full_ok h2 he)]; rfl)]
      have small : small64 m = true := by
        unfold small64
        simp
        omega
      have step : sSub (bin modV (app intV (consM (bin addV (bin mulV (bin idxV (var 0) (ret (.int 1))) (ret (.int 39373))) (ret (.int 23))) nilM)) (ret (.int 2147483647))) (var 0) (ret (.int 1)) (env0 3 [.ref D, .int k]) s1 = some (.next, env0 3 [.ref D, .int k], s1.set D (.lst [.ref c, .int ((m * 39373 + 23) % 2147483647)])) := by
        unfold sSub
        have e2 : bin mulV (bin idxV (var 0) (ret (.int 1))) (ret (.int 39373)) (env0 3 [.ref D, .int k]) s1 = some (.ok (.int (m * 39373)), s1) := bin_ok (hm he g1) rfl (by
          show (if (small64 m || small64 39373) = true then some (Val.int (m * 39373)) else none) = _
          rw [small]
          rfl)
        rw [sBnd_ok (bin_ok (app_ok (consM_ok (bin_ok e2 rfl rfl) nilM_ok) rfl) rfl rfl)]
        rw [sBnd_ok (show (var 0) (env0 3 [.ref D, .int k]) s1 = some (.ok (.ref D), s1) from rfl), sBnd_ok (show (ret (Val.int 1)) (env0 3 [.ref D, .int k]) s1 = some (.ok (.int 1), s1) from rfl)]
        dsimp only
        rw [g1]
        rfl
      rw [sSeq_next step]
      refine sRet_ok (bin_ok (app_ok (consM_ok (bin_ok (hm he (List.getElem?_set_self (Dw.at_lt g1))) rfl (z := .int ((m * 39373 + 23) % 2147483647 / 16)) rfl) nilM_ok) rfl) rfl ?_)
      show (if 0 < k then some (Val.int ((m * 39373 + 23) % 2147483647 / 16 % k)) else none) = _
      rw [if_pos h0]
    · refine ⟨[], ⟨_, List.getElem?_set_self (Dw.at_lt g1), Int.emod_nonneg _ (by decide), Int.emod_lt_of_pos _ (by decide)⟩, ?_, h2.ne, Nat.zero_le _⟩
      rw [List.getElem?_set_ne h2.ne]
      exact h2.hc
    · refine f1.trans ⟨by simp, fun i h1 h2 => List.getElem?_set_ne (Ne.symm h1)⟩
  · rw [List.concat_eq_append] at e
    subst e
    obtain ⟨h3, f2⟩ := h2.put (ns' := init) (sizes h2.len)
    obtain ⟨h4, f3⟩ := h3.put (ns' := init ++ [z / k]) (by have := h2.len; simpa using this)
    refine ⟨z % k, _, ?_, Int.emod_nonneg _ (by omega), Int.emod_lt_of_pos _ h0, ⟨_, h4⟩, (f1.trans f2).trans f3⟩
    have full : asB (bin neV (bin idxV (var 0) (ret (.int 0))) (mkLst nilM)) (env0 3 [.ref D, .int k]) s1 = some (.ok true, s1) := by
      rw [full_ok h2 he]
      cases init <;> rfl
    refine callS_ret (e1 := [some (.ref D), some (.int k), some (.int z)]) ?_
    unfold s_l_draw
    rw [sSeq_next e1]
    refine sSeq_ret ?_
    rw [sIf_true full, sSeq_next (sSet_ok (pop_ok h2 he))]
    have he2 : ((env0 3 [.ref D, .int k]).set 2 (some (.int z)))[0]? = some (some (.ref D)) := rfl
    have app2 : lm appendV (bin idxV (var 0) (ret (.int 0))) (consM (bin fdivV (var 2) (var 1)) nilM) ((env0 3 [.ref D, .int k]).set 2 (some (.int z))) (s1.set c (.lst (init.map .int))) = some (.ok .non, (s1.set c (.lst (init.map .int))).set c (.lst ((init ++ [z / k]).map .int))) := by
      refine lm_ok (cells_ok h3 he2) (lstOf_c h3) (consM_ok (bin_ok (x := Val.int z) (y := Val.int k) (z := Val.int (z / k)) rfl rfl ?_) nilM_ok) ?_
      · show (if 0 < k ∧ k < 1073741824 then some (Val.int (z / k)) else none) = _
        rw [if_pos ⟨h0, h1⟩]
      · show (match (s1.set c (SO.lst (init.map Val.int)))[c]? with | some (.lst xs) => if xs.length < LIM then some (Val.non, (s1.set c (.lst (init.map Val.int))).set c (.lst (xs ++ [Val.int (z / k)]))) else none | _ => none) = _
        rw [h3.hc]
        dsimp only
        rw [if_pos (by rw [List.length_map]; exact Nat.lt_of_le_of_lt h3.len (by decide)), List.map_append]
        rfl
    rw [sSeq_next (sExpr_ok app2)]
    refine sRet_ok (bin_ok (app_ok (consM_ok rfl nilM_ok) rfl) rfl ?_)
    show (if 0 < k then some (Val.int (z % k)) else none) = _
    rw [if_pos h0]
theorem deal_ok {ns : List Int} {b : Int} {st : Sto} (hn : ns.length ≤ 63) (h0 : 0 ≤ b) (h1 : b ≤ 100) : ∃ st' g, c_l_deal [.rol (ns.map .int), .int b] st = some (.ok (.ref (st.length + 1)), st') ∧ st' = st ++ g ∧ g.length = 2 ∧ Dl st' (st.length + 1) st.length := by
  let ls := cutL ns (some b) (some 62)
  have hl : ls.length ≤ 63 := Nat.le_trans (cutL_len _ _ _) hn
  let cs := ls.map fun i => if i < 0 then -i else i
  have hcs : cs.length ≤ 63 := by
    show (ls.map _).length ≤ 63
    rw [List.length_map]
    exact hl
  let bs := (cs.filter fun i => decide ((10 : Int) ^ (18 : Int).toNat ≤ i)).reverse
  have hbs : bs.length ≤ 64 := by
    show (List.reverse _).length ≤ 64
    rw [List.length_reverse]
    exact Nat.le_trans (List.length_filter_le _ _) (by omega)
  -- the cells
  have e1 : comp (itS (sliceM (var 0) (part (var 1)) (part (ret (.int 62))))) (.name 4) [4] yes (app absV' (consM (app intV (consM (var 4) nilM)) nilM)) (env0 5 [.rol (ns.map .int), .int b]) st = some (.ok (.lst (cs.map .int)), st) := by
    have es : sliceM (var 0) (part (var 1)) (part (ret (.int 62))) (env0 5 [.rol (ns.map .int), .int b]) st = some (.ok (.lst (ls.map .int)), st) := by
      unfold sliceM
      rw [bnd_ok (show (var 0) (env0 5 [.rol (ns.map .int), .int b]) st = some (.ok (.rol (ns.map .int)), st) from rfl)]
      rw [bnd_ok (show (part (var 1)) (env0 5 [.rol (ns.map .int), .int b]) st = some (.ok (some b), st) from rfl)]
      rw [bnd_ok (show (part (ret (.int 62))) (env0 5 [.rol (ns.map .int), .int b]) st = some (.ok (some 62), st) from rfl)]
      refine lift_ok ?_
      show some (Val.lst (cutL (ns.map Val.int) (some b) (some 62))) = _
      rw [cutL_map]
    have q := comp_map (mi := itS (sliceM (var 0) (part (var 1)) (part (ret (.int 62))))) (t := .name 4) (own := [4]) (elt := app absV' (consM (app intV (consM (var 4) nilM)) nilM)) (f := absF) (itS_ok es (xs := ls.map .int) rfl) (by rw [List.length_map]; exact Nat.le_trans hl (by decide)) fun x hx => by
      obtain ⟨i, _, rfl⟩ := List.mem_map.mp hx
      exact ⟨_, rfl, rfl⟩
    rw [abs_ints] at q
    exact q
  -- the loop
  have e2 : ∃ m e4, 0 ≤ m ∧ m < 2147483647 ∧ sFor (itS (var 2)) (.name 4) (sSet 3 (bin modV (app intV (consM (bin addV (bin addV (bin mulV (var 3) (ret (.int 39373))) (bin modV (app intV (consM (var 4) nilM)) (ret (.int 2147483587)))) (ret (.int 11))) nilM)) (ret (.int 2147483647))))
      [some (.rol (ns.map .int)), some (.int b), some (.lst (cs.map .int)), some (.int (86028121 + 29 * b)), none] st = some (.next, [some (.rol (ns.map .int)), some (.int b), some (.lst (cs.map .int)), some (.int m), e4], st) := by
    obtain ⟨env', st', e, m, e4, z, h2, h3, h4⟩ := sFor_inv (mi := itS (var 2)) (t := .name 4) (body := sSet 3 (bin modV (app intV (consM (bin addV (bin addV (bin mulV (var 3) (ret (.int 39373))) (bin modV (app intV (consM (var 4) nilM)) (ret (.int 2147483587)))) (ret (.int 11))) nilM)) (ret (.int 2147483647))))
      (fun _ env s => ∃ m e4, env = [some (.rol (ns.map .int)), some (.int b), some (.lst (cs.map .int)), some (.int m), e4] ∧ 0 ≤ m ∧ m < 2147483647 ∧ s = st) (xs := cs.map .int) (env := [some (.rol (ns.map .int)), some (.int b), some (.lst (cs.map .int)), some (.int (86028121 + 29 * b)), none]) (st := st) (s1 := st) (itS_ok (v := .lst (cs.map .int)) rfl rfl)
      ⟨_, none, rfl, by omega, by omega, rfl⟩ fun i x env s hx ⟨m, e4, z, h2, h3, h4⟩ => by
        subst z h4
        obtain ⟨y, _, rfl⟩ := List.mem_map.mp (List.mem_of_getElem? hx)
        refine ⟨_, rfl, _, _, .inl (sSet_ok (v := .int ((m * 39373 + y % 2147483587 + 11) % 2147483647)) ?_), _, some (.int y), rfl, Int.emod_nonneg _ (by decide), Int.emod_lt_of_pos _ (by decide), rfl⟩
        have small : small64 m = true := by
          unfold small64
          simp
          omega
        refine bin_ok (app_ok (consM_ok (bin_ok (bin_ok (bin_ok (x := .int m) (y := .int 39373) (z := .int (m * 39373)) rfl rfl ?_) (bin_ok (x := .int y) (y := .int 2147483587) (z := .int (y % 2147483587)) rfl rfl rfl) rfl) rfl rfl) nilM_ok) rfl) rfl rfl
        show (if (small64 m || small64 39373) = true then some (Val.int (m * 39373)) else none) = _
        rw [small]
        rfl
    subst z h4
    exact ⟨m, e4, h2, h3, e⟩
  obtain ⟨m, e4, m0, m1, e2⟩ := e2
  -- the great ones, turned
  have e3 : comp (itS (var 2)) (.name 4) [4] (asB (bin (cmpV fun i j => decide (j ≤ i)) (var 4) (bin powV (ret (.int 10)) (ret (.int 18))))) (var 4) [some (.rol (ns.map .int)), some (.int b), some (.lst (cs.map .int)), some (.int m), e4] st
      = some (.ok (.lst ((cs.filter fun i => decide ((10 : Int) ^ (18 : Int).toNat ≤ i)).map .int)), st) := by
    have q := comp_pure (mi := itS (var 2)) (t := .name 4) (own := [4]) (cond := asB (bin (cmpV fun i j => decide (j ≤ i)) (var 4) (bin powV (ret (.int 10)) (ret (.int 18))))) (elt := var 4) (p := isBig) (f := fun v => v) (env := [some (.rol (ns.map .int)), some (.int b), some (.lst (cs.map .int)), some (.int m), e4]) (st := st) (s1 := st) (xs := cs.map .int)
      (itS_ok (v := .lst (cs.map .int)) rfl rfl) (by rw [List.length_map]; exact Nat.le_trans hcs (by decide)) fun x hx => by
        obtain ⟨i, _, rfl⟩ := List.mem_map.mp hx
        exact ⟨_, rfl, rfl, fun _ => rfl⟩
    rw [List.map_id'', big_ints] at q
    · exact q
    · exact fun _ => rfl
  refine ⟨(st ++ [.lst (bs.map .int)]) ++ [.lst [.ref st.length, .int m]], [.lst (bs.map .int)] ++ [.lst [.ref st.length, .int m]], ?_, by rw [List.append_assoc], rfl, bs, ⟨m, ?_, m0, m1⟩, ?_, by omega, hbs⟩
  · refine callS_ret (e1 := [some (.rol (ns.map .int)), some (.int b), some (.lst (cs.map .int)), some (.int m), e4]) ?_
    unfold s_l_deal
    rw [sSeq_next (sSet_ok e1)]
    rw [sSeq_next (e1 := [some (.rol (ns.map .int)), some (.int b), some (.lst (cs.map .int)), some (.int (86028121 + 29 * b)), none]) (s1 := st) (sSet_ok (v := .int (86028121 + 29 * b)) (bin_ok rfl (bin_ok (x := .int 29) (y := .int b) (z := .int (29 * b)) rfl rfl rfl) rfl))]
    rw [sSeq_next e2]
    refine sRet_ok ?_
    have e5 : unS revVM (comp (itS (var 2)) (.name 4) [4] (asB (bin (cmpV fun i j => decide (j ≤ i)) (var 4) (bin powV (ret (.int 10)) (ret (.int 18))))) (var 4)) [some (.rol (ns.map .int)), some (.int b), some (.lst (cs.map .int)), some (.int m), e4] st
        = some (.ok (.ref st.length), st ++ [.lst (bs.map .int)]) := by
      unfold unS
      rw [bnd_ok e3]
      refine liftS_ok ?_
      show some (Val.ref st.length, st ++ [SO.lst (List.reverse (List.map Val.int _))]) = _
      rw [← List.map_reverse]
    have e6 := mkLstM_ok (consM_ok e5 (consM_ok (m := var 3) (v := .int m) rfl nilM_ok)) (by show 2 ≤ LIM; decide)
    rw [e6, List.length_append]
    rfl
  · rw [List.getElem?_append_right (by simp)]
    simp
  · rw [List.getElem?_append_left (by simp), List.getElem?_append_right (Nat.le_refl _)]
    simp
theorem mixed_ok {st : Sto} {D c : Nat} {ts : List Str} (h : Dl st D c) (hl : ts.length ≤ 100) : ∃ (fs : List Str) (st' : Sto), c_l_mixed [.ref D, .lst (ts.map .str)] st = some (.ok (.ref (st.length + 1)), st') ∧ fs.Perm ts ∧ st'[st.length + 1]? = some (.lst (fs.map .str)) ∧ Dl st' D c ∧ FrX D c st st' := by
  obtain ⟨hD, hC⟩ := h.lt
  let s0 : Sto := (st ++ [.lst (ts.map .str)]) ++ [.lst []]
  have a0 : s0[st.length]? = some (.lst (ts.map .str)) := by
    show ((st ++ [SO.lst (ts.map Val.str)]) ++ [SO.lst []])[st.length]? = _
    rw [List.getElem?_append_left (by simp)]
    simp
  have b0 : s0[st.length + 1]? = some (.lst []) := by
    show ((st ++ [SO.lst (ts.map Val.str)]) ++ [SO.lst []])[st.length + 1]? = _
    rw [List.getElem?_append_right (by simp)]
    simp
  obtain ⟨env', s', e, a, fs, ls, e1, e2, e3, e4, e5, e6, e7, e8⟩ := sFor_inv (mi := rng1 (consM (app lenV (consM (var 3) nilM)) nilM)) (t := .name 2) (body := sExpr (lm appendV (var 4) (consM (lm popAtV (var 3) (consM (callM 2 c_l_draw [] (consM (var 0) (consM (app lenV (consM (var 3) nilM)) nilM))) nilM)) nilM)))
    (fun i env s => ∃ a, ∃ fs ls : List Str, env = [some (.ref D), some (.lst (ts.map .str)), a, some (.ref st.length), some (.ref (st.length + 1))] ∧ s[st.length]? = some (.lst (ls.map .str)) ∧ s[st.length + 1]? = some (.lst (fs.map .str)) ∧ (fs ++ ls).Perm ts ∧ fs.length = i ∧ Dl s D c ∧ s.length = st.length + 2 ∧ FrX D c st s)
    (env := [some (.ref D), some (.lst (ts.map .str)), none, some (.ref st.length), some (.ref (st.length + 1))]) (st := s0) (s1 := s0)
    (rng1_ok (j := (ts.length : Int)) (consM_ok (v := .int ts.length) (app_ok (consM_ok (v := .ref st.length) rfl nilM_ok) (by
      rw [lenV_ref a0, List.length_map])) nilM_ok) (by omega) (by omega))
    ⟨none, [], ts, rfl, a0, b0, List.Perm.refl _, rfl, (h.app).app, by show ((st ++ _) ++ _).length = _; simp, ⟨by show _ ≤ ((st ++ _) ++ _).length; simp, fun i hi _ _ => by
      show ((st ++ [SO.lst (ts.map Val.str)]) ++ [SO.lst []])[i]? = _
      rw [List.append_assoc, List.getElem?_append_left hi]⟩⟩
    (fun i x env s hx ⟨a, fs, ls, e1, e2, e3, e4, e5, e6, e7, e8⟩ => by
      subst e1
      have hi : i < ts.length := by
        have := (List.getElem?_eq_some_iff.mp hx).1
        rw [List.length_map, List.length_range] at this
        omega
      have hsum : fs.length + ls.length = ts.length := by
        rw [← List.length_append]
        exact e4.length_eq
      obtain ⟨r, s1, q1, r0, r1, d1, f1⟩ := draw_ok (k := (ls.length : Int)) e6 (by omega) (by omega)
      have hr : r.toNat < ls.length := by omega
      have a1 : s1[st.length]? = some (.lst (ls.map .str)) := by
        rw [f1.2 _ (by omega) (by omega)]
        exact e2
      have b1 : s1[st.length + 1]? = some (.lst (fs.map .str)) := by
        rw [f1.2 _ (by omega) (by omega)]
        exact e3
      have l1 : s1.length = st.length + 2 := f1.1.trans e7
      refine ⟨[some (.ref D), some (.lst (ts.map .str)), some x, some (.ref st.length), some (.ref (st.length + 1))], rfl, [some (.ref D), some (.lst (ts.map .str)), some x, some (.ref st.length), some (.ref (st.length + 1))], (s1.set st.length (.lst ((ls.eraseIdx r.toNat).map .str))).set (st.length + 1) (.lst ((fs ++ [ls[r.toNat]]).map .str)), .inl ?_, some x, fs ++ [ls[r.toNat]], ls.eraseIdx r.toNat, rfl, ?_, ?_, ?_, ?_, ?_, ?_, ?_⟩
      · have dr : callM 2 c_l_draw [] (consM (var 0) (consM (app lenV (consM (var 3) nilM)) nilM)) [some (.ref D), some (.lst (ts.map .str)), some x, some (.ref st.length), some (.ref (st.length + 1))] s = some (.ok (.int r), s1) := callM_ok (n := 2) (vs := [.ref D, .int ls.length]) (consM_ok (v := .ref D) rfl (consM_ok (app_ok (consM_ok (v := .ref st.length) rfl nilM_ok) (by
          rw [lenV_ref e2, List.length_map])) nilM_ok)) rfl q1
        have pp : lm popAtV (var 3) (consM (callM 2 c_l_draw [] (consM (var 0) (consM (app lenV (consM (var 3) nilM)) nilM))) nilM) [some (.ref D), some (.lst (ts.map .str)), some x, some (.ref st.length), some (.ref (st.length + 1))] s = some (.ok (.str ls[r.toNat]), s1.set st.length (.lst ((ls.eraseIdx r.toNat).map .str))) := by
          rw [← map_erase]
          exact lm_ok (x := .ref st.length) (xs := ls.map .str) rfl (lstOf_ref e2) (consM_ok dr nilM_ok) (popAtV_ref a1 r0 (by rw [List.length_map]; exact r1) (by omega) (by rw [List.getElem?_map, List.getElem?_eq_getElem hr]; rfl))
        have b2 : (s1.set st.length (SO.lst ((ls.eraseIdx r.toNat).map .str)))[st.length + 1]? = some (.lst (fs.map .str)) := by
          rw [List.getElem?_set_ne (by omega)]
          exact b1
        rw [List.map_append]
        exact sExpr_ok (v := .non) (lm_ok (z := .non) (x := .ref (st.length + 1)) (xs := fs.map .str) rfl (lstOf_ref e3) (consM_ok pp nilM_ok) (appendV_ref b2 (by rw [List.length_map]; show _ < 16000000; omega)))
      · rw [List.getElem?_set_ne (by omega), List.getElem?_set_self (by omega)]
      · rw [List.getElem?_set_self (by rw [List.length_set]; omega)]
      · refine List.Perm.trans ?_ e4
        rw [List.append_assoc]
        refine List.Perm.append_left _ ?_
        show (ls[r.toNat] :: ls.eraseIdx r.toNat).Perm ls
        exact erase_perm ls r.toNat hr
      · rw [List.length_append, e5]
        rfl
      · exact (d1.other (by omega) (by omega)).other (by omega) (by omega)
      · rw [List.length_set, List.length_set]
        exact l1
      · refine ⟨by rw [List.length_set, List.length_set]; omega, fun i' hi' h1 h2 => ?_⟩
        rw [List.getElem?_set_ne (by omega), List.getElem?_set_ne (by omega), f1.2 _ h1 h2]
        exact e8.2 i' hi' h1 h2)
  rw [List.length_map, List.length_range] at e5
  have e5' : fs.length = ts.length := e5
  have hls : ls = [] := by
    have := e4.length_eq
    rw [List.length_append] at this
    exact List.eq_nil_of_length_eq_zero (by omega)
  subst hls
  rw [List.append_nil] at e4
  refine ⟨fs, s', ?_, e4, e3, e6, e8⟩
  refine callS_ret (e1 := env') ?_
  unfold s_l_mixed
  rw [sSeq_next (e1 := [some (.ref D), some (.lst (ts.map .str)), none, some (.ref st.length), some (.ref (st.length + 1))]) (s1 := s0) (by
    unfold sPar
    rw [sBnd_ok (consM_ok (v := .ref st.length) (s1 := st ++ [.lst (ts.map .str)]) (by
      unfold appS
      rw [bnd_ok (consM_ok (v := .lst (ts.map .str)) rfl nilM_ok)]
      exact liftS_ok rfl) (consM_ok (mkLstM_ok nilM_ok (by decide)) nilM_ok))]
    rw [List.length_append]
    rfl)]
  rw [sSeq_next e, e1]
  exact sRet_ok rfl
end LwA
namespace LwA
open PySem Mi Pg Dw
open L2 (atI atI_last ixN)
theorem deal_okL {ns : List Int} {b : Int} {st : Sto} (hn : ns.length ≤ 63) (h0 : 0 ≤ b) (h1 : b ≤ 100) : ∃ st' g, c_l_deal [.lst (ns.map .int), .int b] st = some (.ok (.ref (st.length + 1)), st') ∧ st' = st ++ g ∧ g.length = 2 ∧ Dl st' (st.length + 1) st.length := by
  let ls := cutL ns (some b) (some 62)
  have hl : ls.length ≤ 63 := Nat.le_trans (cutL_len _ _ _) hn
  let cs := ls.map fun i => if i < 0 then -i else i
  have hcs : cs.length ≤ 63 := by
    show (ls.map _).length ≤ 63
    rw [List.length_map]
    exact hl
  let bs := (cs.filter fun i => decide ((10 : Int) ^ (18 : Int).toNat ≤ i)).reverse
  have hbs : bs.length ≤ 64 := by
    show (List.reverse _).length ≤ 64
    rw [List.length_reverse]
    exact Nat.le_trans (List.length_filter_le _ _) (by omega)
  -- the cells
  have e1 : comp (itS (sliceM (var 0) (part (var 1)) (part (ret (.int 62))))) (.name 4) [4] yes (app absV' (consM (app intV (consM (var 4) nilM)) nilM)) (env0 5 [.lst (ns.map .int), .int b]) st = some (.ok (.lst (cs.map .int)), st) := by
    have es : sliceM (var 0) (part (var 1)) (part (ret (.int 62))) (env0 5 [.lst (ns.map .int), .int b]) st = some (.ok (.lst (ls.map .int)), st) := by
      unfold sliceM
      rw [bnd_ok (show (var 0) (env0 5 [.lst (ns.map .int), .int b]) st = some (.ok (.lst (ns.map .int)), st) from rfl)]
      rw [bnd_ok (show (part (var 1)) (env0 5 [.lst (ns.map .int), .int b]) st = some (.ok (some b), st) from rfl)]
      rw [bnd_ok (show (part (ret (.int 62))) (env0 5 [.lst (ns.map .int), .int b]) st = some (.ok (some 62), st) from rfl)]
      refine lift_ok ?_
      show some (Val.lst (cutL (ns.map Val.int) (some b) (some 62))) = _
      rw [cutL_map]
    have q := comp_map (mi := itS (sliceM (var 0) (part (var 1)) (part (ret (.int 62))))) (t := .name 4) (own := [4]) (elt := app absV' (consM (app intV (consM (var 4) nilM)) nilM)) (f := absF) (itS_ok es (xs := ls.map .int) rfl) (by rw [List.length_map]; exact Nat.le_trans hl (by decide)) fun x hx => by
      obtain ⟨i, _, rfl⟩ := List.mem_map.mp hx
      exact ⟨_, rfl, rfl⟩
    rw [abs_ints] at q
    exact q
  -- the loop
  have e2 : ∃ m e4, 0 ≤ m ∧ m < 2147483647 ∧ sFor (itS (var 2)) (.name 4) (sSet 3 (bin modV (app intV (consM (bin addV (bin addV (bin mulV (var 3) (ret (.int 39373))) (bin modV (app intV (consM (var 4) nilM)) (ret (.int 2147483587)))) (ret (.int 11))) nilM)) (ret (.int 2147483647))))
      [some (.lst (ns.map .int)), some (.int b), some (.lst (cs.map .int)), some (.int (86028121 + 29 * b)), none] st = some (.next, [some (.lst (ns.map .int)), some (.int b), some (.lst (cs.map .int)), some (.int m), e4], st) := by
    obtain ⟨env', st', e, m, e4, z, h2, h3, h4⟩ := sFor_inv (mi := itS (var 2)) (t := .name 4) (body := sSet 3 (bin modV (app intV (consM (bin addV (bin addV (bin mulV (var 3) (ret (.int 39373))) (bin modV (app intV (consM (var 4) nilM)) (ret (.int 2147483587)))) (ret (.int 11))) nilM)) (ret (.int 2147483647))))
      (fun _ env s => ∃ m e4, env = [some (.lst (ns.map .int)), some (.int b), some (.lst (cs.map .int)), some (.int m), e4] ∧ 0 ≤ m ∧ m < 2147483647 ∧ s = st) (xs := cs.map .int) (env := [some (.lst (ns.map .int)), some (.int b), some (.lst (cs.map .int)), some (.int (86028121 + 29 * b)), none]) (st := st) (s1 := st) (itS_ok (v := .lst (cs.map .int)) rfl rfl)
      ⟨_, none, rfl, by omega, by omega, rfl⟩ fun i x env s hx ⟨m, e4, z, h2, h3, h4⟩ => by
        subst z h4
        obtain ⟨y, _, rfl⟩ := List.mem_map.mp (List.mem_of_getElem? hx)
        refine ⟨_, rfl, _, _, .inl (sSet_ok (v := .int ((m * 39373 + y % 2147483587 + 11) % 2147483647)) ?_), _, some (.int y), rfl, Int.emod_nonneg _ (by decide), Int.emod_lt_of_pos _ (by decide), rfl⟩
        have small : small64 m = true := by
          unfold small64
          simp
          omega
        refine bin_ok (app_ok (consM_ok (bin_ok (bin_ok (bin_ok (x := .int m) (y := .int 39373) (z := .int (m * 39373)) rfl rfl ?_) (bin_ok (x := .int y) (y := .int 2147483587) (z := .int (y % 2147483587)) rfl rfl rfl) rfl) rfl rfl) nilM_ok) rfl) rfl rfl
        show (if (small64 m || small64 39373) = true then some (Val.int (m * 39373)) else none) = _
        rw [small]
        rfl
    subst z h4
    exact ⟨m, e4, h2, h3, e⟩
  obtain ⟨m, e4, m0, m1, e2⟩ := e2
  -- the great ones, turned
  have e3 : comp (itS (var 2)) (.name 4) [4] (asB (bin (cmpV fun i j => decide (j ≤ i)) (var 4) (bin powV (ret (.int 10)) (ret (.int 18))))) (var 4) [some (.lst (ns.map .int)), some (.int b), some (.lst (cs.map .int)), some (.int m), e4] st
      = some (.ok (.lst ((cs.filter fun i => decide ((10 : Int) ^ (18 : Int).toNat ≤ i)).map .int)), st) := by
    have q := comp_pure (mi := itS (var 2)) (t := .name 4) (own := [4]) (cond := asB (bin (cmpV fun i j => decide (j ≤ i)) (var 4) (bin powV (ret (.int 10)) (ret (.int 18))))) (elt := var 4) (p := isBig) (f := fun v => v) (env := [some (.lst (ns.map .int)), some (.int b), some (.lst (cs.map .int)), some (.int m), e4]) (st := st) (s1 := st) (xs := cs.map .int)
      (itS_ok (v := .lst (cs.map .int)) rfl rfl) (by rw [List.length_map]; exact Nat.le_trans hcs (by decide)) fun x hx => by
        obtain ⟨i, _, rfl⟩ := List.mem_map.mp hx
        exact ⟨_, rfl, rfl, fun _ => rfl⟩
    rw [List.map_id'', big_ints] at q
    · exact q
    · exact fun _ => rfl
  refine ⟨(st ++ [.lst (bs.map .int)]) ++ [.lst [.ref st.length, .int m]], [.lst (bs.map .int)] ++ [.lst [.ref st.length, .int m]], ?_, by rw [List.append_assoc], rfl, bs, ⟨m, ?_, m0, m1⟩, ?_, by omega, hbs⟩
  · refine callS_ret (e1 := [some (.lst (ns.map .int)), some (.int b), some (.lst (cs.map .int)), some (.int m), e4]) ?_
    unfold s_l_deal
    rw [sSeq_next (sSet_ok e1)]
    rw [sSeq_next (e1 := [some (.lst (ns.map .int)), some (.int b), some (.lst (cs.map .int)), some (.int (86028121 + 29 * b)), none]) (s1 := st) (sSet_ok (v := .int (86028121 + 29 * b)) (bin_ok rfl (bin_ok (x := .int 29) (y := .int b) (z := .int (29 * b)) rfl rfl rfl) rfl))]
    rw [sSeq_next e2]
    refine sRet_ok ?_
    have e5 : unS revVM (comp (itS (var 2)) (.name 4) [4] (asB (bin (cmpV fun i j => decide (j ≤ i)) (var 4) (bin powV (ret (.int 10)) (ret (.int 18))))) (var 4)) [some (.lst (ns.map .int)), some (.int b), some (.lst (cs.map .int)), some (.int m), e4] st
        = some (.ok (.ref st.length), st ++ [.lst (bs.map .int)]) := by
      unfold unS
      rw [bnd_ok e3]
      refine liftS_ok ?_
      show some (Val.ref st.length, st ++ [SO.lst (List.reverse (List.map Val.int _))]) = _
      rw [← List.map_reverse]
    have e6 := mkLstM_ok (consM_ok e5 (consM_ok (m := var 3) (v := .int m) rfl nilM_ok)) (by show 2 ≤ LIM; decide)
    rw [e6, List.length_append]
    rfl
  · rw [List.getElem?_append_right (by simp)]
    simp
  · rw [List.getElem?_append_left (by simp), List.getElem?_append_right (Nat.le_refl _)]
    simp
end LwA
namespace K12
open PySem PySem.Spec PyProof.Rows L2 Mi Pg LwA
/-! ### what each lambda gives -/
def seven : List Str := ["far", "near", "wait", "cut", "drop", "zzzz", "k"]
def outR : Option (Out × Mi.Env × Sto) → Option Val
  | some (.ret v, _, _) => some v
  | _ => none
theorem lamP_run {js : List Nat} {sT : M Val → S} {nT n : Nat} {mb : M Val} {env : Mi.Env} {st : Sto} {xs : List Val} {v : Val} (h0 : st[0]? = some SO.tb) (hc : caps env js = some xs) (hl : env.length = n) (hn : noRefs xs = true)
    (h : outR (sT (fun _ _ => mb (capE n js xs) []) (lamE0 nT .non) []) = some v) (hv : noRef v = true) : lamP js sT nT mb env st = some (.ok v, st) := by
  unfold lamP
  rw [h0, hc, hl]
  dsimp only
  rw [if_pos hn]
  generalize sT (fun _ _ => mb (capE n js xs) []) (lamE0 nT .non) [] = R at h ⊢
  match R, h with
  | some (.ret w, e, s), h =>
    cases h
    dsimp only
    rw [if_pos hv]
theorem F0 : ∀ a ∈ seven, outR (s_l_tried (fun _ _ => (makeP "Call" 7 c_Call_init [.str "wait", .int 1, .int 0] (consM (var 7) (consM (ret (.int 4)) (consM (ret (.int 3)) nilM)))) (capE 9 [7] [.str a]) []) (lamE0 3 .non) []) = some (.str (a ++ " 4 3 wait 1 0")) := by
  intro a h
  simp only [seven, List.mem_cons, List.not_mem_nil, or_false] at h
  rcases h with rfl | rfl | rfl | rfl | rfl | rfl | rfl <;> kernel_rfl
theorem F1 : ∀ a ∈ seven, outR (s_l_tried (fun _ _ => (makeP "Call" 7 c_Call_init [] (consM (var 7) (consM (ret (.int 1)) (consM (ret (.int 1)) (consM (ret (.str "cut")) (consM (ret (.int 4)) (consM (ret (.int 3)) nilM))))))) (capE 9 [7] [.str a]) []) (lamE0 3 .non) []) = some (.str (a ++ " 1 1 cut 4 3")) := by
  intro a h
  simp only [seven, List.mem_cons, List.not_mem_nil, or_false] at h
  rcases h with rfl | rfl | rfl | rfl | rfl | rfl | rfl <;> kernel_rfl
theorem F2 : ∀ a ∈ seven, outR (s_l_tried (fun _ _ => (makeP "Call" 7 c_Call_init [.str "wait", .int 1, .int 0] (consM (var 7) (consM (ret (.int 5)) (consM (ret (.int 4)) nilM)))) (capE 9 [7] [.str a]) []) (lamE0 3 .non) []) = some (.str "call distance") := by
  intro a h
  simp only [seven, List.mem_cons, List.not_mem_nil, or_false] at h
  rcases h with rfl | rfl | rfl | rfl | rfl | rfl | rfl <;> kernel_rfl
theorem F3 : ∀ a ∈ seven, outR (s_l_tried (fun _ _ => (makeP "Call" 7 c_Call_init [.int 1, .int 0] (consM (var 7) (consM (ret (.int 4)) (consM (ret (.int 4)) (consM (ret (.str "x")) nilM))))) (capE 9 [7] [.str a]) []) (lamE0 3 .non) []) = some (.str "call length") := by
  intro a h
  simp only [seven, List.mem_cons, List.not_mem_nil, or_false] at h
  rcases h with rfl | rfl | rfl | rfl | rfl | rfl | rfl <;> kernel_rfl
theorem F4 : outR (s_l_tried (fun _ _ => (makeP "Call" 7 c_Call_init [.str "wait", .int 1, .int 0] (consM (ret (.str "A")) (consM (ret (.int 0)) (consM (ret (.int 0)) nilM)))) (capE 9 [] []) []) (lamE0 3 .non) []) = some (.str "call name") := by kernel_rfl
theorem F5 : ∀ a ∈ seven, outR (s_l_tried (fun _ _ => (makeP "Call" 7 c_Call_init [] (consM (var 7) (consM (ret (.int 4)) (consM (ret (.int 3)) (consM (ret (.str "x")) (consM (ret (.int 0)) (consM (ret (.int 4)) nilM))))))) (capE 9 [7] [.str a]) []) (lamE0 3 .non) []) = some (.str "call busy") := by
  intro a h
  simp only [seven, List.mem_cons, List.not_mem_nil, or_false] at h
  rcases h with rfl | rfl | rfl | rfl | rfl | rfl | rfl <;> kernel_rfl
theorem F6 : ∀ a ∈ seven, outR (s_l_tried (fun _ _ => (makeP "Call" 7 c_Call_init [] (consM (var 7) (consM (ret (.int 4)) (consM (ret (.int 3)) (consM (ret (.str "drop")) (consM (ret (.int 5)) (consM (ret (.int 4)) nilM))))))) (capE 9 [7] [.str a]) []) (lamE0 3 .non) []) = some (.str "call least") := by
  intro a h
  simp only [seven, List.mem_cons, List.not_mem_nil, or_false] at h
  rcases h with rfl | rfl | rfl | rfl | rfl | rfl | rfl <;> kernel_rfl
theorem F7 : ∀ a ∈ seven, outR (s_l_tried (fun _ _ => (makeP "Call" 7 c_Call_init [.str "wait", .int 1, .int 0] (consM (var 7) (consM (ret (.bl true)) (consM (ret (.int 3)) nilM)))) (capE 9 [7] [.str a]) []) (lamE0 3 .non) []) = some (.str "call distance") := by
  intro a h
  simp only [seven, List.mem_cons, List.not_mem_nil, or_false] at h
  rcases h with rfl | rfl | rfl | rfl | rfl | rfl | rfl <;> kernel_rfl
theorem F8 : ∀ a ∈ seven, outR (s_l_tried (fun _ _ => (makeP "Call" 7 c_Call_init [] (consM (var 7) (consM (ret (.int 4)) (consM (ret (.int 3)) (consM (ret (.str "drop")) (consM (ret (.int 4)) (consM (ret (.int 4)) nilM))))))) (capE 9 [7] [.str a]) []) (lamE0 3 .non) []) = some (.str "call joins") := by
  intro a h
  simp only [seven, List.mem_cons, List.not_mem_nil, or_false] at h
  rcases h with rfl | rfl | rfl | rfl | rfl | rfl | rfl <;> kernel_rfl
theorem F9 : ∀ a ∈ seven, ∀ b : Str, b ∈ seven → outR (s_l_tried (fun _ _ => (cmthP "Voice" 2 c_Voice_read (consM (bin addV (bin idxV (var 4) (ret (.int 0))) (ret (.str "\n"))) nilM)) (capE 9 [4] [.lst [.str (a ++ " 2 1 wait 1 0"), .str (b ++ " 3 2 drop 2 1")]]) []) (lamE0 3 .non) []) = some (.str "line 1") := by
  intro a h b g
  simp only [seven, List.mem_cons, List.not_mem_nil, or_false] at h g
  rcases h with rfl | rfl | rfl | rfl | rfl | rfl | rfl <;> rcases g with rfl | rfl | rfl | rfl | rfl | rfl | rfl <;> kernel_rfl
theorem F10 : ∀ a ∈ seven, ∀ b : Str, b ∈ seven → outR (s_l_tried (fun _ _ => (cmthP "Voice" 2 c_Voice_read (consM (bin addV (bin addV (bin idxV (var 4) (ret (.int 0))) (ret (.str "\n"))) (bin idxV (var 4) (ret (.int 0)))) nilM)) (capE 9 [4] [.lst [.str (a ++ " 2 1 wait 1 0"), .str (b ++ " 3 2 drop 2 1")]]) []) (lamE0 3 .non) []) = some (.str "voice names") := by
  intro a h b g
  simp only [seven, List.mem_cons, List.not_mem_nil, or_false] at h g
  rcases h with rfl | rfl | rfl | rfl | rfl | rfl | rfl <;> rcases g with rfl | rfl | rfl | rfl | rfl | rfl | rfl <;> kernel_rfl
theorem F11 : outR (s_l_tried (fun _ _ => (makeP "Voice" 2 c_Voice_init [] (consM (mkLst nilM) nilM)) (capE 9 [] []) []) (lamE0 3 .non) []) = some (.str "voice calls") := by kernel_rfl
end K12
namespace Dw
open PySem Mi
open L2 (atI atI_last ixN)
/-- how things stand between the turns of a law: the script, the draws -/
structure TS (N : Nat) (sc : Val) (D c : Nat) (env : Mi.Env) (st : Sto) : Prop where
  hl : env.length = N
  h0 : env[0]? = some (some sc)
  h1 : env[1]? = some (some (.ref D))
  d : Dl st D c
theorem TS.set {N D c : Nat} {sc : Val} {env : Mi.Env} {st : Sto} (T : TS N sc D c env st) {i : Nat} {v : Option Val} (hi : 1 < i) : TS N sc D c (env.set i v) st :=
  ⟨by rw [List.length_set]; exact T.hl, by rw [g_ne (by omega)]; exact T.h0, by rw [g_ne (by omega)]; exact T.h1, T.d⟩
end Dw
namespace K12
open PySem Mi Pg LwA Dw
open L2 (atI atI_last ixN)
/-! ### what was told, in the store -/
structure TI (sc : Val) (a b : Str) (e : Mi.Env) (st : Sto) : Prop where
  len : e.length = 9
  h0 : e[0]? = some (some sc)
  h7 : e[7]? = some (some (.str a))
  h8 : e[8]? = some (some (.str b))
  ht : st[0]? = some SO.tb
def Told (e : Mi.Env) (st : Sto) (xs : List Val) : Prop := ∃ i, e[3]? = some (some (.ref i)) ∧ st[i]? = some (.lst xs)
variable {sc v : Val} {a b : Str} {e : Mi.Env} {st : Sto} {L m : M Val} {xs : List Val}
theorem TI.caps (T : TI sc a b e st) : caps e [7] = some [.str a] := by
  unfold Mi.caps Mi.caps
  rw [T.h7]
theorem new_ok (T : TI sc a b e st) (h : L e st = some (.ok v, st)) : sSet 3 (mkLstM (consM L nilM)) e st = some (.next, e.set 3 (some (.ref st.length)), st ++ [.lst [v]]) ∧ TI sc a b (e.set 3 (some (.ref st.length))) (st ++ [.lst [v]]) ∧ Told (e.set 3 (some (.ref st.length))) (st ++ [.lst [v]]) [v] := by
  have l0 : 0 < st.length := Dw.at_lt T.ht
  refine ⟨sSet_ok (mkLstM_ok (consM_ok h nilM_ok) (by show 1 ≤ 16000000; decide)), ⟨by rw [List.length_set]; exact T.len, ?_, ?_, ?_, ?_⟩, st.length, g_eq (by rw [T.len]; decide), ?_⟩
  · rw [g_ne (by decide)]; exact T.h0
  · rw [g_ne (by decide)]; exact T.h7
  · rw [g_ne (by decide)]; exact T.h8
  · rw [List.getElem?_append_left l0]; exact T.ht
  · rw [List.getElem?_append_right (Nat.le_refl _), Nat.sub_self]
    rfl
theorem app_ok' (T : TI sc a b e st) (Z : Told e st xs) (hl : xs.length ≤ 10) (h : L e st = some (.ok v, st)) : ∃ st', sExpr (lm appendV (var 3) (consM L nilM)) e st = some (.next, e, st') ∧ TI sc a b e st' ∧ Told e st' (xs ++ [v]) := by
  obtain ⟨i, h3, hi⟩ := Z
  have n0 : i ≠ 0 := fun z => by
    rw [z, T.ht] at hi
    cases hi
  refine ⟨_, sExpr_ok (lm_ok (x := .ref i) (Mi.var_at h3) (lstOf_ref hi) (consM_ok h nilM_ok) (app_ref hi (by omega))), ⟨T.len, T.h0, T.h7, T.h8, ?_⟩, i, h3, List.getElem?_set_self (Dw.at_lt hi)⟩
  rw [List.getElem?_set_ne n0]
  exact T.ht
theorem ne_told {tab : Str → Option CF} {i : Nat} {ys : List Val} {q : Bool} (h : st[i]? = some (.lst xs)) (q0 : neV [] (.lst xs) (.lst ys) = some (.bl q)) : neO tab st (.ref i) (.lst ys) = some (.bl q) := by
  unfold neO
  have c0 : clsAt st (.ref i) = none := by
    unfold clsAt
    dsimp only
    rw [h]
  rw [c0]
  dsimp only
  rw [← q0]
  show neD st (.ref i) (.lst ys) = neD [] (.lst xs) (.lst ys)
  unfold neD
  have t0 : toD st (.ref i) = toD [] (.lst xs) := by
    unfold toD
    dsimp only
    rw [h]
    rfl
  rw [t0]
  rfl
theorem neq_ok {tab : Str → Option CF} {s : S} (Z : Told e st xs) (hm : m e st = some (.ok (.lst xs), st)) (q : neV [] (.lst xs) (.lst xs) = some (.bl false)) : sIf (asB (bin (neO tab) (var 3) m)) s sNext e st = some (.next, e, st) := by
  obtain ⟨i, h3, hi⟩ := Z
  rw [sIf_false (asB_ok (bin_ok (Mi.var_at h3) hm (ne_told hi q)))]
  rfl
end K12
namespace K12
open PySem Mi Pg LwA Dw
open L2 (atI atI_last ixN)
/-! ### the written voice of two calls -/
def linesV (a b : Str) : Val := .lst [.str (a ++ " 2 1 wait 1 0"), .str (b ++ " 3 2 drop 2 1")]
def outO : Option (Except Exc Val × Sto) → Val
  | some (.ok v, _) => v
  | _ => .non
def txt (a b : Str) : Str := (a ++ " 2 1 wait 1 0") ++ "\n" ++ (b ++ " 3 2 drop 2 1")
def txt2 (a b : Str) : Str := (b ++ " 3 2 drop 2 1") ++ "\n" ++ (a ++ " 2 1 wait 1 0")
def voV (a b : Str) : Val := outO (c_Voice_read [.cls "Voice", .str (txt a b)] [])
def tuV (a b : Str) : Val := outO (c_Voice_read [.cls "Voice", .str (txt2 a b)] [])
variable {x0 x1 x2 x3 x4 x5 x6 : Option Val} {st : Sto} {a b : Str}
theorem g14 : ∀ a ∈ seven, ∀ b ∈ seven, (sSet 4 (mkLst (consM (bin addV (var 7) (ret (.str " 2 1 wait 1 0"))) (consM (bin addV (var 8) (ret (.str " 3 2 drop 2 1"))) nilM)))) [x0, x1, x2, x3, x4, x5, x6, some (.str a), some (.str b)] st = some (.next, [x0, x1, x2, x3, some (linesV a b), x5, x6, some (.str a), some (.str b)], st) := by
  intro a h b g
  simp only [seven, List.mem_cons, List.not_mem_nil, or_false] at h g
  rcases h with rfl | rfl | rfl | rfl | rfl | rfl | rfl <;> rcases g with rfl | rfl | rfl | rfl | rfl | rfl | rfl <;> kernel_rfl
end K12
namespace K12
open PySem Mi Pg LwA Dw
open L2 (atI atI_last ixN)
variable {x0 x1 x2 x3 x4 x5 x6 : Option Val} {st : Sto} {a b : Str}
theorem g15_0 {a : Str} (e : a = "far") : ∀ b ∈ seven, a ≠ b → (sSet 5 (cmthP "Voice" 2 c_Voice_read (consM (m1 joinV (ret (.str "\n")) (var 4)) nilM))) [x0, x1, x2, x3, some (linesV a b), x5, x6, some (.str a), some (.str b)] st = some (.next, [x0, x1, x2, x3, some (linesV a b), some (voV a b), x6, some (.str a), some (.str b)], st) := by
  subst e
  intro b g n
  simp only [seven, List.mem_cons, List.not_mem_nil, or_false] at g
  rcases g with rfl | rfl | rfl | rfl | rfl | rfl | rfl
  · exact absurd rfl n
  · kernel_rfl
  · kernel_rfl
  · kernel_rfl
  · kernel_rfl
  · kernel_rfl
  · kernel_rfl
theorem g15_1 {a : Str} (e : a = "near") : ∀ b ∈ seven, a ≠ b → (sSet 5 (cmthP "Voice" 2 c_Voice_read (consM (m1 joinV (ret (.str "\n")) (var 4)) nilM))) [x0, x1, x2, x3, some (linesV a b), x5, x6, some (.str a), some (.str b)] st = some (.next, [x0, x1, x2, x3, some (linesV a b), some (voV a b), x6, some (.str a), some (.str b)], st) := by
  subst e
  intro b g n
  simp only [seven, List.mem_cons, List.not_mem_nil, or_false] at g
  rcases g with rfl | rfl | rfl | rfl | rfl | rfl | rfl
  · kernel_rfl
  · exact absurd rfl n
  · kernel_rfl
  · kernel_rfl
  · kernel_rfl
  · kernel_rfl
  · kernel_rfl
theorem g15_2 {a : Str} (e : a = "wait") : ∀ b ∈ seven, a ≠ b → (sSet 5 (cmthP "Voice" 2 c_Voice_read (consM (m1 joinV (ret (.str "\n")) (var 4)) nilM))) [x0, x1, x2, x3, some (linesV a b), x5, x6, some (.str a), some (.str b)] st = some (.next, [x0, x1, x2, x3, some (linesV a b), some (voV a b), x6, some (.str a), some (.str b)], st) := by
  subst e
  intro b g n
  simp only [seven, List.mem_cons, List.not_mem_nil, or_false] at g
  rcases g with rfl | rfl | rfl | rfl | rfl | rfl | rfl
  · kernel_rfl
  · kernel_rfl
  · exact absurd rfl n
  · kernel_rfl
  · kernel_rfl
  · kernel_rfl
  · kernel_rfl
theorem g15_3 {a : Str} (e : a = "cut") : ∀ b ∈ seven, a ≠ b → (sSet 5 (cmthP "Voice" 2 c_Voice_read (consM (m1 joinV (ret (.str "\n")) (var 4)) nilM))) [x0, x1, x2, x3, some (linesV a b), x5, x6, some (.str a), some (.str b)] st = some (.next, [x0, x1, x2, x3, some (linesV a b), some (voV a b), x6, some (.str a), some (.str b)], st) := by
  subst e
  intro b g n
  simp only [seven, List.mem_cons, List.not_mem_nil, or_false] at g
  rcases g with rfl | rfl | rfl | rfl | rfl | rfl | rfl
  · kernel_rfl
  · kernel_rfl
  · kernel_rfl
  · exact absurd rfl n
  · kernel_rfl
  · kernel_rfl
  · kernel_rfl
theorem g15_4 {a : Str} (e : a = "drop") : ∀ b ∈ seven, a ≠ b → (sSet 5 (cmthP "Voice" 2 c_Voice_read (consM (m1 joinV (ret (.str "\n")) (var 4)) nilM))) [x0, x1, x2, x3, some (linesV a b), x5, x6, some (.str a), some (.str b)] st = some (.next, [x0, x1, x2, x3, some (linesV a b), some (voV a b), x6, some (.str a), some (.str b)], st) := by
  subst e
  intro b g n
  simp only [seven, List.mem_cons, List.not_mem_nil, or_false] at g
  rcases g with rfl | rfl | rfl | rfl | rfl | rfl | rfl
  · kernel_rfl
  · kernel_rfl
  · kernel_rfl
  · kernel_rfl
  · exact absurd rfl n
  · kernel_rfl
  · kernel_rfl
theorem g15_5 {a : Str} (e : a = "zzzz") : ∀ b ∈ seven, a ≠ b → (sSet 5 (cmthP "Voice" 2 c_Voice_read (consM (m1 joinV (ret (.str "\n")) (var 4)) nilM))) [x0, x1, x2, x3, some (linesV a b), x5, x6, some (.str a), some (.str b)] st = some (.next, [x0, x1, x2, x3, some (linesV a b), some (voV a b), x6, some (.str a), some (.str b)], st) := by
  subst e
  intro b g n
  simp only [seven, List.mem_cons, List.not_mem_nil, or_false] at g
  rcases g with rfl | rfl | rfl | rfl | rfl | rfl | rfl
  · kernel_rfl
  · kernel_rfl
  · kernel_rfl
  · kernel_rfl
  · kernel_rfl
  · exact absurd rfl n
  · kernel_rfl
theorem g15_6 {a : Str} (e : a = "k") : ∀ b ∈ seven, a ≠ b → (sSet 5 (cmthP "Voice" 2 c_Voice_read (consM (m1 joinV (ret (.str "\n")) (var 4)) nilM))) [x0, x1, x2, x3, some (linesV a b), x5, x6, some (.str a), some (.str b)] st = some (.next, [x0, x1, x2, x3, some (linesV a b), some (voV a b), x6, some (.str a), some (.str b)], st) := by
  subst e
  intro b g n
  simp only [seven, List.mem_cons, List.not_mem_nil, or_false] at g
  rcases g with rfl | rfl | rfl | rfl | rfl | rfl | rfl
  · kernel_rfl
  · kernel_rfl
  · kernel_rfl
  · kernel_rfl
  · kernel_rfl
  · kernel_rfl
  · exact absurd rfl n
theorem g15 : ∀ a ∈ seven, ∀ b ∈ seven, a ≠ b → (sSet 5 (cmthP "Voice" 2 c_Voice_read (consM (m1 joinV (ret (.str "\n")) (var 4)) nilM))) [x0, x1, x2, x3, some (linesV a b), x5, x6, some (.str a), some (.str b)] st = some (.next, [x0, x1, x2, x3, some (linesV a b), some (voV a b), x6, some (.str a), some (.str b)], st) := by
  intro a h
  simp only [seven, List.mem_cons, List.not_mem_nil, or_false] at h
  rcases h with e | e | e | e | e | e | e
  · exact g15_0 e
  · exact g15_1 e
  · exact g15_2 e
  · exact g15_3 e
  · exact g15_4 e
  · exact g15_5 e
  · exact g15_6 e
end K12
namespace K12
open PySem Mi Pg LwA Dw
open L2 (atI atI_last ixN)
variable {x0 x1 x2 x3 x4 x5 x6 : Option Val} {st : Sto} {a b : Str}
theorem g16_0 {a : Str} (e : a = "far") : ∀ b ∈ seven, a ≠ b → (sIf (orB (asB (bin (neO (ownT [("Call", c_Call_eq), ("Voice", c_Voice_eq)])) (un (fldV (ownL ["Voice"]) "reach") (var 5)) (ret (.int 3)))) (orB (asB (bin (neO (ownT [("Call", c_Call_eq), ("Voice", c_Voice_eq)])) (un (fldV (ownL ["Voice"]) "names") (var 5)) (mkTup (consM (var 7) (consM (var 8) nilM))))) (orB (asB (bin (neO (ownT [("Call", c_Call_eq), ("Voice", c_Voice_eq)])) (un (fldV (ownL ["Voice"]) "reach") (methP "Voice" "without" 2 c_Voice_without [] (var 5) (consM (ret (.int 1)) nilM))) (ret (.int 2)))) (asB (bin (neO (ownT [("Call", c_Call_eq), ("Voice", c_Voice_eq)])) (app (own1 ownS strV (ownT [("Call", c_Call_str), ("Voice", c_Voice_str)])) (consM (var 5) nilM)) (m1 joinV (ret (.str "\n")) (var 4))))))) (sRet (ret (.bl false))) sNext) [x0, x1, x2, x3, some (linesV a b), some (voV a b), x6, some (.str a), some (.str b)] st = some (.next, [x0, x1, x2, x3, some (linesV a b), some (voV a b), x6, some (.str a), some (.str b)], st) := by
  subst e
  intro b g n
  simp only [seven, List.mem_cons, List.not_mem_nil, or_false] at g
  rcases g with rfl | rfl | rfl | rfl | rfl | rfl | rfl
  · exact absurd rfl n
  · kernel_rfl
  · kernel_rfl
  · kernel_rfl
  · kernel_rfl
  · kernel_rfl
  · kernel_rfl
theorem g16_1 {a : Str} (e : a = "near") : ∀ b ∈ seven, a ≠ b → (sIf (orB (asB (bin (neO (ownT [("Call", c_Call_eq), ("Voice", c_Voice_eq)])) (un (fldV (ownL ["Voice"]) "reach") (var 5)) (ret (.int 3)))) (orB (asB (bin (neO (ownT [("Call", c_Call_eq), ("Voice", c_Voice_eq)])) (un (fldV (ownL ["Voice"]) "names") (var 5)) (mkTup (consM (var 7) (consM (var 8) nilM))))) (orB (asB (bin (neO (ownT [("Call", c_Call_eq), ("Voice", c_Voice_eq)])) (un (fldV (ownL ["Voice"]) "reach") (methP "Voice" "without" 2 c_Voice_without [] (var 5) (consM (ret (.int 1)) nilM))) (ret (.int 2)))) (asB (bin (neO (ownT [("Call", c_Call_eq), ("Voice", c_Voice_eq)])) (app (own1 ownS strV (ownT [("Call", c_Call_str), ("Voice", c_Voice_str)])) (consM (var 5) nilM)) (m1 joinV (ret (.str "\n")) (var 4))))))) (sRet (ret (.bl false))) sNext) [x0, x1, x2, x3, some (linesV a b), some (voV a b), x6, some (.str a), some (.str b)] st = some (.next, [x0, x1, x2, x3, some (linesV a b), some (voV a b), x6, some (.str a), some (.str b)], st) := by
  subst e
  intro b g n
  simp only [seven, List.mem_cons, List.not_mem_nil, or_false] at g
  rcases g with rfl | rfl | rfl | rfl | rfl | rfl | rfl
  · kernel_rfl
  · exact absurd rfl n
  · kernel_rfl
  · kernel_rfl
  · kernel_rfl
  · kernel_rfl
  · kernel_rfl
theorem g16_2 {a : Str} (e : a = "wait") : ∀ b ∈ seven, a ≠ b → (sIf (orB (asB (bin (neO (ownT [("Call", c_Call_eq), ("Voice", c_Voice_eq)])) (un (fldV (ownL ["Voice"]) "reach") (var 5)) (ret (.int 3)))) (orB (asB (bin (neO (ownT [("Call", c_Call_eq), ("Voice", c_Voice_eq)])) (un (fldV (ownL ["Voice"]) "names") (var 5)) (mkTup (consM (var 7) (consM (var 8) nilM))))) (orB (asB (bin (neO (ownT [("Call", c_Call_eq), ("Voice", c_Voice_eq)])) (un (fldV (ownL ["Voice"]) "reach") (methP "Voice" "without" 2 c_Voice_without [] (var 5) (consM (ret (.int 1)) nilM))) (ret (.int 2)))) (asB (bin (neO (ownT [("Call", c_Call_eq), ("Voice", c_Voice_eq)])) (app (own1 ownS strV (ownT [("Call", c_Call_str), ("Voice", c_Voice_str)])) (consM (var 5) nilM)) (m1 joinV (ret (.str "\n")) (var 4))))))) (sRet (ret (.bl false))) sNext) [x0, x1, x2, x3, some (linesV a b), some (voV a b), x6, some (.str a), some (.str b)] st = some (.next, [x0, x1, x2, x3, some (linesV a b), some (voV a b), x6, some (.str a), some (.str b)], st) := by
  subst e
  intro b g n
  simp only [seven, List.mem_cons, List.not_mem_nil, or_false] at g
  rcases g with rfl | rfl | rfl | rfl | rfl | rfl | rfl
  · kernel_rfl
  · kernel_rfl
  · exact absurd rfl n
  · kernel_rfl
  · kernel_rfl
  · kernel_rfl
  · kernel_rfl
theorem g16_3 {a : Str} (e : a = "cut") : ∀ b ∈ seven, a ≠ b → (sIf (orB (asB (bin (neO (ownT [("Call", c_Call_eq), ("Voice", c_Voice_eq)])) (un (fldV (ownL ["Voice"]) "reach") (var 5)) (ret (.int 3)))) (orB (asB (bin (neO (ownT [("Call", c_Call_eq), ("Voice", c_Voice_eq)])) (un (fldV (ownL ["Voice"]) "names") (var 5)) (mkTup (consM (var 7) (consM (var 8) nilM))))) (orB (asB (bin (neO (ownT [("Call", c_Call_eq), ("Voice", c_Voice_eq)])) (un (fldV (ownL ["Voice"]) "reach") (methP "Voice" "without" 2 c_Voice_without [] (var 5) (consM (ret (.int 1)) nilM))) (ret (.int 2)))) (asB (bin (neO (ownT [("Call", c_Call_eq), ("Voice", c_Voice_eq)])) (app (own1 ownS strV (ownT [("Call", c_Call_str), ("Voice", c_Voice_str)])) (consM (var 5) nilM)) (m1 joinV (ret (.str "\n")) (var 4))))))) (sRet (ret (.bl false))) sNext) [x0, x1, x2, x3, some (linesV a b), some (voV a b), x6, some (.str a), some (.str b)] st = some (.next, [x0, x1, x2, x3, some (linesV a b), some (voV a b), x6, some (.str a), some (.str b)], st) := by
  subst e
  intro b g n
  simp only [seven, List.mem_cons, List.not_mem_nil, or_false] at g
  rcases g with rfl | rfl | rfl | rfl | rfl | rfl | rfl
  · kernel_rfl
  · kernel_rfl
  · kernel_rfl
  · exact absurd rfl n
  · kernel_rfl
  · kernel_rfl
  · kernel_rfl
theorem g16_4 {a : Str} (e : a = "drop") : ∀ b ∈ seven, a ≠ b → (sIf (orB (asB (bin (neO (ownT [("Call", c_Call_eq), ("Voice", c_Voice_eq)])) (un (fldV (ownL ["Voice"]) "reach") (var 5)) (ret (.int 3)))) (orB (asB (bin (neO (ownT [("Call", c_Call_eq), ("Voice", c_Voice_eq)])) (un (fldV (ownL ["Voice"]) "names") (var 5)) (mkTup (consM (var 7) (consM (var 8) nilM))))) (orB (asB (bin (neO (ownT [("Call", c_Call_eq), ("Voice", c_Voice_eq)])) (un (fldV (ownL ["Voice"]) "reach") (methP "Voice" "without" 2 c_Voice_without [] (var 5) (consM (ret (.int 1)) nilM))) (ret (.int 2)))) (asB (bin (neO (ownT [("Call", c_Call_eq), ("Voice", c_Voice_eq)])) (app (own1 ownS strV (ownT [("Call", c_Call_str), ("Voice", c_Voice_str)])) (consM (var 5) nilM)) (m1 joinV (ret (.str "\n")) (var 4))))))) (sRet (ret (.bl false))) sNext) [x0, x1, x2, x3, some (linesV a b), some (voV a b), x6, some (.str a), some (.str b)] st = some (.next, [x0, x1, x2, x3, some (linesV a b), some (voV a b), x6, some (.str a), some (.str b)], st) := by
  subst e
  intro b g n
  simp only [seven, List.mem_cons, List.not_mem_nil, or_false] at g
  rcases g with rfl | rfl | rfl | rfl | rfl | rfl | rfl
  · kernel_rfl
  · kernel_rfl
  · kernel_rfl
  · kernel_rfl
  · exact absurd rfl n
  · kernel_rfl
  · kernel_rfl
theorem g16_5 {a : Str} (e : a = "zzzz") : ∀ b ∈ seven, a ≠ b → (sIf (orB (asB (bin (neO (ownT [("Call", c_Call_eq), ("Voice", c_Voice_eq)])) (un (fldV (ownL ["Voice"]) "reach") (var 5)) (ret (.int 3)))) (orB (asB (bin (neO (ownT [("Call", c_Call_eq), ("Voice", c_Voice_eq)])) (un (fldV (ownL ["Voice"]) "names") (var 5)) (mkTup (consM (var 7) (consM (var 8) nilM))))) (orB (asB (bin (neO (ownT [("Call", c_Call_eq), ("Voice", c_Voice_eq)])) (un (fldV (ownL ["Voice"]) "reach") (methP "Voice" "without" 2 c_Voice_without [] (var 5) (consM (ret (.int 1)) nilM))) (ret (.int 2)))) (asB (bin (neO (ownT [("Call", c_Call_eq), ("Voice", c_Voice_eq)])) (app (own1 ownS strV (ownT [("Call", c_Call_str), ("Voice", c_Voice_str)])) (consM (var 5) nilM)) (m1 joinV (ret (.str "\n")) (var 4))))))) (sRet (ret (.bl false))) sNext) [x0, x1, x2, x3, some (linesV a b), some (voV a b), x6, some (.str a), some (.str b)] st = some (.next, [x0, x1, x2, x3, some (linesV a b), some (voV a b), x6, some (.str a), some (.str b)], st) := by
  subst e
  intro b g n
  simp only [seven, List.mem_cons, List.not_mem_nil, or_false] at g
  rcases g with rfl | rfl | rfl | rfl | rfl | rfl | rfl
  · kernel_rfl
  · kernel_rfl
  · kernel_rfl
  · kernel_rfl
  · kernel_rfl
  · exact absurd rfl n
  · kernel_rfl
theorem g16_6 {a : Str} (e : a = "k") : ∀ b ∈ seven, a ≠ b → (sIf (orB (asB (bin (neO (ownT [("Call", c_Call_eq), ("Voice", c_Voice_eq)])) (un (fldV (ownL ["Voice"]) "reach") (var 5)) (ret (.int 3)))) (orB (asB (bin (neO (ownT [("Call", c_Call_eq), ("Voice", c_Voice_eq)])) (un (fldV (ownL ["Voice"]) "names") (var 5)) (mkTup (consM (var 7) (consM (var 8) nilM))))) (orB (asB (bin (neO (ownT [("Call", c_Call_eq), ("Voice", c_Voice_eq)])) (un (fldV (ownL ["Voice"]) "reach") (methP "Voice" "without" 2 c_Voice_without [] (var 5) (consM (ret (.int 1)) nilM))) (ret (.int 2)))) (asB (bin (neO (ownT [("Call", c_Call_eq), ("Voice", c_Voice_eq)])) (app (own1 ownS strV (ownT [("Call", c_Call_str), ("Voice", c_Voice_str)])) (consM (var 5) nilM)) (m1 joinV (ret (.str "\n")) (var 4))))))) (sRet (ret (.bl false))) sNext) [x0, x1, x2, x3, some (linesV a b), some (voV a b), x6, some (.str a), some (.str b)] st = some (.next, [x0, x1, x2, x3, some (linesV a b), some (voV a b), x6, some (.str a), some (.str b)], st) := by
  subst e
  intro b g n
  simp only [seven, List.mem_cons, List.not_mem_nil, or_false] at g
  rcases g with rfl | rfl | rfl | rfl | rfl | rfl | rfl
  · kernel_rfl
  · kernel_rfl
  · kernel_rfl
  · kernel_rfl
  · kernel_rfl
  · kernel_rfl
  · exact absurd rfl n
theorem g16 : ∀ a ∈ seven, ∀ b ∈ seven, a ≠ b → (sIf (orB (asB (bin (neO (ownT [("Call", c_Call_eq), ("Voice", c_Voice_eq)])) (un (fldV (ownL ["Voice"]) "reach") (var 5)) (ret (.int 3)))) (orB (asB (bin (neO (ownT [("Call", c_Call_eq), ("Voice", c_Voice_eq)])) (un (fldV (ownL ["Voice"]) "names") (var 5)) (mkTup (consM (var 7) (consM (var 8) nilM))))) (orB (asB (bin (neO (ownT [("Call", c_Call_eq), ("Voice", c_Voice_eq)])) (un (fldV (ownL ["Voice"]) "reach") (methP "Voice" "without" 2 c_Voice_without [] (var 5) (consM (ret (.int 1)) nilM))) (ret (.int 2)))) (asB (bin (neO (ownT [("Call", c_Call_eq), ("Voice", c_Voice_eq)])) (app (own1 ownS strV (ownT [("Call", c_Call_str), ("Voice", c_Voice_str)])) (consM (var 5) nilM)) (m1 joinV (ret (.str "\n")) (var 4))))))) (sRet (ret (.bl false))) sNext) [x0, x1, x2, x3, some (linesV a b), some (voV a b), x6, some (.str a), some (.str b)] st = some (.next, [x0, x1, x2, x3, some (linesV a b), some (voV a b), x6, some (.str a), some (.str b)], st) := by
  intro a h
  simp only [seven, List.mem_cons, List.not_mem_nil, or_false] at h
  rcases h with e | e | e | e | e | e | e
  · exact g16_0 e
  · exact g16_1 e
  · exact g16_2 e
  · exact g16_3 e
  · exact g16_4 e
  · exact g16_5 e
  · exact g16_6 e
end K12
namespace K12
open PySem Mi Pg LwA Dw
open L2 (atI atI_last ixN)
variable {x0 x1 x2 x3 x4 x5 x6 : Option Val} {st : Sto} {a b : Str}
theorem g17_0 {a : Str} (e : a = "far") : ∀ b ∈ seven, a ≠ b → (sSet 6 (cmthP "Voice" 2 c_Voice_read (consM (m1 joinV (ret (.str "\n")) (un revV (var 4))) nilM))) [x0, x1, x2, x3, some (linesV a b), some (voV a b), x6, some (.str a), some (.str b)] st = some (.next, [x0, x1, x2, x3, some (linesV a b), some (voV a b), some (tuV a b), some (.str a), some (.str b)], st) := by
  subst e
  intro b g n
  simp only [seven, List.mem_cons, List.not_mem_nil, or_false] at g
  rcases g with rfl | rfl | rfl | rfl | rfl | rfl | rfl
  · exact absurd rfl n
  · kernel_rfl
  · kernel_rfl
  · kernel_rfl
  · kernel_rfl
  · kernel_rfl
  · kernel_rfl
theorem g17_1 {a : Str} (e : a = "near") : ∀ b ∈ seven, a ≠ b → (sSet 6 (cmthP "Voice" 2 c_Voice_read (consM (m1 joinV (ret (.str "\n")) (un revV (var 4))) nilM))) [x0, x1, x2, x3, some (linesV a b), some (voV a b), x6, some (.str a), some (.str b)] st = some (.next, [x0, x1, x2, x3, some (linesV a b), some (voV a b), some (tuV a b), some (.str a), some (.str b)], st) := by
  subst e
  intro b g n
  simp only [seven, List.mem_cons, List.not_mem_nil, or_false] at g
  rcases g with rfl | rfl | rfl | rfl | rfl | rfl | rfl
  · kernel_rfl
  · exact absurd rfl n
  · kernel_rfl
  · kernel_rfl
  · kernel_rfl
  · kernel_rfl
  · kernel_rfl
theorem g17_2 {a : Str} (e : a = "wait") : ∀ b ∈ seven, a ≠ b → (sSet 6 (cmthP "Voice" 2 c_Voice_read (consM (m1 joinV (ret (.str "\n")) (un revV (var 4))) nilM))) [x0, x1, x2, x3, some (linesV a b), some (voV a b), x6, some (.str a), some (.str b)] st = some (.next, [x0, x1, x2, x3, some (linesV a b), some (voV a b), some (tuV a b), some (.str a), some (.str b)], st) := by
  subst e
  intro b g n
  simp only [seven, List.mem_cons, List.not_mem_nil, or_false] at g
  rcases g with rfl | rfl | rfl | rfl | rfl | rfl | rfl
  · kernel_rfl
  · kernel_rfl
  · exact absurd rfl n
  · kernel_rfl
  · kernel_rfl
  · kernel_rfl
  · kernel_rfl
theorem g17_3 {a : Str} (e : a = "cut") : ∀ b ∈ seven, a ≠ b → (sSet 6 (cmthP "Voice" 2 c_Voice_read (consM (m1 joinV (ret (.str "\n")) (un revV (var 4))) nilM))) [x0, x1, x2, x3, some (linesV a b), some (voV a b), x6, some (.str a), some (.str b)] st = some (.next, [x0, x1, x2, x3, some (linesV a b), some (voV a b), some (tuV a b), some (.str a), some (.str b)], st) := by
  subst e
  intro b g n
  simp only [seven, List.mem_cons, List.not_mem_nil, or_false] at g
  rcases g with rfl | rfl | rfl | rfl | rfl | rfl | rfl
  · kernel_rfl
  · kernel_rfl
  · kernel_rfl
  · exact absurd rfl n
  · kernel_rfl
  · kernel_rfl
  · kernel_rfl
theorem g17_4 {a : Str} (e : a = "drop") : ∀ b ∈ seven, a ≠ b → (sSet 6 (cmthP "Voice" 2 c_Voice_read (consM (m1 joinV (ret (.str "\n")) (un revV (var 4))) nilM))) [x0, x1, x2, x3, some (linesV a b), some (voV a b), x6, some (.str a), some (.str b)] st = some (.next, [x0, x1, x2, x3, some (linesV a b), some (voV a b), some (tuV a b), some (.str a), some (.str b)], st) := by
  subst e
  intro b g n
  simp only [seven, List.mem_cons, List.not_mem_nil, or_false] at g
  rcases g with rfl | rfl | rfl | rfl | rfl | rfl | rfl
  · kernel_rfl
  · kernel_rfl
  · kernel_rfl
  · kernel_rfl
  · exact absurd rfl n
  · kernel_rfl
  · kernel_rfl
theorem g17_5 {a : Str} (e : a = "zzzz") : ∀ b ∈ seven, a ≠ b → (sSet 6 (cmthP "Voice" 2 c_Voice_read (consM (m1 joinV (ret (.str "\n")) (un revV (var 4))) nilM))) [x0, x1, x2, x3, some (linesV a b), some (voV a b), x6, some (.str a), some (.str b)] st = some (.next, [x0, x1, x2, x3, some (linesV a b), some (voV a b), some (tuV a b), some (.str a), some (.str b)], st) := by
  subst e
  intro b g n
  simp only [seven, List.mem_cons, List.not_mem_nil, or_false] at g
  rcases g with rfl | rfl | rfl | rfl | rfl | rfl | rfl
  · kernel_rfl
  · kernel_rfl
  · kernel_rfl
  · kernel_rfl
  · kernel_rfl
  · exact absurd rfl n
  · kernel_rfl
theorem g17_6 {a : Str} (e : a = "k") : ∀ b ∈ seven, a ≠ b → (sSet 6 (cmthP "Voice" 2 c_Voice_read (consM (m1 joinV (ret (.str "\n")) (un revV (var 4))) nilM))) [x0, x1, x2, x3, some (linesV a b), some (voV a b), x6, some (.str a), some (.str b)] st = some (.next, [x0, x1, x2, x3, some (linesV a b), some (voV a b), some (tuV a b), some (.str a), some (.str b)], st) := by
  subst e
  intro b g n
  simp only [seven, List.mem_cons, List.not_mem_nil, or_false] at g
  rcases g with rfl | rfl | rfl | rfl | rfl | rfl | rfl
  · kernel_rfl
  · kernel_rfl
  · kernel_rfl
  · kernel_rfl
  · kernel_rfl
  · kernel_rfl
  · exact absurd rfl n
theorem g17 : ∀ a ∈ seven, ∀ b ∈ seven, a ≠ b → (sSet 6 (cmthP "Voice" 2 c_Voice_read (consM (m1 joinV (ret (.str "\n")) (un revV (var 4))) nilM))) [x0, x1, x2, x3, some (linesV a b), some (voV a b), x6, some (.str a), some (.str b)] st = some (.next, [x0, x1, x2, x3, some (linesV a b), some (voV a b), some (tuV a b), some (.str a), some (.str b)], st) := by
  intro a h
  simp only [seven, List.mem_cons, List.not_mem_nil, or_false] at h
  rcases h with e | e | e | e | e | e | e
  · exact g17_0 e
  · exact g17_1 e
  · exact g17_2 e
  · exact g17_3 e
  · exact g17_4 e
  · exact g17_5 e
  · exact g17_6 e
end K12
namespace K12
open PySem Mi Pg LwA Dw
open L2 (atI atI_last ixN)
variable {x0 x1 x2 x3 x4 x5 x6 : Option Val} {st : Sto} {a b : Str}
theorem g18_0 {a : Str} (e : a = "far") : ∀ b ∈ seven, a ≠ b → (sIf (orB (asB (bin (eqO (ownT [("Call", c_Call_eq), ("Voice", c_Voice_eq)])) (var 5) (var 6))) (asB (bin (neO (ownT [("Call", c_Call_eq), ("Voice", c_Voice_eq)])) (makeP "Voice" 2 c_Voice_init [] (consM (mkLst (consM (idxG "Voice" c_Voice_getitem (var 5) (ret (.int 1))) (consM (idxG "Voice" c_Voice_getitem (var 5) (ret (.int 0))) nilM))) nilM)) (var 6)))) (sRet (ret (.bl false))) sNext) [x0, x1, x2, x3, some (linesV a b), some (voV a b), some (tuV a b), some (.str a), some (.str b)] st = some (.next, [x0, x1, x2, x3, some (linesV a b), some (voV a b), some (tuV a b), some (.str a), some (.str b)], st) := by
  subst e
  intro b g n
  simp only [seven, List.mem_cons, List.not_mem_nil, or_false] at g
  rcases g with rfl | rfl | rfl | rfl | rfl | rfl | rfl
  · exact absurd rfl n
  · kernel_rfl
  · kernel_rfl
  · kernel_rfl
  · kernel_rfl
  · kernel_rfl
  · kernel_rfl
theorem g18_1 {a : Str} (e : a = "near") : ∀ b ∈ seven, a ≠ b → (sIf (orB (asB (bin (eqO (ownT [("Call", c_Call_eq), ("Voice", c_Voice_eq)])) (var 5) (var 6))) (asB (bin (neO (ownT [("Call", c_Call_eq), ("Voice", c_Voice_eq)])) (makeP "Voice" 2 c_Voice_init [] (consM (mkLst (consM (idxG "Voice" c_Voice_getitem (var 5) (ret (.int 1))) (consM (idxG "Voice" c_Voice_getitem (var 5) (ret (.int 0))) nilM))) nilM)) (var 6)))) (sRet (ret (.bl false))) sNext) [x0, x1, x2, x3, some (linesV a b), some (voV a b), some (tuV a b), some (.str a), some (.str b)] st = some (.next, [x0, x1, x2, x3, some (linesV a b), some (voV a b), some (tuV a b), some (.str a), some (.str b)], st) := by
  subst e
  intro b g n
  simp only [seven, List.mem_cons, List.not_mem_nil, or_false] at g
  rcases g with rfl | rfl | rfl | rfl | rfl | rfl | rfl
  · kernel_rfl
  · exact absurd rfl n
  · kernel_rfl
  · kernel_rfl
  · kernel_rfl
  · kernel_rfl
  · kernel_rfl
theorem g18_2 {a : Str} (e : a = "wait") : ∀ b ∈ seven, a ≠ b → (sIf (orB (asB (bin (eqO (ownT [("Call", c_Call_eq), ("Voice", c_Voice_eq)])) (var 5) (var 6))) (asB (bin (neO (ownT [("Call", c_Call_eq), ("Voice", c_Voice_eq)])) (makeP "Voice" 2 c_Voice_init [] (consM (mkLst (consM (idxG "Voice" c_Voice_getitem (var 5) (ret (.int 1))) (consM (idxG "Voice" c_Voice_getitem (var 5) (ret (.int 0))) nilM))) nilM)) (var 6)))) (sRet (ret (.bl false))) sNext) [x0, x1, x2, x3, some (linesV a b), some (voV a b), some (tuV a b), some (.str a), some (.str b)] st = some (.next, [x0, x1, x2, x3, some (linesV a b), some (voV a b), some (tuV a b), some (.str a), some (.str b)], st) := by
  subst e
  intro b g n
  simp only [seven, List.mem_cons, List.not_mem_nil, or_false] at g
  rcases g with rfl | rfl | rfl | rfl | rfl | rfl | rfl
  · kernel_rfl
  · kernel_rfl
  · exact absurd rfl n
  · kernel_rfl
  · kernel_rfl
  · kernel_rfl
  · kernel_rfl
theorem g18_3 {a : Str} (e : a = "cut") : ∀ b ∈ seven, a ≠ b → (sIf (orB (asB (bin (eqO (ownT [("Call", c_Call_eq), ("Voice", c_Voice_eq)])) (var 5) (var 6))) (asB (bin (neO (ownT [("Call", c_Call_eq), ("Voice", c_Voice_eq)])) (makeP "Voice" 2 c_Voice_init [] (consM (mkLst (consM (idxG "Voice" c_Voice_getitem (var 5) (ret (.int 1))) (consM (idxG "Voice" c_Voice_getitem (var 5) (ret (.int 0))) nilM))) nilM)) (var 6)))) (sRet (ret (.bl false))) sNext) [x0, x1, x2, x3, some (linesV a b), some (voV a b), some (tuV a b), some (.str a), some (.str b)] st = some (.next, [x0, x1, x2, x3, some (linesV a b), some (voV a b), some (tuV a b), some (.str a), some (.str b)], st) := by
  subst e
  intro b g n
  simp only [seven, List.mem_cons, List.not_mem_nil, or_false] at g
  rcases g with rfl | rfl | rfl | rfl | rfl | rfl | rfl
  · kernel_rfl
  · kernel_rfl
  · kernel_rfl
  · exact absurd rfl n
  · kernel_rfl
  · kernel_rfl
  · kernel_rfl
theorem g18_4 {a : Str} (e : a = "drop") : ∀ b ∈ seven, a ≠ b → (sIf (orB (asB (bin (eqO (ownT [("Call", c_Call_eq), ("Voice", c_Voice_eq)])) (var 5) (var 6))) (asB (bin (neO (ownT [("Call", c_Call_eq), ("Voice", c_Voice_eq)])) (makeP "Voice" 2 c_Voice_init [] (consM (mkLst (consM (idxG "Voice" c_Voice_getitem (var 5) (ret (.int 1))) (consM (idxG "Voice" c_Voice_getitem (var 5) (ret (.int 0))) nilM))) nilM)) (var 6)))) (sRet (ret (.bl false))) sNext) [x0, x1, x2, x3, some (linesV a b), some (voV a b), some (tuV a b), some (.str a), some (.str b)] st = some (.next, [x0, x1, x2, x3, some (linesV a b), some (voV a b), some (tuV a b), some (.str a), some (.str b)], st) := by
  subst e
  intro b g n
  simp only [seven, List.mem_cons, List.not_mem_nil, or_false] at g
  rcases g with rfl | rfl | rfl | rfl | rfl | rfl | rfl
  · kernel_rfl
  · kernel_rfl
  · kernel_rfl
  · kernel_rfl
  · exact absurd rfl n
  · kernel_rfl
  · kernel_rfl
theorem g18_5 {a : Str} (e : a = "zzzz") : ∀ b ∈ seven, a ≠ b → (sIf (orB (asB (bin (eqO (ownT [("Call", c_Call_eq), ("Voice", c_Voice_eq)])) (var 5) (var 6))) (asB (bin (neO (ownT [("Call", c_Call_eq), ("Voice", c_Voice_eq)])) (makeP "Voice" 2 c_Voice_init [] (consM (mkLst (consM (idxG "Voice" c_Voice_getitem (var 5) (ret (.int 1))) (consM (idxG "Voice" c_Voice_getitem (var 5) (ret (.int 0))) nilM))) nilM)) (var 6)))) (sRet (ret (.bl false))) sNext) [x0, x1, x2, x3, some (linesV a b), some (voV a b), some (tuV a b), some (.str a), some (.str b)] st = some (.next, [x0, x1, x2, x3, some (linesV a b), some (voV a b), some (tuV a b), some (.str a), some (.str b)], st) := by
  subst e
  intro b g n
  simp only [seven, List.mem_cons, List.not_mem_nil, or_false] at g
  rcases g with rfl | rfl | rfl | rfl | rfl | rfl | rfl
  · kernel_rfl
  · kernel_rfl
  · kernel_rfl
  · kernel_rfl
  · kernel_rfl
  · exact absurd rfl n
  · kernel_rfl
theorem g18_6 {a : Str} (e : a = "k") : ∀ b ∈ seven, a ≠ b → (sIf (orB (asB (bin (eqO (ownT [("Call", c_Call_eq), ("Voice", c_Voice_eq)])) (var 5) (var 6))) (asB (bin (neO (ownT [("Call", c_Call_eq), ("Voice", c_Voice_eq)])) (makeP "Voice" 2 c_Voice_init [] (consM (mkLst (consM (idxG "Voice" c_Voice_getitem (var 5) (ret (.int 1))) (consM (idxG "Voice" c_Voice_getitem (var 5) (ret (.int 0))) nilM))) nilM)) (var 6)))) (sRet (ret (.bl false))) sNext) [x0, x1, x2, x3, some (linesV a b), some (voV a b), some (tuV a b), some (.str a), some (.str b)] st = some (.next, [x0, x1, x2, x3, some (linesV a b), some (voV a b), some (tuV a b), some (.str a), some (.str b)], st) := by
  subst e
  intro b g n
  simp only [seven, List.mem_cons, List.not_mem_nil, or_false] at g
  rcases g with rfl | rfl | rfl | rfl | rfl | rfl | rfl
  · kernel_rfl
  · kernel_rfl
  · kernel_rfl
  · kernel_rfl
  · kernel_rfl
  · kernel_rfl
  · exact absurd rfl n
theorem g18 : ∀ a ∈ seven, ∀ b ∈ seven, a ≠ b → (sIf (orB (asB (bin (eqO (ownT [("Call", c_Call_eq), ("Voice", c_Voice_eq)])) (var 5) (var 6))) (asB (bin (neO (ownT [("Call", c_Call_eq), ("Voice", c_Voice_eq)])) (makeP "Voice" 2 c_Voice_init [] (consM (mkLst (consM (idxG "Voice" c_Voice_getitem (var 5) (ret (.int 1))) (consM (idxG "Voice" c_Voice_getitem (var 5) (ret (.int 0))) nilM))) nilM)) (var 6)))) (sRet (ret (.bl false))) sNext) [x0, x1, x2, x3, some (linesV a b), some (voV a b), some (tuV a b), some (.str a), some (.str b)] st = some (.next, [x0, x1, x2, x3, some (linesV a b), some (voV a b), some (tuV a b), some (.str a), some (.str b)], st) := by
  intro a h
  simp only [seven, List.mem_cons, List.not_mem_nil, or_false] at h
  rcases h with h | h | h | h | h | h | h
  · exact g18_0 h
  · exact g18_1 h
  · exact g18_2 h
  · exact g18_3 h
  · exact g18_4 h
  · exact g18_5 h
  · exact g18_6 h
end K12
namespace K12
open PySem Mi Pg LwA Dw
open L2 (atI atI_last ixN)
def u_21 : S := (sIf (orB (asB (bin (neO (ownT [("Call", c_Call_eq), ("Voice", c_Voice_eq)])) (var 3) (mkLst (consM (ret (.str "line 1")) (consM (ret (.str "voice names")) nilM))))) (asB (bin (neO (ownT [("Call", c_Call_eq), ("Voice", c_Voice_eq)])) (lamP [] s_l_tried 3 (makeP "Voice" 2 c_Voice_init [] (consM (mkLst nilM) nilM))) (ret (.str "voice calls"))))) (sRet (ret (.bl false))) sNext)
theorem u_21_eq : u_21 = (sIf (orB (asB (bin (neO (ownT [("Call", c_Call_eq), ("Voice", c_Voice_eq)])) (var 3) (mkLst (consM (ret (.str "line 1")) (consM (ret (.str "voice names")) nilM))))) (asB (bin (neO (ownT [("Call", c_Call_eq), ("Voice", c_Voice_eq)])) (lamP [] s_l_tried 3 (makeP "Voice" 2 c_Voice_init [] (consM (mkLst nilM) nilM))) (ret (.str "voice calls"))))) (sRet (ret (.bl false))) sNext) := rfl
def u_20 : S := sSeq (sExpr (lm appendV (var 3) (consM (lamP [4] s_l_tried 3 (cmthP "Voice" 2 c_Voice_read (consM (bin addV (bin addV (bin idxV (var 4) (ret (.int 0))) (ret (.str "\n"))) (bin idxV (var 4) (ret (.int 0)))) nilM))) nilM))) u_21
theorem u_20_eq : u_20 = sSeq (sExpr (lm appendV (var 3) (consM (lamP [4] s_l_tried 3 (cmthP "Voice" 2 c_Voice_read (consM (bin addV (bin addV (bin idxV (var 4) (ret (.int 0))) (ret (.str "\n"))) (bin idxV (var 4) (ret (.int 0)))) nilM))) nilM))) u_21 := rfl
def u_19 : S := sSeq (sSet 3 (mkLstM (consM (lamP [4] s_l_tried 3 (cmthP "Voice" 2 c_Voice_read (consM (bin addV (bin idxV (var 4) (ret (.int 0))) (ret (.str "\n"))) nilM))) nilM))) u_20
theorem u_19_eq : u_19 = sSeq (sSet 3 (mkLstM (consM (lamP [4] s_l_tried 3 (cmthP "Voice" 2 c_Voice_read (consM (bin addV (bin idxV (var 4) (ret (.int 0))) (ret (.str "\n"))) nilM))) nilM))) u_20 := rfl
def u_18 : S := sSeq (sIf (orB (asB (bin (eqO (ownT [("Call", c_Call_eq), ("Voice", c_Voice_eq)])) (var 5) (var 6))) (asB (bin (neO (ownT [("Call", c_Call_eq), ("Voice", c_Voice_eq)])) (makeP "Voice" 2 c_Voice_init [] (consM (mkLst (consM (idxG "Voice" c_Voice_getitem (var 5) (ret (.int 1))) (consM (idxG "Voice" c_Voice_getitem (var 5) (ret (.int 0))) nilM))) nilM)) (var 6)))) (sRet (ret (.bl false))) sNext) u_19
theorem u_18_eq : u_18 = sSeq (sIf (orB (asB (bin (eqO (ownT [("Call", c_Call_eq), ("Voice", c_Voice_eq)])) (var 5) (var 6))) (asB (bin (neO (ownT [("Call", c_Call_eq), ("Voice", c_Voice_eq)])) (makeP "Voice" 2 c_Voice_init [] (consM (mkLst (consM (idxG "Voice" c_Voice_getitem (var 5) (ret (.int 1))) (consM (idxG "Voice" c_Voice_getitem (var 5) (ret (.int 0))) nilM))) nilM)) (var 6)))) (sRet (ret (.bl false))) sNext) u_19 := rfl
def u_17 : S := sSeq (sSet 6 (cmthP "Voice" 2 c_Voice_read (consM (m1 joinV (ret (.str "\n")) (un revV (var 4))) nilM))) u_18
theorem u_17_eq : u_17 = sSeq (sSet 6 (cmthP "Voice" 2 c_Voice_read (consM (m1 joinV (ret (.str "\n")) (un revV (var 4))) nilM))) u_18 := rfl
def u_16 : S := sSeq (sIf (orB (asB (bin (neO (ownT [("Call", c_Call_eq), ("Voice", c_Voice_eq)])) (un (fldV (ownL ["Voice"]) "reach") (var 5)) (ret (.int 3)))) (orB (asB (bin (neO (ownT [("Call", c_Call_eq), ("Voice", c_Voice_eq)])) (un (fldV (ownL ["Voice"]) "names") (var 5)) (mkTup (consM (var 7) (consM (var 8) nilM))))) (orB (asB (bin (neO (ownT [("Call", c_Call_eq), ("Voice", c_Voice_eq)])) (un (fldV (ownL ["Voice"]) "reach") (methP "Voice" "without" 2 c_Voice_without [] (var 5) (consM (ret (.int 1)) nilM))) (ret (.int 2)))) (asB (bin (neO (ownT [("Call", c_Call_eq), ("Voice", c_Voice_eq)])) (app (own1 ownS strV (ownT [("Call", c_Call_str), ("Voice", c_Voice_str)])) (consM (var 5) nilM)) (m1 joinV (ret (.str "\n")) (var 4))))))) (sRet (ret (.bl false))) sNext) u_17
theorem u_16_eq : u_16 = sSeq (sIf (orB (asB (bin (neO (ownT [("Call", c_Call_eq), ("Voice", c_Voice_eq)])) (un (fldV (ownL ["Voice"]) "reach") (var 5)) (ret (.int 3)))) (orB (asB (bin (neO (ownT [("Call", c_Call_eq), ("Voice", c_Voice_eq)])) (un (fldV (ownL ["Voice"]) "names") (var 5)) (mkTup (consM (var 7) (consM (var 8) nilM))))) (orB (asB (bin (neO (ownT [("Call", c_Call_eq), ("Voice", c_Voice_eq)])) (un (fldV (ownL ["Voice"]) "reach") (methP "Voice" "without" 2 c_Voice_without [] (var 5) (consM (ret (.int 1)) nilM))) (ret (.int 2)))) (asB (bin (neO (ownT [("Call", c_Call_eq), ("Voice", c_Voice_eq)])) (app (own1 ownS strV (ownT [("Call", c_Call_str), ("Voice", c_Voice_str)])) (consM (var 5) nilM)) (m1 joinV (ret (.str "\n")) (var 4))))))) (sRet (ret (.bl false))) sNext) u_17 := rfl
def u_15 : S := sSeq (sSet 5 (cmthP "Voice" 2 c_Voice_read (consM (m1 joinV (ret (.str "\n")) (var 4)) nilM))) u_16
theorem u_15_eq : u_15 = sSeq (sSet 5 (cmthP "Voice" 2 c_Voice_read (consM (m1 joinV (ret (.str "\n")) (var 4)) nilM))) u_16 := rfl
def u_14 : S := sSeq (sSet 4 (mkLst (consM (bin addV (var 7) (ret (.str " 2 1 wait 1 0"))) (consM (bin addV (var 8) (ret (.str " 3 2 drop 2 1"))) nilM)))) u_15
theorem u_14_eq : u_14 = sSeq (sSet 4 (mkLst (consM (bin addV (var 7) (ret (.str " 2 1 wait 1 0"))) (consM (bin addV (var 8) (ret (.str " 3 2 drop 2 1"))) nilM)))) u_15 := rfl
def u_13 : S := sSeq (sIf (asB (bin (neO (ownT [("Call", c_Call_eq), ("Voice", c_Voice_eq)])) (var 3) (mkLst (consM (ret (.str "call busy")) (consM (ret (.str "call least")) (consM (ret (.str "call distance")) (consM (ret (.str "call joins")) nilM))))))) (sRet (ret (.bl false))) sNext) u_14
theorem u_13_eq : u_13 = sSeq (sIf (asB (bin (neO (ownT [("Call", c_Call_eq), ("Voice", c_Voice_eq)])) (var 3) (mkLst (consM (ret (.str "call busy")) (consM (ret (.str "call least")) (consM (ret (.str "call distance")) (consM (ret (.str "call joins")) nilM))))))) (sRet (ret (.bl false))) sNext) u_14 := rfl
def u_12 : S := sSeq (sExpr (lm appendV (var 3) (consM (lamP [7] s_l_tried 3 (makeP "Call" 7 c_Call_init [] (consM (var 7) (consM (ret (.int 4)) (consM (ret (.int 3)) (consM (ret (.str "drop")) (consM (ret (.int 4)) (consM (ret (.int 4)) nilM)))))))) nilM))) u_13
theorem u_12_eq : u_12 = sSeq (sExpr (lm appendV (var 3) (consM (lamP [7] s_l_tried 3 (makeP "Call" 7 c_Call_init [] (consM (var 7) (consM (ret (.int 4)) (consM (ret (.int 3)) (consM (ret (.str "drop")) (consM (ret (.int 4)) (consM (ret (.int 4)) nilM)))))))) nilM))) u_13 := rfl
def u_11 : S := sSeq (sExpr (lm appendV (var 3) (consM (lamP [7] s_l_tried 3 (makeP "Call" 7 c_Call_init [.str "wait", .int 1, .int 0] (consM (var 7) (consM (ret (.bl true)) (consM (ret (.int 3)) nilM))))) nilM))) u_12
theorem u_11_eq : u_11 = sSeq (sExpr (lm appendV (var 3) (consM (lamP [7] s_l_tried 3 (makeP "Call" 7 c_Call_init [.str "wait", .int 1, .int 0] (consM (var 7) (consM (ret (.bl true)) (consM (ret (.int 3)) nilM))))) nilM))) u_12 := rfl
def u_10 : S := sSeq (sExpr (lm appendV (var 3) (consM (lamP [7] s_l_tried 3 (makeP "Call" 7 c_Call_init [] (consM (var 7) (consM (ret (.int 4)) (consM (ret (.int 3)) (consM (ret (.str "drop")) (consM (ret (.int 5)) (consM (ret (.int 4)) nilM)))))))) nilM))) u_11
theorem u_10_eq : u_10 = sSeq (sExpr (lm appendV (var 3) (consM (lamP [7] s_l_tried 3 (makeP "Call" 7 c_Call_init [] (consM (var 7) (consM (ret (.int 4)) (consM (ret (.int 3)) (consM (ret (.str "drop")) (consM (ret (.int 5)) (consM (ret (.int 4)) nilM)))))))) nilM))) u_11 := rfl
def u_9 : S := sSeq (sSet 3 (mkLstM (consM (lamP [7] s_l_tried 3 (makeP "Call" 7 c_Call_init [] (consM (var 7) (consM (ret (.int 4)) (consM (ret (.int 3)) (consM (ret (.str "x")) (consM (ret (.int 0)) (consM (ret (.int 4)) nilM)))))))) nilM))) u_10
theorem u_9_eq : u_9 = sSeq (sSet 3 (mkLstM (consM (lamP [7] s_l_tried 3 (makeP "Call" 7 c_Call_init [] (consM (var 7) (consM (ret (.int 4)) (consM (ret (.int 3)) (consM (ret (.str "x")) (consM (ret (.int 0)) (consM (ret (.int 4)) nilM)))))))) nilM))) u_10 := rfl
def u_8 : S := sSeq (sIf (asB (bin (neO (ownT [("Call", c_Call_eq), ("Voice", c_Voice_eq)])) (var 3) (mkLst (consM (ret (.str "call distance")) (consM (ret (.str "call length")) (consM (ret (.str "call name")) nilM)))))) (sRet (ret (.bl false))) sNext) u_9
theorem u_8_eq : u_8 = sSeq (sIf (asB (bin (neO (ownT [("Call", c_Call_eq), ("Voice", c_Voice_eq)])) (var 3) (mkLst (consM (ret (.str "call distance")) (consM (ret (.str "call length")) (consM (ret (.str "call name")) nilM)))))) (sRet (ret (.bl false))) sNext) u_9 := rfl
def u_7 : S := sSeq (sExpr (lm appendV (var 3) (consM (lamP [] s_l_tried 3 (makeP "Call" 7 c_Call_init [.str "wait", .int 1, .int 0] (consM (ret (.str "A")) (consM (ret (.int 0)) (consM (ret (.int 0)) nilM))))) nilM))) u_8
theorem u_7_eq : u_7 = sSeq (sExpr (lm appendV (var 3) (consM (lamP [] s_l_tried 3 (makeP "Call" 7 c_Call_init [.str "wait", .int 1, .int 0] (consM (ret (.str "A")) (consM (ret (.int 0)) (consM (ret (.int 0)) nilM))))) nilM))) u_8 := rfl
def u_6 : S := sSeq (sExpr (lm appendV (var 3) (consM (lamP [7] s_l_tried 3 (makeP "Call" 7 c_Call_init [.int 1, .int 0] (consM (var 7) (consM (ret (.int 4)) (consM (ret (.int 4)) (consM (ret (.str "x")) nilM)))))) nilM))) u_7
theorem u_6_eq : u_6 = sSeq (sExpr (lm appendV (var 3) (consM (lamP [7] s_l_tried 3 (makeP "Call" 7 c_Call_init [.int 1, .int 0] (consM (var 7) (consM (ret (.int 4)) (consM (ret (.int 4)) (consM (ret (.str "x")) nilM)))))) nilM))) u_7 := rfl
def u_5 : S := sSeq (sSet 3 (mkLstM (consM (lamP [7] s_l_tried 3 (makeP "Call" 7 c_Call_init [.str "wait", .int 1, .int 0] (consM (var 7) (consM (ret (.int 5)) (consM (ret (.int 4)) nilM))))) nilM))) u_6
theorem u_5_eq : u_5 = sSeq (sSet 3 (mkLstM (consM (lamP [7] s_l_tried 3 (makeP "Call" 7 c_Call_init [.str "wait", .int 1, .int 0] (consM (var 7) (consM (ret (.int 5)) (consM (ret (.int 4)) nilM))))) nilM))) u_6 := rfl
def u_4 : S := sSeq (sIf (asB (bin (neO (ownT [("Call", c_Call_eq), ("Voice", c_Voice_eq)])) (var 3) (mkLst (consM (bin addV (var 7) (ret (.str " 4 3 wait 1 0"))) (consM (bin addV (var 7) (ret (.str " 1 1 cut 4 3"))) nilM))))) (sRet (ret (.bl false))) sNext) u_5
theorem u_4_eq : u_4 = sSeq (sIf (asB (bin (neO (ownT [("Call", c_Call_eq), ("Voice", c_Voice_eq)])) (var 3) (mkLst (consM (bin addV (var 7) (ret (.str " 4 3 wait 1 0"))) (consM (bin addV (var 7) (ret (.str " 1 1 cut 4 3"))) nilM))))) (sRet (ret (.bl false))) sNext) u_5 := rfl
def u_3 : S := sSeq (sExpr (lm appendV (var 3) (consM (lamP [7] s_l_tried 3 (makeP "Call" 7 c_Call_init [] (consM (var 7) (consM (ret (.int 1)) (consM (ret (.int 1)) (consM (ret (.str "cut")) (consM (ret (.int 4)) (consM (ret (.int 3)) nilM)))))))) nilM))) u_4
theorem u_3_eq : u_3 = sSeq (sExpr (lm appendV (var 3) (consM (lamP [7] s_l_tried 3 (makeP "Call" 7 c_Call_init [] (consM (var 7) (consM (ret (.int 1)) (consM (ret (.int 1)) (consM (ret (.str "cut")) (consM (ret (.int 4)) (consM (ret (.int 3)) nilM)))))))) nilM))) u_4 := rfl
def u_2 : S := sSeq (sSet 3 (mkLstM (consM (lamP [7] s_l_tried 3 (makeP "Call" 7 c_Call_init [.str "wait", .int 1, .int 0] (consM (var 7) (consM (ret (.int 4)) (consM (ret (.int 3)) nilM))))) nilM))) u_3
theorem u_2_eq : u_2 = sSeq (sSet 3 (mkLstM (consM (lamP [7] s_l_tried 3 (makeP "Call" 7 c_Call_init [.str "wait", .int 1, .int 0] (consM (var 7) (consM (ret (.int 4)) (consM (ret (.int 3)) nilM))))) nilM))) u_3 := rfl
def u_1 : S := sSeq (sSetL [.name 7, .name 8] (sliceM (callM 2 c_l_mixed [] (consM (var 2) (consM (mkLst (consM (ret (.str "far")) (consM (ret (.str "near")) (consM (ret (.str "wait")) (consM (ret (.str "cut")) (consM (ret (.str "drop")) (consM (ret (.str "zzzz")) (consM (ret (.str "k")) nilM)))))))) nilM))) nopart (part (ret (.int 2))))) u_2
theorem u_1_eq : u_1 = sSeq (sSetL [.name 7, .name 8] (sliceM (callM 2 c_l_mixed [] (consM (var 2) (consM (mkLst (consM (ret (.str "far")) (consM (ret (.str "near")) (consM (ret (.str "wait")) (consM (ret (.str "cut")) (consM (ret (.str "drop")) (consM (ret (.str "zzzz")) (consM (ret (.str "k")) nilM)))))))) nilM))) nopart (part (ret (.int 2))))) u_2 := rfl
def u_0 : S := sSeq (sSet 2 (callM 2 c_l_deal [] (consM (var 0) (consM (var 1) nilM)))) u_1
theorem u_0_eq : u_0 = sSeq (sSet 2 (callM 2 c_l_deal [] (consM (var 0) (consM (var 1) nilM)))) u_1 := rfl
def w_1 : S := (sRet (ret (.bl true)))
theorem w_1_eq : w_1 = (sRet (ret (.bl true))) := rfl
def w_0 : S := sSeq (sFor (rng1 (consM (app max2V (consM (ret (.int 2)) (consM (app min2V (consM (ret (.int 4)) (consM (app lenV (consM (var 0) nilM)) nilM))) nilM))) nilM)) (.name 1) u_0) w_1
theorem w_0_eq : w_0 = sSeq (sFor (rng1 (consM (app max2V (consM (ret (.int 2)) (consM (app min2V (consM (ret (.int 4)) (consM (app lenV (consM (var 0) nilM)) nilM))) nilM))) nilM)) (.name 1) u_0) w_1 := rfl
theorem s_law_eq : s_law = w_0 := rfl
theorem ad1 : ∀ a ∈ seven, ∀ st : Sto, addV st (.str a) (.str " 4 3 wait 1 0") = some (.str (a ++ " 4 3 wait 1 0")) := by
  intro a h st
  simp only [seven, List.mem_cons, List.not_mem_nil, or_false] at h
  rcases h with rfl | rfl | rfl | rfl | rfl | rfl | rfl <;> kernel_rfl
theorem ad2 : ∀ a ∈ seven, ∀ st : Sto, addV st (.str a) (.str " 1 1 cut 4 3") = some (.str (a ++ " 1 1 cut 4 3")) := by
  intro a h st
  simp only [seven, List.mem_cons, List.not_mem_nil, or_false] at h
  rcases h with rfl | rfl | rfl | rfl | rfl | rfl | rfl <;> kernel_rfl
theorem orF {a b : M Bool} {e : Mi.Env} {st s1 : Sto} (ha : a e st = some (.ok false, s1)) {r : Res Bool} (hb : b e s1 = r) : orB a b e st = r := by
  unfold orB
  rw [bnd_ok ha]
  exact hb
theorem eq1 : ∀ a ∈ seven, neV [] (.lst [.str (a ++ " 4 3 wait 1 0"), .str (a ++ " 1 1 cut 4 3")]) (.lst [.str (a ++ " 4 3 wait 1 0"), .str (a ++ " 1 1 cut 4 3")]) = some (.bl false) := by
  intro a h
  simp only [seven, List.mem_cons, List.not_mem_nil, or_false] at h
  rcases h with rfl | rfl | rfl | rfl | rfl | rfl | rfl <;> kernel_rfl
theorem nine {e : Mi.Env} (h : e.length = 9) : ∃ x0 x1 x2 x3 x4 x5 x6 x7 x8 : Option Val, e = [x0, x1, x2, x3, x4, x5, x6, x7, x8] := by
  match e, h with
  | [x0, x1, x2, x3, x4, x5, x6, x7, x8], _ => exact ⟨x0, x1, x2, x3, x4, x5, x6, x7, x8, rfl⟩
theorem first3 {sc : Val} {a b : Str} {e : Mi.Env} {st : Sto} (T : TI sc a b e st) (ha : a ∈ seven) (hb : b ∈ seven) (hn : a ≠ b) : Runs (u_2 e st) fun r e' s' => r = .next ∧ e'.length = 9 ∧ e'[0]? = some (some sc) ∧ s'[0]? = some .tb := by
  have L7 : ∀ {e : Mi.Env} {st : Sto} {m : M Val} {v : Val}, TI sc a b e st → outR (s_l_tried (fun _ _ => m (capE 9 [7] [.str a]) []) (lamE0 3 .non) []) = some v → noRef v = true → lamP [7] s_l_tried 3 m e st = some (.ok v, st) := fun T h hv => lamP_run T.ht T.caps T.len rfl h hv
  have L0 : ∀ {e : Mi.Env} {st : Sto} {m : M Val} {v : Val}, TI sc a b e st → outR (s_l_tried (fun _ _ => m (capE 9 [] []) []) (lamE0 3 .non) []) = some v → noRef v = true → lamP [] s_l_tried 3 m e st = some (.ok v, st) := fun T h hv => lamP_run T.ht rfl T.len rfl h hv
  -- the first two
  rw [u_2_eq]
  obtain ⟨q1, T1, Z1⟩ := new_ok T (L7 T (F0 a ha) rfl)
  refine Runs.seq ⟨.next, _, _, q1, rfl, ?_⟩
  generalize e.set 3 (some (.ref st.length)) = e1 at T1 Z1 ⊢
  generalize st ++ [SO.lst _] = s1 at T1 Z1 ⊢
  rw [u_3_eq]
  obtain ⟨s2, q2, T2, Z2⟩ := app_ok' T1 Z1 (by show 1 ≤ 10; decide) (L7 T1 (F1 a ha) rfl)
  refine Runs.seq ⟨.next, _, _, q2, rfl, ?_⟩
  rw [u_4_eq]
  refine Runs.seq ⟨.next, _, _, neq_ok Z2 (mkLst_ok (consM_ok (bin_ok (Mi.var_at T2.h7) rfl (ad1 a ha _)) (consM_ok (bin_ok (Mi.var_at T2.h7) rfl (ad2 a ha _)) nilM_ok)) (by show 2 ≤ 16000000; decide)) ?_, rfl, ?_⟩
  · exact eq1 a ha
  -- three more
  rw [u_5_eq]
  obtain ⟨q3, T3, Z3⟩ := new_ok T2 (L7 T2 (F2 a ha) rfl)
  refine Runs.seq ⟨.next, _, _, q3, rfl, ?_⟩
  generalize e1.set 3 (some (.ref s2.length)) = e3 at T3 Z3 ⊢
  generalize s2 ++ [SO.lst _] = s3 at T3 Z3 ⊢
  rw [u_6_eq]
  obtain ⟨s4, q4, T4, Z4⟩ := app_ok' T3 Z3 (by show 1 ≤ 10; decide) (L7 T3 (F3 a ha) rfl)
  refine Runs.seq ⟨.next, _, _, q4, rfl, ?_⟩
  rw [u_7_eq]
  obtain ⟨s5, q5, T5, Z5⟩ := app_ok' T4 Z4 (by show 2 ≤ 10; decide) (L0 T4 F4 rfl)
  refine Runs.seq ⟨.next, _, _, q5, rfl, ?_⟩
  rw [u_8_eq]
  refine Runs.seq ⟨.next, _, _, neq_ok Z5 (mkLst_ok (consM_ok rfl (consM_ok rfl (consM_ok rfl nilM_ok))) (by show 3 ≤ 16000000; decide)) (by kernel_rfl), rfl, ?_⟩
  -- four more
  rw [u_9_eq]
  obtain ⟨q6, T6, Z6⟩ := new_ok T5 (L7 T5 (F5 a ha) rfl)
  refine Runs.seq ⟨.next, _, _, q6, rfl, ?_⟩
  generalize e3.set 3 (some (.ref s5.length)) = e6 at T6 Z6 ⊢
  generalize s5 ++ [SO.lst _] = s6 at T6 Z6 ⊢
  rw [u_10_eq]
  obtain ⟨s7, q7, T7, Z7⟩ := app_ok' T6 Z6 (by show 1 ≤ 10; decide) (L7 T6 (F6 a ha) rfl)
  refine Runs.seq ⟨.next, _, _, q7, rfl, ?_⟩
  rw [u_11_eq]
  obtain ⟨s8, q8, T8, Z8⟩ := app_ok' T7 Z7 (by show 2 ≤ 10; decide) (L7 T7 (F7 a ha) rfl)
  refine Runs.seq ⟨.next, _, _, q8, rfl, ?_⟩
  rw [u_12_eq]
  obtain ⟨s9, q9, T9, Z9⟩ := app_ok' T8 Z8 (by show 3 ≤ 10; decide) (L7 T8 (F8 a ha) rfl)
  refine Runs.seq ⟨.next, _, _, q9, rfl, ?_⟩
  rw [u_13_eq]
  refine Runs.seq ⟨.next, _, _, neq_ok Z9 (mkLst_ok (consM_ok rfl (consM_ok rfl (consM_ok rfl (consM_ok rfl nilM_ok)))) (by show 4 ≤ 16000000; decide)) (by kernel_rfl), rfl, ?_⟩
  -- the voice
  obtain ⟨x0, x1, x2, x3, x4, x5, x6, x7, x8, rfl⟩ := nine T9.len
  have e0 : x0 = some sc := Option.some.inj T9.h0
  have e7 : x7 = some (.str a) := Option.some.inj T9.h7
  have e8 : x8 = some (.str b) := Option.some.inj T9.h8
  subst e0
  subst e7
  subst e8
  rw [u_14_eq]
  refine Runs.seq ⟨.next, _, _, g14 a ha b hb, rfl, ?_⟩
  rw [u_15_eq]
  refine Runs.seq ⟨.next, _, _, g15 a ha b hb hn, rfl, ?_⟩
  rw [u_16_eq]
  refine Runs.seq ⟨.next, _, _, g16 a ha b hb hn, rfl, ?_⟩
  rw [u_17_eq]
  refine Runs.seq ⟨.next, _, _, g17 a ha b hb hn, rfl, ?_⟩
  rw [u_18_eq]
  refine Runs.seq ⟨.next, _, _, g18 a ha b hb hn, rfl, ?_⟩
  -- texts that are refused
  have TA : TI sc a b [some sc, x1, x2, x3, some (linesV a b), some (voV a b), some (tuV a b), some (.str a), some (.str b)] s9 := ⟨rfl, rfl, rfl, rfl, T9.ht⟩
  have L4 : ∀ {x3 : Option Val} {st : Sto} {m : M Val} {v : Val}, st[0]? = some SO.tb → outR (s_l_tried (fun _ _ => m (capE 9 [4] [linesV a b]) []) (lamE0 3 .non) []) = some v → noRef v = true →
      lamP [4] s_l_tried 3 m [some sc, x1, x2, x3, some (linesV a b), some (voV a b), some (tuV a b), some (.str a), some (.str b)] st = some (.ok v, st) := fun h0 h hv => lamP_run h0 rfl rfl rfl h hv
  rw [u_19_eq]
  obtain ⟨q10, T10, Z10⟩ := new_ok TA (L4 TA.ht (F9 a ha b hb) rfl)
  refine Runs.seq ⟨.next, _, _, q10, rfl, ?_⟩
  rw [u_20_eq]
  obtain ⟨s11, q11, T11, Z11⟩ := app_ok' T10 Z10 (by show 1 ≤ 10; decide) (L4 T10.ht (F10 a ha b hb) rfl)
  refine Runs.seq ⟨.next, _, _, q11, rfl, ?_⟩
  obtain ⟨i, h3, hi⟩ := Z11
  have k1 : lamP [] s_l_tried 3 (makeP "Voice" 2 c_Voice_init [] (consM (mkLst nilM) nilM)) [some sc, x1, x2, some (.ref s9.length), some (linesV a b), some (voV a b), some (tuV a b), some (.str a), some (.str b)] s11 = some (.ok (.str "voice calls"), s11) := lamP_run T11.ht rfl rfl rfl F11 rfl
  rw [u_21_eq]
  refine ⟨.next, _, _, ?_, rfl, T11.len, T11.h0, T11.ht⟩
  refine (sIf_false (orF (asB_ok (bin_ok (Mi.var_at h3) (mkLst_ok (vs := [.str "line 1", .str "voice names"]) (consM_ok rfl (consM_ok rfl nilM_ok)) (by show 2 ≤ 16000000; decide)) (ne_told hi (by kernel_rfl)))) (asB_ok (bin_ok k1 rfl (by kernel_rfl))))).trans rfl
theorem turn12 {sc : Val} {t : Nat} {e : Mi.Env} {st : Sto} (hd : ∃ st' g, c_l_deal [sc, .int (t : Int)] st = some (.ok (.ref (st.length + 1)), st') ∧ st' = st ++ g ∧ g.length = 2 ∧ Dl st' (st.length + 1) st.length) (hl : e.length = 9) (h0 : e[0]? = some (some sc)) (h1 : e[1]? = some (some (.int (t : Int)))) (ht : st[0]? = some .tb) :
    Runs (u_0 e st) fun r e' s' => r = .next ∧ e'.length = 9 ∧ e'[0]? = some (some sc) ∧ s'[0]? = some .tb := by
  obtain ⟨s0, g, q0, e0, gl, d0⟩ := hd
  have l0 : 0 < st.length := Dw.at_lt ht
  have m0 : callM 2 c_l_deal [] (consM (var 0) (consM (var 1) nilM)) e st = some (.ok (.ref (st.length + 1)), s0) := callM_ok (n := 2) (consM_ok (Mi.var_at h0) (consM_ok (Mi.var_at h1) nilM_ok)) rfl q0
  have t0 : s0[0]? = some .tb := by
    rw [e0, List.getElem?_append_left l0]
    exact ht
  obtain ⟨D, hD⟩ : ∃ D, st.length + 1 = D := ⟨_, rfl⟩
  obtain ⟨c, hc⟩ : ∃ c, st.length = c := ⟨_, rfl⟩
  rw [hD] at m0 d0
  rw [hc] at d0
  rw [u_0_eq]
  refine Runs.seq ⟨.next, _, _, sSet_ok (i := 2) m0, rfl, ?_⟩
  have a0 : (e.set 2 (some (.ref D)))[0]? = some (some sc) := by rw [g_ne (by decide)]; exact h0
  have a2 : (e.set 2 (some (.ref D)))[2]? = some (some (.ref D)) := g_eq (by omega)
  have al : (e.set 2 (some (.ref D))).length = 9 := by rw [List.length_set]; exact hl
  generalize e.set 2 (some (.ref D)) = e1 at a0 a2 al ⊢
  obtain ⟨fs, s1, q1, pm, f1, d1, x1⟩ := mixed_ok (ts := seven) d0 (by decide)
  have t1 : s1[0]? = some .tb := by
    rw [x1.2 0 (Dw.at_lt t0) (by omega) (by omega)]
    exact t0
  have hn : fs.Nodup := (List.Perm.nodup_iff pm).mpr (by decide)
  have hm : ∀ x ∈ fs, x ∈ seven := fun x h => pm.mem_iff.mp h
  have hlen : fs.length = 7 := pm.length_eq
  obtain ⟨a, b, r, rfl⟩ : ∃ a b r, fs = a :: b :: r := by
    match fs, hlen with
    | a :: b :: r, _ => exact ⟨a, b, r, rfl⟩
  have hab : a ≠ b := fun z => by
    rw [List.nodup_cons] at hn
    exact hn.1 (by rw [z]; exact List.mem_cons_self)
  rw [u_1_eq]
  refine Runs.seq ⟨.next, (e1.set 7 (some (.str a))).set 8 (some (.str b)), s1, ?_, rfl, ?_⟩
  · have k0 : callM 2 c_l_mixed [] (consM (var 2) (consM (mkLst (consM (ret (.str "far")) (consM (ret (.str "near")) (consM (ret (.str "wait")) (consM (ret (.str "cut")) (consM (ret (.str "drop")) (consM (ret (.str "zzzz")) (consM (ret (.str "k")) nilM)))))))) nilM)) e1 s0 = some (.ok (.ref (s0.length + 1)), s1) :=
      callM_ok (n := 2) (consM_ok (Mi.var_at a2) (consM_ok (v := .lst (seven.map .str)) (mkLst_ok (consM_ok rfl (consM_ok rfl (consM_ok rfl (consM_ok rfl (consM_ok rfl (consM_ok rfl (consM_ok rfl nilM_ok))))))) (by show 7 ≤ 16000000; decide)) nilM_ok)) rfl q1
    have k1 : sliceM (callM 2 c_l_mixed [] (consM (var 2) (consM (mkLst (consM (ret (.str "far")) (consM (ret (.str "near")) (consM (ret (.str "wait")) (consM (ret (.str "cut")) (consM (ret (.str "drop")) (consM (ret (.str "zzzz")) (consM (ret (.str "k")) nilM)))))))) nilM))) nopart (part (ret (.int 2))) e1 s0 = some (.ok (.lst [.str a, .str b]), s1) := by
      unfold sliceM
      rw [bnd_ok k0, bnd_ok (show nopart e1 s1 = some (.ok none, s1) from rfl), bnd_ok (show part (ret (.int 2)) e1 s1 = some (.ok (some 2), s1) from rfl)]
      unfold lift cutVal
      dsimp only
      rw [lstOf_ref f1]
      rfl
    unfold sSetL
    rw [sBnd_ok k1]
    obtain ⟨y0, y1, y2, y3, y4, y5, y6, y7, y8, rfl⟩ := nine al
    rfl
  · refine first3 (sc := sc) (a := a) (b := b) ⟨by simp [al], ?_, ?_, ?_, t1⟩ (hm a (by simp)) (hm b (by simp)) hab
    · rw [g_ne (by decide), g_ne (by decide)]; exact a0
    · rw [g_ne (by decide)]; exact g_eq (by omega)
    · exact g_eq (by rw [List.length_set]; omega)
theorem main : ∀ ns : List Int, ns.length ≤ 63 → (∀ i ∈ ns, Builtin.Int.intBits i ≤ 1048576) → ∀ v : Val, v = .rol (ns.map .int) ∨ v = .lst (ns.map .int) → ∃ env st', s_law (env0 9 [v]) [.tb] = some (.ret (.bl true), env, st') := fun ns hn _ v hv => by
  have hd : ∀ (t : Nat) (st : Sto), t ≤ 4 → ∃ st' g, c_l_deal [v, .int (t : Int)] st = some (.ok (.ref (st.length + 1)), st') ∧ st' = st ++ g ∧ g.length = 2 ∧ Dl st' (st.length + 1) st.length := fun t st h => by
    rcases hv with rfl | rfl
    · exact deal_ok hn (by omega) (by omega)
    · exact deal_okL hn (by omega) (by omega)
  have lr : ∀ st, lenV st [v] = some (.int (ns.length : Int)) := fun st => by
    rcases hv with rfl | rfl
    · show some (Val.int ((ns.map Val.int).length : Int)) = _
      rw [List.length_map]
    · show some (Val.int ((ns.map Val.int).length : Int)) = _
      rw [List.length_map]
  have R : Runs (s_law (env0 9 [v]) [.tb]) fun r _ _ => r = .ret (.bl true) := by
    rw [s_law_eq, w_0_eq]
    obtain ⟨k, hk, hm⟩ : ∃ k : Nat, k ≤ 4 ∧ (if (2 : Int) < (if (ns.length : Int) < 4 then (ns.length : Int) else 4) then (if (ns.length : Int) < 4 then (ns.length : Int) else 4) else 2) = (k : Int) := by
      by_cases z : (ns.length : Int) < 4
      · by_cases y : (2 : Int) < (ns.length : Int)
        · exact ⟨ns.length, by omega, by rw [if_pos z, if_pos y]⟩
        · exact ⟨2, by decide, by rw [if_pos z, if_neg y]; rfl⟩
      · exact ⟨4, by decide, by rw [if_neg z]; rfl⟩
    refine Runs.seq (runs_for (fun m e s => e.length = 9 ∧ e[0]? = some (some v) ∧ s[0]? = some .tb) (xs := (List.range k).map fun (n : Nat) => Val.int (0 + n)) (s1 := [.tb]) ((rng1_ok (j := (k : Int)) (s1 := [.tb]) ?_ (by omega) (by omega)).trans (by rfl)) ⟨rfl, rfl, rfl⟩ (fun m x e s hx ⟨i1, i2, i3⟩ => ?_) fun e s ⟨i1, i2, i3⟩ => ⟨rfl, ?_⟩)
    · have m2 : ∀ st, min2V st [.int 4, .int (ns.length : Int)] = some (.int (if (ns.length : Int) < 4 then (ns.length : Int) else 4)) := fun _ => rfl
      have m3 : ∀ st, max2V st [.int 2, .int (if (ns.length : Int) < 4 then (ns.length : Int) else 4)] = some (.int (k : Int)) := fun _ => by
        rw [← hm]
        rfl
      refine consM_ok (app_ok (consM_ok (v := .int 2) rfl (consM_ok (app_ok (consM_ok (v := .int 4) rfl (consM_ok (app_ok (consM_ok (v := v) rfl nilM_ok) (lr _)) nilM_ok)) (m2 _)) nilM_ok)) (m3 _)) nilM_ok
    · rw [List.getElem?_map] at hx
      cases q : (List.range k)[m]? with
      | none => rw [q] at hx; cases hx
      | some n =>
        rw [q] at hx
        have hx' : Val.int (0 + (n : Int)) = x := by simpa using hx
        subst hx'
        have hn2 : n < k := List.mem_range.mp (List.mem_of_getElem? q)
        refine ⟨e.set 1 (some (.int (0 + (n : Int)))), rfl, ?_⟩
        exact Runs.mono (turn12 (t := n) (hd n s (by omega)) (by rw [List.length_set]; exact i1) (by rw [List.getElem?_set_ne (by decide)]; exact i2) (by rw [List.getElem?_set_self (by omega), Int.zero_add]) i3) fun r e s h => ⟨.inl h.1, h.2⟩
    · rw [w_1_eq]
      exact ⟨_, _, _, sRet_ok rfl, rfl⟩
  obtain ⟨r, e, s, h, rfl⟩ := R
  exact ⟨e, s, h⟩
end K12
namespace K12
open PySem PySem.Spec PyProof.Rows L2 Mi Pg LwA
theorem all_mk {P : Program} {w : World} {K : PySem.W.Frag} {h : Heap} {mg : Str → Option Value} {fa : Addr} (X : K.In h) (G : h.Ns mainGlobals mg) (hfa : mg "law" = some (.ref fa))
    {C_Call : Addr} (a_Call : PySem.W.nsIn K mainGlobals "Call" = some (some (.ref C_Call))) (o1_Call : PySem.W.plainGet K C_Call Str.empty = true) (o2_Call : PySem.W.hasDictIn K C_Call = true) (o3_Call : PySem.W.plainOver K C_Call = true) (o4_Call : PySem.W.findIn K (.ref C_Call) "__setattr__" = some (some (.builtin "object.__setattr__"))) (o5_Call : PySem.W.findIn K (.ref C_Call) "__class__" = some (some (.builtin "object.__class__"))) (o6_Call : PySem.W.specialIn K (.builtin "object.__class__") "__get__" = some (some (.builtin "getset_descriptor.__get__"))) (o7_Call : PySem.W.takesIn K (.builtin "object.__class__") = some true) (o8_Call : PySem.W.mroIn K C_Call (.type "object") = some true) (ic_Call : PySem.W.isClsIn K C_Call = true) (ty_Call : PySem.W.typeIn K (.ref C_Call) = some (.type "type")) (s0_Call : PySem.W.subIn K (.type "NoneType") (.ref C_Call) = some false) (s1_Call : PySem.W.subIn K (.type "bool") (.ref C_Call) = some false) (s2_Call : PySem.W.subIn K (.type "int") (.ref C_Call) = some false) (s3_Call : PySem.W.subIn K (.type "str") (.ref C_Call) = some false) (s4_Call : PySem.W.subIn K (.type "tuple") (.ref C_Call) = some false) (s5_Call : PySem.W.subIn K (.type "list") (.ref C_Call) = some false) (ne_Call : PySem.W.findIn K (.ref C_Call) "__ne__" = some (some (.builtin "object.__ne__"))) (ob_Call : PySem.W.subIn K (.ref C_Call) (.type "object") = some true)
    {C_Voice : Addr} (a_Voice : PySem.W.nsIn K mainGlobals "Voice" = some (some (.ref C_Voice))) (o1_Voice : PySem.W.plainGet K C_Voice Str.empty = true) (o2_Voice : PySem.W.hasDictIn K C_Voice = true) (o3_Voice : PySem.W.plainOver K C_Voice = true) (o4_Voice : PySem.W.findIn K (.ref C_Voice) "__setattr__" = some (some (.builtin "object.__setattr__"))) (o5_Voice : PySem.W.findIn K (.ref C_Voice) "__class__" = some (some (.builtin "object.__class__"))) (o6_Voice : PySem.W.specialIn K (.builtin "object.__class__") "__get__" = some (some (.builtin "getset_descriptor.__get__"))) (o7_Voice : PySem.W.takesIn K (.builtin "object.__class__") = some true) (o8_Voice : PySem.W.mroIn K C_Voice (.type "object") = some true) (ic_Voice : PySem.W.isClsIn K C_Voice = true) (ty_Voice : PySem.W.typeIn K (.ref C_Voice) = some (.type "type")) (s0_Voice : PySem.W.subIn K (.type "NoneType") (.ref C_Voice) = some false) (s1_Voice : PySem.W.subIn K (.type "bool") (.ref C_Voice) = some false) (s2_Voice : PySem.W.subIn K (.type "int") (.ref C_Voice) = some false) (s3_Voice : PySem.W.subIn K (.type "str") (.ref C_Voice) = some false) (s4_Voice : PySem.W.subIn K (.type "tuple") (.ref C_Voice) = some false) (s5_Voice : PySem.W.subIn K (.type "list") (.ref C_Voice) = some false) (ne_Voice : PySem.W.findIn K (.ref C_Voice) "__ne__" = some (some (.builtin "object.__ne__"))) (ob_Voice : PySem.W.subIn K (.ref C_Voice) (.type "object") = some true)
    (n_Call_busy : PySem.W.findIn K (.ref C_Call) "busy" = some none)
    (n_Call_distance : PySem.W.findIn K (.ref C_Call) "distance" = some none)
    (n_Call_joins : PySem.W.findIn K (.ref C_Call) "joins" = some none)
    (n_Call_least : PySem.W.findIn K (.ref C_Call) "least" = some none)
    (n_Call_length : PySem.W.findIn K (.ref C_Call) "length" = some none)
    (n_Call_name : PySem.W.findIn K (.ref C_Call) "name" = some none)
    (n_Voice_calls : PySem.W.findIn K (.ref C_Voice) "calls" = some none)
    (n_Voice_names : PySem.W.findIn K (.ref C_Voice) "names" = some none)
    (n_Voice_reach : PySem.W.findIn K (.ref C_Voice) "reach" = some none)
    {C_InvalidCall : Addr} (a_InvalidCall : PySem.W.nsIn K mainGlobals "InvalidCall" = some (some (.ref C_InvalidCall)))
    {C_NoCall : Addr} (a_NoCall : PySem.W.nsIn K mainGlobals "NoCall" = some (some (.ref C_NoCall)))
    {C_InvalidText : Addr} (a_InvalidText : PySem.W.nsIn K mainGlobals "InvalidText" = some (some (.ref C_InvalidText)))
    {C_InvalidVoice : Addr} (a_InvalidVoice : PySem.W.nsIn K mainGlobals "InvalidVoice" = some (some (.ref C_InvalidVoice)))
    {C_RoadError : Addr} (a_RoadError : PySem.W.nsIn K mainGlobals "RoadError" = some (some (.ref C_RoadError)))
    (eb_InvalidCall : PySem.W.subIn K (.ref C_InvalidCall) (.type "BaseException") = some true)
    (et_InvalidCall : PySem.W.typeIn K (.ref C_InvalidCall) = some (.type "type"))
    (ek_InvalidCall : PySem.W.keepIn K (.ref C_InvalidCall) = true)
    (eh_InvalidCall : PySem.W.hasDictIn K C_InvalidCall = true)
    (kr_InvalidCall : PySem.W.excInitIn K C_InvalidCall [.type "ValueError", .type "Exception", .type "BaseException", .type "object"] "ValueError.__new__" = true)
    (kr2_InvalidCall : PySem.W.excOver K C_InvalidCall [.type "ValueError", .type "Exception", .type "BaseException", .type "object"] = true)
    (kr3_InvalidCall : PySem.W.ks_superIn K C_InvalidCall C_InvalidCall "__init__" = some (some (.builtin "ValueError.__init__")))
    (e_op : PySem.W.nsIn K cStatics "thirdparty.any" = some none)
    (e1_InvalidCall : PySem.W.subIn K (.ref C_InvalidCall) (.type "ValueError") = some true)
    (e2_InvalidCall : PySem.W.mroIn K C_InvalidCall (.ref C_InvalidCall) = some true)
    (e3_InvalidCall : PySem.W.findIn K (.ref C_InvalidCall) "__setattr__" = some (some (.builtin "object.__setattr__")))
    (e4_InvalidCall : PySem.W.takerIn K C_InvalidCall "word" = some none)
    {fe_InvalidCall cda_InvalidCall cc_InvalidCall : Addr} {oc_InvalidCall kV_InvalidCall dc_InvalidCall pm_InvalidCall ct_InvalidCall cl1_InvalidCall cl2_InvalidCall : Value} {od_InvalidCall an_InvalidCall cd1_InvalidCall cd2_InvalidCall : Option Addr} {sl_InvalidCall sl1_InvalidCall sl2_InvalidCall : Array (Option Value)} {vs_InvalidCall : Array Value} {fi_InvalidCall : Str} {tf_InvalidCall : Tok}
    (e5_InvalidCall : PySem.W.findIn K (.ref C_InvalidCall) "__init__" = some (some (.ref fe_InvalidCall)))
    (e6_InvalidCall : PySem.W.typeIn K (.ref fe_InvalidCall) = some (.type "function"))
    (e7_InvalidCall : K.lookup fe_InvalidCall = some ⟨oc_InvalidCall, od_InvalidCall, .func (PySem.W.ksFn "__init__" "InvalidCall.__init__" (defArgs st_InvalidCall_init) (defBody st_InvalidCall_init) (defScope st_InvalidCall_init) .none kV_InvalidCall dc_InvalidCall pm_InvalidCall an_InvalidCall (.ref cda_InvalidCall) ct_InvalidCall cc_InvalidCall), sl_InvalidCall⟩)
    (e8_InvalidCall : PySem.W.codeIn K (.ref cda_InvalidCall) "InvalidCall.__init__" = true)
    (e9_InvalidCall : K.lookup cda_InvalidCall = some ⟨cl1_InvalidCall, cd1_InvalidCall, .fields vs_InvalidCall, sl1_InvalidCall⟩)
    (rr1_InvalidCall : vs_InvalidCall[2]? = some (.str fi_InvalidCall tf_InvalidCall))
    (rr2_InvalidCall : ((P.main.file : Str) == fi_InvalidCall) = true)
    (e0_InvalidCall : K.lookup cc_InvalidCall = some ⟨cl2_InvalidCall, cd2_InvalidCall, .cell (some (.ref C_InvalidCall)), sl2_InvalidCall⟩)
    (e_sup : PySem.W.nsIn K mainGlobals "super" = some none)
    (rr_top : (P.main.scope.names.lookup ("super" : Str)).isSome = false)
    (eb_InvalidText : PySem.W.subIn K (.ref C_InvalidText) (.type "BaseException") = some true)
    (et_InvalidText : PySem.W.typeIn K (.ref C_InvalidText) = some (.type "type"))
    (ek_InvalidText : PySem.W.keepIn K (.ref C_InvalidText) = true)
    (eh_InvalidText : PySem.W.hasDictIn K C_InvalidText = true)
    (kr_InvalidText : PySem.W.excInitIn K C_InvalidText [.type "ValueError", .type "Exception", .type "BaseException", .type "object"] "ValueError.__new__" = true)
    (kr2_InvalidText : PySem.W.excOver K C_InvalidText [.type "ValueError", .type "Exception", .type "BaseException", .type "object"] = true)
    (kr3_InvalidText : PySem.W.ks_superIn K C_InvalidText C_InvalidText "__init__" = some (some (.builtin "ValueError.__init__")))
    (e1_InvalidText : PySem.W.subIn K (.ref C_InvalidText) (.type "ValueError") = some true)
    (e2_InvalidText : PySem.W.mroIn K C_InvalidText (.ref C_InvalidText) = some true)
    (e3_InvalidText : PySem.W.findIn K (.ref C_InvalidText) "__setattr__" = some (some (.builtin "object.__setattr__")))
    (e4_InvalidText : PySem.W.takerIn K C_InvalidText "at" = some none)
    {fe_InvalidText cda_InvalidText cc_InvalidText : Addr} {oc_InvalidText kV_InvalidText dc_InvalidText pm_InvalidText ct_InvalidText cl1_InvalidText cl2_InvalidText : Value} {od_InvalidText an_InvalidText cd1_InvalidText cd2_InvalidText : Option Addr} {sl_InvalidText sl1_InvalidText sl2_InvalidText : Array (Option Value)} {vs_InvalidText : Array Value} {fi_InvalidText : Str} {tf_InvalidText : Tok}
    (e5_InvalidText : PySem.W.findIn K (.ref C_InvalidText) "__init__" = some (some (.ref fe_InvalidText)))
    (e6_InvalidText : PySem.W.typeIn K (.ref fe_InvalidText) = some (.type "function"))
    (e7_InvalidText : K.lookup fe_InvalidText = some ⟨oc_InvalidText, od_InvalidText, .func (PySem.W.ksFn "__init__" "InvalidText.__init__" (defArgs st_InvalidText_init) (defBody st_InvalidText_init) (defScope st_InvalidText_init) .none kV_InvalidText dc_InvalidText pm_InvalidText an_InvalidText (.ref cda_InvalidText) ct_InvalidText cc_InvalidText), sl_InvalidText⟩)
    (e8_InvalidText : PySem.W.codeIn K (.ref cda_InvalidText) "InvalidText.__init__" = true)
    (e9_InvalidText : K.lookup cda_InvalidText = some ⟨cl1_InvalidText, cd1_InvalidText, .fields vs_InvalidText, sl1_InvalidText⟩)
    (rr1_InvalidText : vs_InvalidText[2]? = some (.str fi_InvalidText tf_InvalidText))
    (rr2_InvalidText : ((P.main.file : Str) == fi_InvalidText) = true)
    (e0_InvalidText : K.lookup cc_InvalidText = some ⟨cl2_InvalidText, cd2_InvalidText, .cell (some (.ref C_InvalidText)), sl2_InvalidText⟩)
    (eb_InvalidVoice : PySem.W.subIn K (.ref C_InvalidVoice) (.type "BaseException") = some true)
    (et_InvalidVoice : PySem.W.typeIn K (.ref C_InvalidVoice) = some (.type "type"))
    (ek_InvalidVoice : PySem.W.keepIn K (.ref C_InvalidVoice) = true)
    (eh_InvalidVoice : PySem.W.hasDictIn K C_InvalidVoice = true)
    (kr_InvalidVoice : PySem.W.excInitIn K C_InvalidVoice [.type "ValueError", .type "Exception", .type "BaseException", .type "object"] "ValueError.__new__" = true)
    (kr2_InvalidVoice : PySem.W.excOver K C_InvalidVoice [.type "ValueError", .type "Exception", .type "BaseException", .type "object"] = true)
    (kr3_InvalidVoice : PySem.W.ks_superIn K C_InvalidVoice C_InvalidVoice "__init__" = some (some (.builtin "ValueError.__init__")))
    (e1_InvalidVoice : PySem.W.subIn K (.ref C_InvalidVoice) (.type "ValueError") = some true)
    (e2_InvalidVoice : PySem.W.mroIn K C_InvalidVoice (.ref C_InvalidVoice) = some true)
    (e3_InvalidVoice : PySem.W.findIn K (.ref C_InvalidVoice) "__setattr__" = some (some (.builtin "object.__setattr__")))
    (e4_InvalidVoice : PySem.W.takerIn K C_InvalidVoice "word" = some none)
    {fe_InvalidVoice cda_InvalidVoice cc_InvalidVoice : Addr} {oc_InvalidVoice kV_InvalidVoice dc_InvalidVoice pm_InvalidVoice ct_InvalidVoice cl1_InvalidVoice cl2_InvalidVoice : Value} {od_InvalidVoice an_InvalidVoice cd1_InvalidVoice cd2_InvalidVoice : Option Addr} {sl_InvalidVoice sl1_InvalidVoice sl2_InvalidVoice : Array (Option Value)} {vs_InvalidVoice : Array Value} {fi_InvalidVoice : Str} {tf_InvalidVoice : Tok}
    (e5_InvalidVoice : PySem.W.findIn K (.ref C_InvalidVoice) "__init__" = some (some (.ref fe_InvalidVoice)))
    (e6_InvalidVoice : PySem.W.typeIn K (.ref fe_InvalidVoice) = some (.type "function"))
    (e7_InvalidVoice : K.lookup fe_InvalidVoice = some ⟨oc_InvalidVoice, od_InvalidVoice, .func (PySem.W.ksFn "__init__" "InvalidVoice.__init__" (defArgs st_InvalidVoice_init) (defBody st_InvalidVoice_init) (defScope st_InvalidVoice_init) .none kV_InvalidVoice dc_InvalidVoice pm_InvalidVoice an_InvalidVoice (.ref cda_InvalidVoice) ct_InvalidVoice cc_InvalidVoice), sl_InvalidVoice⟩)
    (e8_InvalidVoice : PySem.W.codeIn K (.ref cda_InvalidVoice) "InvalidVoice.__init__" = true)
    (e9_InvalidVoice : K.lookup cda_InvalidVoice = some ⟨cl1_InvalidVoice, cd1_InvalidVoice, .fields vs_InvalidVoice, sl1_InvalidVoice⟩)
    (rr1_InvalidVoice : vs_InvalidVoice[2]? = some (.str fi_InvalidVoice tf_InvalidVoice))
    (rr2_InvalidVoice : ((P.main.file : Str) == fi_InvalidVoice) = true)
    (e0_InvalidVoice : K.lookup cc_InvalidVoice = some ⟨cl2_InvalidVoice, cd2_InvalidVoice, .cell (some (.ref C_InvalidVoice)), sl2_InvalidVoice⟩)
    (eb_NoCall : PySem.W.subIn K (.ref C_NoCall) (.type "BaseException") = some true)
    (et_NoCall : PySem.W.typeIn K (.ref C_NoCall) = some (.type "type"))
    (ek_NoCall : PySem.W.keepIn K (.ref C_NoCall) = true)
    (eh_NoCall : PySem.W.hasDictIn K C_NoCall = true)
    (kr_NoCall : PySem.W.excInitIn K C_NoCall [.type "IndexError", .type "LookupError", .type "Exception", .type "BaseException", .type "object"] "IndexError.__new__" = true)
    (kr2_NoCall : PySem.W.excOver K C_NoCall [.type "IndexError", .type "LookupError", .type "Exception", .type "BaseException", .type "object"] = true)
    (kr3_NoCall : PySem.W.ks_superIn K C_NoCall C_NoCall "__init__" = some (some (.builtin "IndexError.__init__")))
    (e1_NoCall : PySem.W.subIn K (.ref C_NoCall) (.type "IndexError") = some true)
    (e2_NoCall : PySem.W.mroIn K C_NoCall (.ref C_NoCall) = some true)
    (e3_NoCall : PySem.W.findIn K (.ref C_NoCall) "__setattr__" = some (some (.builtin "object.__setattr__")))
    (e4_NoCall : PySem.W.takerIn K C_NoCall "at" = some none)
    {fe_NoCall cda_NoCall cc_NoCall : Addr} {oc_NoCall kV_NoCall dc_NoCall pm_NoCall ct_NoCall cl1_NoCall cl2_NoCall : Value} {od_NoCall an_NoCall cd1_NoCall cd2_NoCall : Option Addr} {sl_NoCall sl1_NoCall sl2_NoCall : Array (Option Value)} {vs_NoCall : Array Value} {fi_NoCall : Str} {tf_NoCall : Tok}
    (e5_NoCall : PySem.W.findIn K (.ref C_NoCall) "__init__" = some (some (.ref fe_NoCall)))
    (e6_NoCall : PySem.W.typeIn K (.ref fe_NoCall) = some (.type "function"))
    (e7_NoCall : K.lookup fe_NoCall = some ⟨oc_NoCall, od_NoCall, .func (PySem.W.ksFn "__init__" "NoCall.__init__" (defArgs st_NoCall_init) (defBody st_NoCall_init) (defScope st_NoCall_init) .none kV_NoCall dc_NoCall pm_NoCall an_NoCall (.ref cda_NoCall) ct_NoCall cc_NoCall), sl_NoCall⟩)
    (e8_NoCall : PySem.W.codeIn K (.ref cda_NoCall) "NoCall.__init__" = true)
    (e9_NoCall : K.lookup cda_NoCall = some ⟨cl1_NoCall, cd1_NoCall, .fields vs_NoCall, sl1_NoCall⟩)
    (rr1_NoCall : vs_NoCall[2]? = some (.str fi_NoCall tf_NoCall))
    (rr2_NoCall : ((P.main.file : Str) == fi_NoCall) = true)
    (e0_NoCall : K.lookup cc_NoCall = some ⟨cl2_NoCall, cd2_NoCall, .cell (some (.ref C_NoCall)), sl2_NoCall⟩)
    (ex_NoCall_InvalidCall : PySem.W.subIn K (.ref C_NoCall) (.ref C_InvalidCall) = some false)
    (ex_InvalidText_InvalidCall : PySem.W.subIn K (.ref C_InvalidText) (.ref C_InvalidCall) = some false)
    (ex_InvalidVoice_InvalidCall : PySem.W.subIn K (.ref C_InvalidVoice) (.ref C_InvalidCall) = some false)
    (ex_InvalidCall_InvalidCall : PySem.W.subIn K (.ref C_InvalidCall) (.ref C_InvalidCall) = some true)
    (ex_RoadError_InvalidCall : PySem.W.subIn K (.ref C_RoadError) (.ref C_InvalidCall) = some false)
    (ex_NoCall_InvalidVoice : PySem.W.subIn K (.ref C_NoCall) (.ref C_InvalidVoice) = some false)
    (ex_InvalidText_InvalidVoice : PySem.W.subIn K (.ref C_InvalidText) (.ref C_InvalidVoice) = some false)
    (ex_InvalidVoice_InvalidVoice : PySem.W.subIn K (.ref C_InvalidVoice) (.ref C_InvalidVoice) = some true)
    (ex_RoadError_InvalidVoice : PySem.W.subIn K (.ref C_RoadError) (.ref C_InvalidVoice) = some false)
    (ex_NoCall_InvalidText : PySem.W.subIn K (.ref C_NoCall) (.ref C_InvalidText) = some false)
    (ex_InvalidText_InvalidText : PySem.W.subIn K (.ref C_InvalidText) (.ref C_InvalidText) = some true)
    (ex_RoadError_InvalidText : PySem.W.subIn K (.ref C_RoadError) (.ref C_InvalidText) = some false)
    (ga_InvalidCall : PySem.W.findIn K (.ref C_InvalidCall) "__getattribute__" = some (some (.builtin "BaseException.__getattribute__")))
    (gg_InvalidCall : PySem.W.findIn K (.ref C_InvalidCall) "__getattr__" = some none)
    (ca_InvalidCall : PySem.W.findIn K (.ref C_InvalidCall) "__class__" = some (some (.builtin "object.__class__")))
    (xcn : PySem.W.specialIn K (.builtin "object.__class__") "__get__" = some (some (.builtin "getset_descriptor.__get__")))
    (xct : PySem.W.takesIn K (.builtin "object.__class__") = some true)
    (cm_InvalidCall : PySem.W.mroIn K C_InvalidCall (.type "object") = some true)
    (ga_InvalidVoice : PySem.W.findIn K (.ref C_InvalidVoice) "__getattribute__" = some (some (.builtin "BaseException.__getattribute__")))
    (gg_InvalidVoice : PySem.W.findIn K (.ref C_InvalidVoice) "__getattr__" = some none)
    (ca_InvalidVoice : PySem.W.findIn K (.ref C_InvalidVoice) "__class__" = some (some (.builtin "object.__class__")))
    (cm_InvalidVoice : PySem.W.mroIn K C_InvalidVoice (.type "object") = some true)
    (ga_InvalidText : PySem.W.findIn K (.ref C_InvalidText) "__getattribute__" = some (some (.builtin "BaseException.__getattribute__")))
    (gg_InvalidText : PySem.W.findIn K (.ref C_InvalidText) "__getattr__" = some none)
    (ca_InvalidText : PySem.W.findIn K (.ref C_InvalidText) "__class__" = some (some (.builtin "object.__class__")))
    (cm_InvalidText : PySem.W.mroIn K C_InvalidText (.type "object") = some true)
    (xn_InvalidCall_word : PySem.W.findIn K (.ref C_InvalidCall) "word" = some none)
    (xn_InvalidText_at : PySem.W.findIn K (.ref C_InvalidText) "at" = some none)
    (xn_InvalidVoice_word : PySem.W.findIn K (.ref C_InvalidVoice) "word" = some none)
    (ki_Voice_str : PySem.W.subIn K (.ref C_Voice) (.type "str") = some false)
    {f1 : Addr} {oc1 kV1 dc1 pm1 cd1 ct1 : Value} {od1 an1 : Option Addr} {sl1 : Array (Option Value)}
    (a1 : PySem.W.findIn K (.ref C_Call) "__str__" = some (some (.ref f1))) (l1 : K.lookup f1 = some ⟨oc1, od1, .func (PySem.W.fnOf "__str__" "Call.__str__" (defArgs st_Call_str) (defBody st_Call_str) (defScope st_Call_str) .none kV1 dc1 pm1 an1 cd1 ct1), sl1⟩) (c1 : PySem.W.codeIn K cd1 "Call.__str__" = true) (k1 : PySem.W.keepIn K (.ref f1) = true)
    (n1 : PySem.W.isFn K (.ref f1) = true)
    {f2 : Addr} {oc2 kV2 dc2 pm2 cd2 ct2 : Value} {od2 an2 : Option Addr} {sl2 : Array (Option Value)}
    (a2 : PySem.W.findIn K (.ref C_Call) "__eq__" = some (some (.ref f2))) (l2 : K.lookup f2 = some ⟨oc2, od2, .func (PySem.W.fnOf "__eq__" "Call.__eq__" (defArgs st_Call_eq) (defBody st_Call_eq) (defScope st_Call_eq) .none kV2 dc2 pm2 an2 cd2 ct2), sl2⟩) (c2 : PySem.W.codeIn K cd2 "Call.__eq__" = true) (k2 : PySem.W.keepIn K (.ref f2) = true)
    (n2 : PySem.W.isFn K (.ref f2) = true)
    {f3 : Addr} {oc3 kV3 dc3 pm3 cd3 ct3 : Value} {od3 an3 : Option Addr} {sl3 : Array (Option Value)}
    (a3 : PySem.W.nsIn K mainGlobals "is_name" = some (some (.ref f3))) (l3 : K.lookup f3 = some ⟨oc3, od3, .func (PySem.W.fnOf "is_name" "is_name" (defArgs st_is_name) (defBody st_is_name) (defScope st_is_name) .none kV3 dc3 pm3 an3 cd3 ct3), sl3⟩) (c3 : PySem.W.codeIn K cd3 "is_name" = true) (k3 : PySem.W.keepIn K (.ref f3) = true)
    {f4 : Addr} {oc4 kV4 dc4 pm4 cd4 ct4 : Value} {od4 an4 : Option Addr} {sl4 : Array (Option Value)}
    (a4 : PySem.W.nsIn K mainGlobals "is_integer" = some (some (.ref f4))) (l4 : K.lookup f4 = some ⟨oc4, od4, .func (PySem.W.fnOf "is_integer" "is_integer" (defArgs st_is_integer) (defBody st_is_integer) (defScope st_is_integer) .none kV4 dc4 pm4 an4 cd4 ct4), sl4⟩) (c4 : PySem.W.codeIn K cd4 "is_integer" = true) (k4 : PySem.W.keepIn K (.ref f4) = true)
    {f5 : Addr} {oc5 kV5 dc5 pm5 cd5 ct5 : Value} {od5 an5 : Option Addr} {sl5 : Array (Option Value)}
    (a5 : PySem.W.nsIn K mainGlobals "is_within" = some (some (.ref f5))) (l5 : K.lookup f5 = some ⟨oc5, od5, .func (PySem.W.fnOf "is_within" "is_within" (defArgs st_is_within) (defBody st_is_within) (defScope st_is_within) .none kV5 dc5 pm5 an5 cd5 ct5), sl5⟩) (c5 : PySem.W.codeIn K cd5 "is_within" = true) (k5 : PySem.W.keepIn K (.ref f5) = true)
    {f6 : Addr} {oc6 kV6 dc6 pm6 cd6 ct6 : Value} {od6 an6 : Option Addr} {sl6 : Array (Option Value)}
    (a6 : PySem.W.nsIn K mainGlobals "is_word" = some (some (.ref f6))) (l6 : K.lookup f6 = some ⟨oc6, od6, .func (PySem.W.fnOf "is_word" "is_word" (defArgs st_is_word) (defBody st_is_word) (defScope st_is_word) .none kV6 dc6 pm6 an6 cd6 ct6), sl6⟩) (c6 : PySem.W.codeIn K cd6 "is_word" = true) (k6 : PySem.W.keepIn K (.ref f6) = true)
    {f7 : Addr} {oc7 kV7 dc7 pm7 cd7 ct7 : Value} {od7 an7 : Option Addr} {sl7 : Array (Option Value)}
    (a7 : PySem.W.nsIn K mainGlobals "need" = some (some (.ref f7))) (l7 : K.lookup f7 = some ⟨oc7, od7, .func (PySem.W.fnOf "need" "need" (defArgs st_need) (defBody st_need) (defScope st_need) .none kV7 dc7 pm7 an7 cd7 ct7), sl7⟩) (c7 : PySem.W.codeIn K cd7 "need" = true) (k7 : PySem.W.keepIn K (.ref f7) = true)
    {f8 : Addr} {oc8 kV8 dc8 pm8 cd8 ct8 : Value} {od8 an8 : Option Addr} {sl8 : Array (Option Value)} {T8 : Addr}
    (a8 : PySem.W.findIn K (.ref C_Call) "__init__" = some (some (.ref f8))) (l8 : K.lookup f8 = some ⟨oc8, od8, .func (PySem.W.fnOf "__init__" "Call.__init__" (defArgs st_Call_init) (defBody st_Call_init) (defScope st_Call_init) (.ref T8) kV8 dc8 pm8 an8 cd8 ct8), sl8⟩) (c8 : PySem.W.codeIn K cd8 "Call.__init__" = true) (k8 : PySem.W.keepIn K (.ref f8) = true)
    {t8_0 t8_1 t8_2 : Tok} {tc8 : Value} {td8 : Option Addr} {tn8 : Nat} {ts8 : Array (Option Value)} (t8 : K.lookup T8 = some ⟨tc8, td8, .seq #[.str "wait" t8_0, .int 1 t8_1, .int 0 t8_2] tn8, ts8⟩)
    (n8 : PySem.W.isFn K (.ref f8) = true)
    (m8 : PySem.W.makesIn K C_Call = true) (q8 : PySem.W.keepIn K (.ref C_Call) = true)
    {f9 : Addr} {oc9 kV9 dc9 pm9 cd9 ct9 : Value} {od9 an9 : Option Addr} {sl9 : Array (Option Value)}
    (a9 : PySem.W.findIn K (.ref C_Voice) "__str__" = some (some (.ref f9))) (l9 : K.lookup f9 = some ⟨oc9, od9, .func (PySem.W.fnOf "__str__" "Voice.__str__" (defArgs st_Voice_str) (defBody st_Voice_str) (defScope st_Voice_str) .none kV9 dc9 pm9 an9 cd9 ct9), sl9⟩) (c9 : PySem.W.codeIn K cd9 "Voice.__str__" = true) (k9 : PySem.W.keepIn K (.ref f9) = true)
    (n9 : PySem.W.isFn K (.ref f9) = true)
    {f10 : Addr} {oc10 kV10 dc10 pm10 cd10 ct10 : Value} {od10 an10 : Option Addr} {sl10 : Array (Option Value)}
    (a10 : PySem.W.findIn K (.ref C_Voice) "__eq__" = some (some (.ref f10))) (l10 : K.lookup f10 = some ⟨oc10, od10, .func (PySem.W.fnOf "__eq__" "Voice.__eq__" (defArgs st_Voice_eq) (defBody st_Voice_eq) (defScope st_Voice_eq) .none kV10 dc10 pm10 an10 cd10 ct10), sl10⟩) (c10 : PySem.W.codeIn K cd10 "Voice.__eq__" = true) (k10 : PySem.W.keepIn K (.ref f10) = true)
    (n10 : PySem.W.isFn K (.ref f10) = true)
    {f11 : Addr} {oc11 kV11 dc11 pm11 cd11 ct11 : Value} {od11 an11 : Option Addr} {sl11 : Array (Option Value)}
    (a11 : PySem.W.findIn K (.ref C_Voice) "need" = some (some (.ref f11))) (l11 : K.lookup f11 = some ⟨oc11, od11, .func (PySem.W.fnOf "need" "Voice.need" (defArgs st_Voice_need) (defBody st_Voice_need) (defScope st_Voice_need) .none kV11 dc11 pm11 an11 cd11 ct11), sl11⟩) (c11 : PySem.W.codeIn K cd11 "Voice.need" = true) (k11 : PySem.W.keepIn K (.ref f11) = true)
    (n11 : PySem.W.isFn K (.ref f11) = true)
    {f12 : Addr} {oc12 kV12 dc12 pm12 cd12 ct12 : Value} {od12 an12 : Option Addr} {sl12 : Array (Option Value)}
    (a12 : PySem.W.findIn K (.ref C_Voice) "__getitem__" = some (some (.ref f12))) (l12 : K.lookup f12 = some ⟨oc12, od12, .func (PySem.W.fnOf "__getitem__" "Voice.__getitem__" (defArgs st_Voice_getitem) (defBody st_Voice_getitem) (defScope st_Voice_getitem) .none kV12 dc12 pm12 an12 cd12 ct12), sl12⟩) (c12 : PySem.W.codeIn K cd12 "Voice.__getitem__" = true) (k12 : PySem.W.keepIn K (.ref f12) = true)
    (n12 : PySem.W.isFn K (.ref f12) = true)
    {f13 : Addr} {oc13 kV13 dc13 pm13 cd13 ct13 : Value} {od13 an13 : Option Addr} {sl13 : Array (Option Value)}
    (a13 : PySem.W.nsIn K mainGlobals "is_sequence" = some (some (.ref f13))) (l13 : K.lookup f13 = some ⟨oc13, od13, .func (PySem.W.fnOf "is_sequence" "is_sequence" (defArgs st_is_sequence) (defBody st_is_sequence) (defScope st_is_sequence) .none kV13 dc13 pm13 an13 cd13 ct13), sl13⟩) (c13 : PySem.W.codeIn K cd13 "is_sequence" = true) (k13 : PySem.W.keepIn K (.ref f13) = true)
    {f14 : Addr} {oc14 kV14 dc14 pm14 cd14 ct14 : Value} {od14 an14 : Option Addr} {sl14 : Array (Option Value)}
    (a14 : PySem.W.findIn K (.ref C_Voice) "__init__" = some (some (.ref f14))) (l14 : K.lookup f14 = some ⟨oc14, od14, .func (PySem.W.fnOf "__init__" "Voice.__init__" (defArgs st_Voice_init) (defBody st_Voice_init) (defScope st_Voice_init) .none kV14 dc14 pm14 an14 cd14 ct14), sl14⟩) (c14 : PySem.W.codeIn K cd14 "Voice.__init__" = true) (k14 : PySem.W.keepIn K (.ref f14) = true)
    (n14 : PySem.W.isFn K (.ref f14) = true)
    (m14 : PySem.W.makesIn K C_Voice = true) (q14 : PySem.W.keepIn K (.ref C_Voice) = true)
    {f15 : Addr} {oc15 kV15 dc15 pm15 cd15 ct15 : Value} {od15 an15 : Option Addr} {sl15 : Array (Option Value)}
    (a15 : PySem.W.nsIn K mainGlobals "number_in" = some (some (.ref f15))) (l15 : K.lookup f15 = some ⟨oc15, od15, .func (PySem.W.fnOf "number_in" "number_in" (defArgs st_number_in) (defBody st_number_in) (defScope st_number_in) .none kV15 dc15 pm15 an15 cd15 ct15), sl15⟩) (c15 : PySem.W.codeIn K cd15 "number_in" = true) (k15 : PySem.W.keepIn K (.ref f15) = true)
    {f16 : Addr} {oc16 kV16 dc16 pm16 cd16 ct16 : Value} {od16 an16 : Option Addr} {sl16 : Array (Option Value)}
    (a16 : PySem.W.nsIn K mainGlobals "call_in" = some (some (.ref f16))) (l16 : K.lookup f16 = some ⟨oc16, od16, .func (PySem.W.fnOf "call_in" "call_in" (defArgs st_call_in) (defBody st_call_in) (defScope st_call_in) .none kV16 dc16 pm16 an16 cd16 ct16), sl16⟩) (c16 : PySem.W.codeIn K cd16 "call_in" = true) (k16 : PySem.W.keepIn K (.ref f16) = true)
    {f17 : Addr} {oc17 kV17 dc17 pm17 cd17 ct17 : Value} {od17 an17 : Option Addr} {sl17 : Array (Option Value)}
    {pa17 : Addr} {re17 : List Value} (r117 : PySem.W.readsIn K C_Voice (.type "type") = true) (r217 : PySem.W.specialIn K (.ref C_Voice) "__getattribute__" = some (some (.builtin "type.__getattribute__"))) (r317 : PySem.W.findCls K (.ref C_Voice) (.type "type") "read" = some (.get (.builtin "classmethod.__get__") (.ref pa17) .none (.ref C_Voice))) (r417 : PySem.W.recIn K pa17 "classmethod" = some (.ref f17 :: re17)) (r517 : PySem.W.fnIn K f17 = true)
    (l17 : K.lookup f17 = some ⟨oc17, od17, .func (PySem.W.fnOf "read" "Voice.read" (defArgs st_Voice_read) (defBody st_Voice_read) (defScope st_Voice_read) .none kV17 dc17 pm17 an17 cd17 ct17), sl17⟩) (c17 : PySem.W.codeIn K cd17 "Voice.read" = true) (k17 : PySem.W.keepIn K (.ref f17) = true)
    {f18 : Addr} {oc18 kV18 dc18 pm18 cd18 ct18 : Value} {od18 an18 : Option Addr} {sl18 : Array (Option Value)}
    (a18 : PySem.W.findIn K (.ref C_Voice) "without" = some (some (.ref f18))) (l18 : K.lookup f18 = some ⟨oc18, od18, .func (PySem.W.fnOf "without" "Voice.without" (defArgs st_Voice_without) (defBody st_Voice_without) (defScope st_Voice_without) .none kV18 dc18 pm18 an18 cd18 ct18), sl18⟩) (c18 : PySem.W.codeIn K cd18 "Voice.without" = true) (k18 : PySem.W.keepIn K (.ref f18) = true)
    (n18 : PySem.W.isFn K (.ref f18) = true)
    {f19 : Addr} {oc19 kV19 dc19 pm19 cd19 ct19 : Value} {od19 an19 : Option Addr} {sl19 : Array (Option Value)}
    (a19 : PySem.W.nsIn K mainGlobals "_law_deal" = some (some (.ref f19))) (l19 : K.lookup f19 = some ⟨oc19, od19, .func (PySem.W.fnOf "_law_deal" "_law_deal" (defArgs st_l_deal) (defBody st_l_deal) (defScope st_l_deal) .none kV19 dc19 pm19 an19 cd19 ct19), sl19⟩) (c19 : PySem.W.codeIn K cd19 "_law_deal" = true) (k19 : PySem.W.keepIn K (.ref f19) = true)
    {f20 : Addr} {oc20 kV20 dc20 pm20 cd20 ct20 : Value} {od20 an20 : Option Addr} {sl20 : Array (Option Value)}
    (a20 : PySem.W.nsIn K mainGlobals "_law_draw" = some (some (.ref f20))) (l20 : K.lookup f20 = some ⟨oc20, od20, .func (PySem.W.fnOf "_law_draw" "_law_draw" (defArgs st_l_draw) (defBody st_l_draw) (defScope st_l_draw) .none kV20 dc20 pm20 an20 cd20 ct20), sl20⟩) (c20 : PySem.W.codeIn K cd20 "_law_draw" = true) (k20 : PySem.W.keepIn K (.ref f20) = true)
    {f21 : Addr} {oc21 kV21 dc21 pm21 cd21 ct21 : Value} {od21 an21 : Option Addr} {sl21 : Array (Option Value)}
    (a21 : PySem.W.nsIn K mainGlobals "_law_mixed" = some (some (.ref f21))) (l21 : K.lookup f21 = some ⟨oc21, od21, .func (PySem.W.fnOf "_law_mixed" "_law_mixed" (defArgs st_l_mixed) (defBody st_l_mixed) (defScope st_l_mixed) .none kV21 dc21 pm21 an21 cd21 ct21), sl21⟩) (c21 : PySem.W.codeIn K cd21 "_law_mixed" = true) (k21 : PySem.W.keepIn K (.ref f21) = true)
    {f22 : Addr} {oc22 kV22 dc22 pm22 cd22 ct22 : Value} {od22 an22 : Option Addr} {sl22 : Array (Option Value)}
    (a22 : PySem.W.nsIn K mainGlobals "_law_tried" = some (some (.ref f22))) (l22 : K.lookup f22 = some ⟨oc22, od22, .func (PySem.W.fnOf "_law_tried" "_law_tried" (defArgs st_l_tried) (defBody st_l_tried) (defScope st_l_tried) .none kV22 dc22 pm22 an22 cd22 ct22), sl22⟩) (c22 : PySem.W.codeIn K cd22 "_law_tried" = true) (k22 : PySem.W.keepIn K (.ref f22) = true)
    {f23 : Addr} {oc23 kV23 dc23 pm23 cd23 ct23 : Value} {od23 an23 : Option Addr} {sl23 : Array (Option Value)}
    (a23 : PySem.W.nsIn K mainGlobals "law" = some (some (.ref f23))) (l23 : K.lookup f23 = some ⟨oc23, od23, .func (PySem.W.fnOf "law" "law" (defArgs st_law) (defBody st_law) (defScope st_law) .none kV23 dc23 pm23 an23 cd23 ct23), sl23⟩) (c23 : PySem.W.codeIn K cd23 "law" = true) (k23 : PySem.W.keepIn K (.ref f23) = true)
    (z_int : PySem.W.nsIn K mainGlobals "int" = some none)
    (z_abs : PySem.W.nsIn K mainGlobals "abs" = some none)
    (z_list : PySem.W.nsIn K mainGlobals "list" = some none)
    (z_len : PySem.W.nsIn K mainGlobals "len" = some none)
    (z_range : PySem.W.nsIn K mainGlobals "range" = some none)
    (z_str : PySem.W.nsIn K mainGlobals "str" = some none)
    (z_isinstance : PySem.W.nsIn K mainGlobals "isinstance" = some none)
    (z_all : PySem.W.nsIn K mainGlobals "all" = some none)
    (z_bool : PySem.W.nsIn K mainGlobals "bool" = some none)
    (z_enumerate : PySem.W.nsIn K mainGlobals "enumerate" = some none)
    (z_tuple : PySem.W.nsIn K mainGlobals "tuple" = some none)
    (z_set : PySem.W.nsIn K mainGlobals "set" = some none)
    (z_max : PySem.W.nsIn K mainGlobals "max" = some none)
    (z_min : PySem.W.nsIn K mainGlobals "min" = some none)
    {p_BUSY : Addr} {t_BUSY_0 t_BUSY_1 t_BUSY_2 : Tok} {td_BUSY : Option Addr} {tn_BUSY : Nat} {ts_BUSY : Array (Option Value)} (c_BUSY : PySem.W.nsIn K mainGlobals "BUSY" = some (some (.ref p_BUSY))) (d_BUSY : K.lookup p_BUSY = some ⟨.type "tuple", td_BUSY, .seq #[.str "wait" t_BUSY_0, .str "drop" t_BUSY_1, .str "cut" t_BUSY_2] tn_BUSY, ts_BUSY⟩)
    {t_DIGITS : Tok} (c_DIGITS : PySem.W.nsIn K mainGlobals "DIGITS" = some (some (.str "0123456789" t_DIGITS)))
    {t_GREATEST_DISTANCE : Tok} (c_GREATEST_DISTANCE : PySem.W.nsIn K mainGlobals "GREATEST_DISTANCE" = some (some (.int 4 t_GREATEST_DISTANCE)))
    {t_GREATEST_JOINS : Tok} (c_GREATEST_JOINS : PySem.W.nsIn K mainGlobals "GREATEST_JOINS" = some (some (.int 3 t_GREATEST_JOINS)))
    {t_GREATEST_LEAST : Tok} (c_GREATEST_LEAST : PySem.W.nsIn K mainGlobals "GREATEST_LEAST" = some (some (.int 4 t_GREATEST_LEAST)))
    {t_GREATEST_LENGTH : Tok} (c_GREATEST_LENGTH : PySem.W.nsIn K mainGlobals "GREATEST_LENGTH" = some (some (.int 3 t_GREATEST_LENGTH)))
    {t_LETTERS : Tok} (c_LETTERS : PySem.W.nsIn K mainGlobals "LETTERS" = some (some (.str "abcdefghijklmnopqrstuvwxyz" t_LETTERS)))
    {t_MOST_DIGITS : Tok} (c_MOST_DIGITS : PySem.W.nsIn K mainGlobals "MOST_DIGITS" = some (some (.int 4 t_MOST_DIGITS)))
    {t_MOST_LETTERS : Tok} (c_MOST_LETTERS : PySem.W.nsIn K mainGlobals "MOST_LETTERS" = some (some (.int 4 t_MOST_LETTERS)))
    {cc PP : Addr} (hcc : cd23 = .ref cc) (hPP : h.get? PP = some { cls := .none, data := .fields #[] }) (nPP : K.lookup PP = none) (hdP : PySem.W.codeHdIn K cc PP = true)
    : ∃ (fd : FuncData) (c P0 : Addr), Fun K "law" "law" st_law fa fd ∧ (∀ (s : Shared) (u : Value), BindsTo s fd ⟨[u], []⟩ [("_law_script", u)]) ∧ fd.code = .ref c ∧ h.get? P0 = some { cls := .none, data := .fields #[] } ∧ K.lookup P0 = none ∧ PySem.W.codeHdIn K c P0 = true ∧
      ∃ cl : Str → Addr, ∀ (base : Heap) (A : Around) (outer : List PySem.Env) (s0 : Shared) (H : Hp) (E : XK), LamX.TabB base mg c P0 → Room 9 (A.deeper (envOfC "law" (defScope st_law) s0.heap.objs.size fa (.ref c))) →
        PSs (cxOf (L2.CX P w) P w K mg base ["_law_script", "_law_spot", "_law_deal_here", "_law_told", "_law_lines", "_law_made", "_law_turned", "_law_a", "_law_b"] "law" (defScope st_law) fa (.ref c) A outer s0 H E) (defBody st_law) (tS ⟨K, cl, none, w, some (P0, lamO)⟩ (fun c d _ H' => E c d H') s_law) := by
  have e := hfa.symm.trans (PySem.W.mg_of X G a23)
  cases e
  let cl : Str → Addr := fun c => if c = "Call" then C_Call else if c = "Voice" then C_Voice else if c = "InvalidCall" then C_InvalidCall else if c = "NoCall" then C_NoCall else if c = "InvalidText" then C_InvalidText else if c = "InvalidVoice" then C_InvalidVoice else if c = "RoadError" then C_RoadError else 0
  have hcl_Call : (⟨K, cl, none, w, some (PP, lamO)⟩ : Kx).cl "Call" = C_Call := by dsimp only [cl]; repeat (first | rw [if_pos rfl] | rw [if_neg (by decide)])
  have hcl_Voice : (⟨K, cl, none, w, some (PP, lamO)⟩ : Kx).cl "Voice" = C_Voice := by dsimp only [cl]; repeat (first | rw [if_pos rfl] | rw [if_neg (by decide)])
  have hcl_InvalidCall : (⟨K, cl, none, w, some (PP, lamO)⟩ : Kx).cl "InvalidCall" = C_InvalidCall := by dsimp only [cl]; repeat (first | rw [if_pos rfl] | rw [if_neg (by decide)])
  have hcl_NoCall : (⟨K, cl, none, w, some (PP, lamO)⟩ : Kx).cl "NoCall" = C_NoCall := by dsimp only [cl]; repeat (first | rw [if_pos rfl] | rw [if_neg (by decide)])
  have hcl_InvalidText : (⟨K, cl, none, w, some (PP, lamO)⟩ : Kx).cl "InvalidText" = C_InvalidText := by dsimp only [cl]; repeat (first | rw [if_pos rfl] | rw [if_neg (by decide)])
  have hcl_InvalidVoice : (⟨K, cl, none, w, some (PP, lamO)⟩ : Kx).cl "InvalidVoice" = C_InvalidVoice := by dsimp only [cl]; repeat (first | rw [if_pos rfl] | rw [if_neg (by decide)])
  have hcl_RoadError : (⟨K, cl, none, w, some (PP, lamO)⟩ : Kx).cl "RoadError" = C_RoadError := by dsimp only [cl]; repeat (first | rw [if_pos rfl] | rw [if_neg (by decide)])
  have F8 : FunD K "__init__" "Call.__init__" (defArgs st_Call_init) (defBody st_Call_init) (defScope st_Call_init) [.str "wait", .int 1, .int 0] [] f8 (PySem.W.fnOf "__init__" "Call.__init__" (defArgs st_Call_init) (defBody st_Call_init) (defScope st_Call_init) (.ref T8) kV8 dc8 pm8 an8 cd8 ct8) := ⟨⟨oc8, od8, .ref T8, kV8, dc8, pm8, an8, cd8, ct8, sl8, rfl, l8, c8, .inr ⟨by simp, T8, _, [.str "wait" t8_0, .int 1 t8_1, .int 0 t8_2], tn8, rfl, t8, rfl, (.cons ⟨t8_0, rfl⟩ (.cons ⟨t8_1, rfl⟩ (.cons ⟨t8_2, rfl⟩ .nil)))⟩, .inl rfl⟩, k8⟩
  have T : Tx P ⟨K, cl, none, w, some (PP, lamO)⟩ mg ⟨f1, (PySem.W.fnOf "__str__" "Call.__str__" (defArgs st_Call_str) (defBody st_Call_str) (defScope st_Call_str) .none kV1 dc1 pm1 an1 cd1 ct1), f2, (PySem.W.fnOf "__eq__" "Call.__eq__" (defArgs st_Call_eq) (defBody st_Call_eq) (defScope st_Call_eq) .none kV2 dc2 pm2 an2 cd2 ct2), f3, (PySem.W.fnOf "is_name" "is_name" (defArgs st_is_name) (defBody st_is_name) (defScope st_is_name) .none kV3 dc3 pm3 an3 cd3 ct3), f4, (PySem.W.fnOf "is_integer" "is_integer" (defArgs st_is_integer) (defBody st_is_integer) (defScope st_is_integer) .none kV4 dc4 pm4 an4 cd4 ct4), f5, (PySem.W.fnOf "is_within" "is_within" (defArgs st_is_within) (defBody st_is_within) (defScope st_is_within) .none kV5 dc5 pm5 an5 cd5 ct5), f6, (PySem.W.fnOf "is_word" "is_word" (defArgs st_is_word) (defBody st_is_word) (defScope st_is_word) .none kV6 dc6 pm6 an6 cd6 ct6), f7, (PySem.W.fnOf "need" "need" (defArgs st_need) (defBody st_need) (defScope st_need) .none kV7 dc7 pm7 an7 cd7 ct7), f8, (PySem.W.fnOf "__init__" "Call.__init__" (defArgs st_Call_init) (defBody st_Call_init) (defScope st_Call_init) (.ref T8) kV8 dc8 pm8 an8 cd8 ct8), f9, (PySem.W.fnOf "__str__" "Voice.__str__" (defArgs st_Voice_str) (defBody st_Voice_str) (defScope st_Voice_str) .none kV9 dc9 pm9 an9 cd9 ct9), f10, (PySem.W.fnOf "__eq__" "Voice.__eq__" (defArgs st_Voice_eq) (defBody st_Voice_eq) (defScope st_Voice_eq) .none kV10 dc10 pm10 an10 cd10 ct10), f11, (PySem.W.fnOf "need" "Voice.need" (defArgs st_Voice_need) (defBody st_Voice_need) (defScope st_Voice_need) .none kV11 dc11 pm11 an11 cd11 ct11), f12, (PySem.W.fnOf "__getitem__" "Voice.__getitem__" (defArgs st_Voice_getitem) (defBody st_Voice_getitem) (defScope st_Voice_getitem) .none kV12 dc12 pm12 an12 cd12 ct12), f13, (PySem.W.fnOf "is_sequence" "is_sequence" (defArgs st_is_sequence) (defBody st_is_sequence) (defScope st_is_sequence) .none kV13 dc13 pm13 an13 cd13 ct13), f14, (PySem.W.fnOf "__init__" "Voice.__init__" (defArgs st_Voice_init) (defBody st_Voice_init) (defScope st_Voice_init) .none kV14 dc14 pm14 an14 cd14 ct14), f15, (PySem.W.fnOf "number_in" "number_in" (defArgs st_number_in) (defBody st_number_in) (defScope st_number_in) .none kV15 dc15 pm15 an15 cd15 ct15), f16, (PySem.W.fnOf "call_in" "call_in" (defArgs st_call_in) (defBody st_call_in) (defScope st_call_in) .none kV16 dc16 pm16 an16 cd16 ct16), f17, (PySem.W.fnOf "read" "Voice.read" (defArgs st_Voice_read) (defBody st_Voice_read) (defScope st_Voice_read) .none kV17 dc17 pm17 an17 cd17 ct17), f18, (PySem.W.fnOf "without" "Voice.without" (defArgs st_Voice_without) (defBody st_Voice_without) (defScope st_Voice_without) .none kV18 dc18 pm18 an18 cd18 ct18), f19, (PySem.W.fnOf "_law_deal" "_law_deal" (defArgs st_l_deal) (defBody st_l_deal) (defScope st_l_deal) .none kV19 dc19 pm19 an19 cd19 ct19), f20, (PySem.W.fnOf "_law_draw" "_law_draw" (defArgs st_l_draw) (defBody st_l_draw) (defScope st_l_draw) .none kV20 dc20 pm20 an20 cd20 ct20), f21, (PySem.W.fnOf "_law_mixed" "_law_mixed" (defArgs st_l_mixed) (defBody st_l_mixed) (defScope st_l_mixed) .none kV21 dc21 pm21 an21 cd21 ct21), f22, (PySem.W.fnOf "_law_tried" "_law_tried" (defArgs st_l_tried) (defBody st_l_tried) (defScope st_l_tried) .none kV22 dc22 pm22 an22 cd22 ct22), fa, (PySem.W.fnOf "law" "law" (defArgs st_law) (defBody st_law) (defScope st_law) .none kV23 dc23 pm23 an23 cd23 ct23)⟩ :=
    { g_Call := by rw [hcl_Call]; exact PySem.W.mg_of X G a_Call,
      K_Call := ⟨by show ClsT K _; rw [hcl_Call]; exact ⟨⟨o1_Call, o2_Call, o3_Call, o4_Call⟩, o5_Call, o6_Call, o7_Call, o8_Call⟩, by intro n hn; show PySem.W.kitOne K _ (.ref _) = _; rw [hcl_Call]; exact kit_mk ic_Call ty_Call (six (P := fun n => PySem.W.subIn K (.type n) (.ref C_Call) = some false) s0_Call s1_Call s2_Call s3_Call s4_Call s5_Call) n hn⟩,
      E_Call := ⟨by intro n hn; show PySem.W.subIn K _ (.ref _) = _; rw [hcl_Call]; exact six (P := fun n => PySem.W.subIn K (.type n) (.ref C_Call) = some false) s0_Call s1_Call s2_Call s3_Call s4_Call s5_Call n hn, by show PySem.W.findIn K (.ref _) _ = _; rw [hcl_Call]; exact ne_Call, by show PySem.W.subIn K (.ref _) _ = _; rw [hcl_Call]; exact ob_Call⟩,
      g_Voice := by rw [hcl_Voice]; exact PySem.W.mg_of X G a_Voice,
      K_Voice := ⟨by show ClsT K _; rw [hcl_Voice]; exact ⟨⟨o1_Voice, o2_Voice, o3_Voice, o4_Voice⟩, o5_Voice, o6_Voice, o7_Voice, o8_Voice⟩, by intro n hn; show PySem.W.kitOne K _ (.ref _) = _; rw [hcl_Voice]; exact kit_mk ic_Voice ty_Voice (six (P := fun n => PySem.W.subIn K (.type n) (.ref C_Voice) = some false) s0_Voice s1_Voice s2_Voice s3_Voice s4_Voice s5_Voice) n hn⟩,
      E_Voice := ⟨by intro n hn; show PySem.W.subIn K _ (.ref _) = _; rw [hcl_Voice]; exact six (P := fun n => PySem.W.subIn K (.type n) (.ref C_Voice) = some false) s0_Voice s1_Voice s2_Voice s3_Voice s4_Voice s5_Voice n hn, by show PySem.W.findIn K (.ref _) _ = _; rw [hcl_Voice]; exact ne_Voice, by show PySem.W.subIn K (.ref _) _ = _; rw [hcl_Voice]; exact ob_Voice⟩,
      n_Call_busy := by show PySem.W.findIn K (.ref _) _ = _; rw [hcl_Call]; exact n_Call_busy,
      n_Call_distance := by show PySem.W.findIn K (.ref _) _ = _; rw [hcl_Call]; exact n_Call_distance,
      n_Call_joins := by show PySem.W.findIn K (.ref _) _ = _; rw [hcl_Call]; exact n_Call_joins,
      n_Call_least := by show PySem.W.findIn K (.ref _) _ = _; rw [hcl_Call]; exact n_Call_least,
      n_Call_length := by show PySem.W.findIn K (.ref _) _ = _; rw [hcl_Call]; exact n_Call_length,
      n_Call_name := by show PySem.W.findIn K (.ref _) _ = _; rw [hcl_Call]; exact n_Call_name,
      n_Voice_calls := by show PySem.W.findIn K (.ref _) _ = _; rw [hcl_Voice]; exact n_Voice_calls,
      n_Voice_names := by show PySem.W.findIn K (.ref _) _ = _; rw [hcl_Voice]; exact n_Voice_names,
      n_Voice_reach := by show PySem.W.findIn K (.ref _) _ = _; rw [hcl_Voice]; exact n_Voice_reach,
      g_InvalidCall := by rw [hcl_InvalidCall]; exact PySem.W.mg_of X G a_InvalidCall,
      g_NoCall := by rw [hcl_NoCall]; exact PySem.W.mg_of X G a_NoCall,
      g_InvalidText := by rw [hcl_InvalidText]; exact PySem.W.mg_of X G a_InvalidText,
      g_InvalidVoice := by rw [hcl_InvalidVoice]; exact PySem.W.mg_of X G a_InvalidVoice,
      g_RoadError := by rw [hcl_RoadError]; exact PySem.W.mg_of X G a_RoadError,
      R_InvalidCall := by show ∃ fI, SupC P K mg _ _ _ _ _ _ _ fI; rw [hcl_InvalidCall]; exact ⟨fe_InvalidCall, ⟨PySem.F.excBase_ValueError, PySem.W.kxs_ValueError, PySem.F.store_ValueError, kr_InvalidCall, kr2_InvalidCall, PySem.W.any_some eh_InvalidCall, kr3_InvalidCall, e_op, e1_InvalidCall, e2_InvalidCall, e3_InvalidCall, e4_InvalidCall, eb_InvalidCall, et_InvalidCall, ek_InvalidCall, e5_InvalidCall, e6_InvalidCall, ⟨_, _, _, _, _, _, _, _, _, _, _, _, _, _, _, _, _, _, _, _, _, _, _, _, e7_InvalidCall, e8_InvalidCall, sb_InvalidCall, ss_InvalidCall, rfl, fun _ _ => rfl, fun _ _ => rfl, e9_InvalidCall, rr1_InvalidCall, rr2_InvalidCall, e0_InvalidCall⟩, PySem.W.mg_none_of X G e_sup, rr_top, by decide, by decide⟩⟩,
      R_InvalidText := by show ∃ fI, SupC P K mg _ _ _ _ _ _ _ fI; rw [hcl_InvalidText]; exact ⟨fe_InvalidText, ⟨PySem.F.excBase_ValueError, PySem.W.kxs_ValueError, PySem.F.store_ValueError, kr_InvalidText, kr2_InvalidText, PySem.W.any_some eh_InvalidText, kr3_InvalidText, e_op, e1_InvalidText, e2_InvalidText, e3_InvalidText, e4_InvalidText, eb_InvalidText, et_InvalidText, ek_InvalidText, e5_InvalidText, e6_InvalidText, ⟨_, _, _, _, _, _, _, _, _, _, _, _, _, _, _, _, _, _, _, _, _, _, _, _, e7_InvalidText, e8_InvalidText, sb_InvalidText, ss_InvalidText, rfl, fun _ _ => rfl, fun _ _ => rfl, e9_InvalidText, rr1_InvalidText, rr2_InvalidText, e0_InvalidText⟩, PySem.W.mg_none_of X G e_sup, rr_top, by decide, by decide⟩⟩,
      R_InvalidVoice := by show ∃ fI, SupC P K mg _ _ _ _ _ _ _ fI; rw [hcl_InvalidVoice]; exact ⟨fe_InvalidVoice, ⟨PySem.F.excBase_ValueError, PySem.W.kxs_ValueError, PySem.F.store_ValueError, kr_InvalidVoice, kr2_InvalidVoice, PySem.W.any_some eh_InvalidVoice, kr3_InvalidVoice, e_op, e1_InvalidVoice, e2_InvalidVoice, e3_InvalidVoice, e4_InvalidVoice, eb_InvalidVoice, et_InvalidVoice, ek_InvalidVoice, e5_InvalidVoice, e6_InvalidVoice, ⟨_, _, _, _, _, _, _, _, _, _, _, _, _, _, _, _, _, _, _, _, _, _, _, _, e7_InvalidVoice, e8_InvalidVoice, sb_InvalidVoice, ss_InvalidVoice, rfl, fun _ _ => rfl, fun _ _ => rfl, e9_InvalidVoice, rr1_InvalidVoice, rr2_InvalidVoice, e0_InvalidVoice⟩, PySem.W.mg_none_of X G e_sup, rr_top, by decide, by decide⟩⟩,
      R_NoCall := by show ∃ fI, SupC P K mg _ _ _ _ _ _ _ fI; rw [hcl_NoCall]; exact ⟨fe_NoCall, ⟨PySem.F.excBase_IndexError, PySem.W.kxs_IndexError, PySem.F.store_IndexError, kr_NoCall, kr2_NoCall, PySem.W.any_some eh_NoCall, kr3_NoCall, e_op, e1_NoCall, e2_NoCall, e3_NoCall, e4_NoCall, eb_NoCall, et_NoCall, ek_NoCall, e5_NoCall, e6_NoCall, ⟨_, _, _, _, _, _, _, _, _, _, _, _, _, _, _, _, _, _, _, _, _, _, _, _, e7_NoCall, e8_NoCall, sb_NoCall, ss_NoCall, rfl, fun _ _ => rfl, fun _ _ => rfl, e9_NoCall, rr1_NoCall, rr2_NoCall, e0_NoCall⟩, PySem.W.mg_none_of X G e_sup, rr_top, by decide, by decide⟩⟩,
      x_NoCall_InvalidCall := by show PySem.W.exmOne K (.ref _) (.ref _) = _; rw [hcl_NoCall, hcl_InvalidCall]; exact PySem.W.exm_ref eb_InvalidCall eh_InvalidCall et_InvalidCall ex_NoCall_InvalidCall,
      x_InvalidText_InvalidCall := by show PySem.W.exmOne K (.ref _) (.ref _) = _; rw [hcl_InvalidText, hcl_InvalidCall]; exact PySem.W.exm_ref eb_InvalidCall eh_InvalidCall et_InvalidCall ex_InvalidText_InvalidCall,
      x_InvalidVoice_InvalidCall := by show PySem.W.exmOne K (.ref _) (.ref _) = _; rw [hcl_InvalidVoice, hcl_InvalidCall]; exact PySem.W.exm_ref eb_InvalidCall eh_InvalidCall et_InvalidCall ex_InvalidVoice_InvalidCall,
      x_InvalidCall_InvalidCall := by show PySem.W.exmOne K (.ref _) (.ref _) = _; rw [hcl_InvalidCall]; exact PySem.W.exm_ref eb_InvalidCall eh_InvalidCall et_InvalidCall ex_InvalidCall_InvalidCall,
      x_RoadError_InvalidCall := by show PySem.W.exmOne K (.ref _) (.ref _) = _; rw [hcl_RoadError, hcl_InvalidCall]; exact PySem.W.exm_ref eb_InvalidCall eh_InvalidCall et_InvalidCall ex_RoadError_InvalidCall,
      x_NoCall_InvalidVoice := by show PySem.W.exmOne K (.ref _) (.ref _) = _; rw [hcl_NoCall, hcl_InvalidVoice]; exact PySem.W.exm_ref eb_InvalidVoice eh_InvalidVoice et_InvalidVoice ex_NoCall_InvalidVoice,
      x_InvalidText_InvalidVoice := by show PySem.W.exmOne K (.ref _) (.ref _) = _; rw [hcl_InvalidText, hcl_InvalidVoice]; exact PySem.W.exm_ref eb_InvalidVoice eh_InvalidVoice et_InvalidVoice ex_InvalidText_InvalidVoice,
      x_InvalidVoice_InvalidVoice := by show PySem.W.exmOne K (.ref _) (.ref _) = _; rw [hcl_InvalidVoice]; exact PySem.W.exm_ref eb_InvalidVoice eh_InvalidVoice et_InvalidVoice ex_InvalidVoice_InvalidVoice,
      x_RoadError_InvalidVoice := by show PySem.W.exmOne K (.ref _) (.ref _) = _; rw [hcl_RoadError, hcl_InvalidVoice]; exact PySem.W.exm_ref eb_InvalidVoice eh_InvalidVoice et_InvalidVoice ex_RoadError_InvalidVoice,
      x_NoCall_InvalidText := by show PySem.W.exmOne K (.ref _) (.ref _) = _; rw [hcl_NoCall, hcl_InvalidText]; exact PySem.W.exm_ref eb_InvalidText eh_InvalidText et_InvalidText ex_NoCall_InvalidText,
      x_InvalidText_InvalidText := by show PySem.W.exmOne K (.ref _) (.ref _) = _; rw [hcl_InvalidText]; exact PySem.W.exm_ref eb_InvalidText eh_InvalidText et_InvalidText ex_InvalidText_InvalidText,
      x_RoadError_InvalidText := by show PySem.W.exmOne K (.ref _) (.ref _) = _; rw [hcl_RoadError, hcl_InvalidText]; exact PySem.W.exm_ref eb_InvalidText eh_InvalidText et_InvalidText ex_RoadError_InvalidText,
      xc_InvalidCall := by show XcC K _; rw [hcl_InvalidCall]; exact ⟨ga_InvalidCall, gg_InvalidCall, eb_InvalidCall, eh_InvalidCall, ca_InvalidCall, xcn, xct, cm_InvalidCall⟩,
      xc_InvalidVoice := by show XcC K _; rw [hcl_InvalidVoice]; exact ⟨ga_InvalidVoice, gg_InvalidVoice, eb_InvalidVoice, eh_InvalidVoice, ca_InvalidVoice, xcn, xct, cm_InvalidVoice⟩,
      xc_InvalidText := by show XcC K _; rw [hcl_InvalidText]; exact ⟨ga_InvalidText, gg_InvalidText, eb_InvalidText, eh_InvalidText, ca_InvalidText, xcn, xct, cm_InvalidText⟩,
      xn_InvalidCall_word := by show PySem.W.findIn K (.ref _) _ = _; rw [hcl_InvalidCall]; exact xn_InvalidCall_word,
      xn_InvalidText_at := by show PySem.W.findIn K (.ref _) _ = _; rw [hcl_InvalidText]; exact xn_InvalidText_at,
      xn_InvalidVoice_word := by show PySem.W.findIn K (.ref _) _ = _; rw [hcl_InvalidVoice]; exact xn_InvalidVoice_word,
      ki_Voice_str := by show PySem.W.kitOne K (.ref _) _ = _; rw [hcl_Voice]; exact kit_ty (by decide +kernel) ki_Voice_str,
      F_Call_str := fun_mk (st := st_Call_str) l1 c1 k1,
      b_Call_str := (fun_mk (st := st_Call_str) l1 c1 k1).binds (ps := ["self"]) fun _ _ _ _ _ _ us hl => match us, hl with | [_], _ => rfl,
      mt_Call_str := by show Meth K _ _ _; rw [hcl_Call]; exact ⟨a1, n1, k1⟩,
      F_Call_eq := fun_mk (st := st_Call_eq) l2 c2 k2,
      b_Call_eq := (fun_mk (st := st_Call_eq) l2 c2 k2).binds (ps := ["self", "other"]) fun _ _ _ _ _ _ us hl => match us, hl with | [_, _], _ => rfl,
      mt_Call_eq := by show Meth K _ _ _; rw [hcl_Call]; exact ⟨a2, n2, k2⟩,
      F_is_name := fun_mk (st := st_is_name) l3 c3 k3,
      b_is_name := (fun_mk (st := st_is_name) l3 c3 k3).binds (ps := ["value"]) fun _ _ _ _ _ _ us hl => match us, hl with | [_], _ => rfl,
      g_is_name := PySem.W.mg_of X G a3,
      F_is_integer := fun_mk (st := st_is_integer) l4 c4 k4,
      b_is_integer := (fun_mk (st := st_is_integer) l4 c4 k4).binds (ps := ["value"]) fun _ _ _ _ _ _ us hl => match us, hl with | [_], _ => rfl,
      g_is_integer := PySem.W.mg_of X G a4,
      F_is_within := fun_mk (st := st_is_within) l5 c5 k5,
      b_is_within := (fun_mk (st := st_is_within) l5 c5 k5).binds (ps := ["value", "least", "most"]) fun _ _ _ _ _ _ us hl => match us, hl with | [_, _, _], _ => rfl,
      g_is_within := PySem.W.mg_of X G a5,
      F_is_word := fun_mk (st := st_is_word) l6 c6 k6,
      b_is_word := (fun_mk (st := st_is_word) l6 c6 k6).binds (ps := ["value", "words"]) fun _ _ _ _ _ _ us hl => match us, hl with | [_, _], _ => rfl,
      g_is_word := PySem.W.mg_of X G a6,
      F_need := fun_mk (st := st_need) l7 c7 k7,
      b_need := (fun_mk (st := st_need) l7 c7 k7).binds (ps := ["word", "is_right"]) fun _ _ _ _ _ _ us hl => match us, hl with | [_, _], _ => rfl,
      g_need := PySem.W.mg_of X G a7,
      F_Call_init := F8,
      b4_Call_init := F8.binds1 (ps := ["self", "name", "distance", "length", "busy", "least", "joins"]) 4 0 (by simp) rfl fun _ _ _ _ _ _ _ us its hl hi => match us, its, hl, hi with | [_, _, _, _], [_, _, _], _, _ => ⟨_, rfl, rfl⟩,
      b5_Call_init := F8.binds1 (ps := ["self", "name", "distance", "length", "busy", "least", "joins"]) 5 1 (by simp) rfl fun _ _ _ _ _ _ _ us its hl hi => match us, its, hl, hi with | [_, _, _, _, _], [_, _, _], _, _ => ⟨_, rfl, rfl⟩,
      b7_Call_init := F8.binds1 (ps := ["self", "name", "distance", "length", "busy", "least", "joins"]) 7 3 (by simp) rfl fun _ _ _ _ _ _ _ us its hl hi => match us, its, hl, hi with | [_, _, _, _, _, _, _], [_, _, _], _, _ => ⟨_, rfl, rfl⟩,
      M_Call := by show Mk K _ _; rw [hcl_Call]; exact ⟨m8, a8, n8, q8⟩,
      F_Voice_str := fun_mk (st := st_Voice_str) l9 c9 k9,
      b_Voice_str := (fun_mk (st := st_Voice_str) l9 c9 k9).binds (ps := ["self"]) fun _ _ _ _ _ _ us hl => match us, hl with | [_], _ => rfl,
      mt_Voice_str := by show Meth K _ _ _; rw [hcl_Voice]; exact ⟨a9, n9, k9⟩,
      F_Voice_eq := fun_mk (st := st_Voice_eq) l10 c10 k10,
      b_Voice_eq := (fun_mk (st := st_Voice_eq) l10 c10 k10).binds (ps := ["self", "other"]) fun _ _ _ _ _ _ us hl => match us, hl with | [_, _], _ => rfl,
      mt_Voice_eq := by show Meth K _ _ _; rw [hcl_Voice]; exact ⟨a10, n10, k10⟩,
      F_Voice_need := fun_mk (st := st_Voice_need) l11 c11 k11,
      b_Voice_need := (fun_mk (st := st_Voice_need) l11 c11 k11).binds (ps := ["self", "at"]) fun _ _ _ _ _ _ us hl => match us, hl with | [_, _], _ => rfl,
      mt_Voice_need := by show Meth K _ _ _; rw [hcl_Voice]; exact ⟨a11, n11, k11⟩,
      F_Voice_getitem := fun_mk (st := st_Voice_getitem) l12 c12 k12,
      b_Voice_getitem := (fun_mk (st := st_Voice_getitem) l12 c12 k12).binds (ps := ["self", "at"]) fun _ _ _ _ _ _ us hl => match us, hl with | [_, _], _ => rfl,
      mt_Voice_getitem := by show Meth K _ _ _; rw [hcl_Voice]; exact ⟨a12, n12, k12⟩,
      F_is_sequence := fun_mk (st := st_is_sequence) l13 c13 k13,
      b_is_sequence := (fun_mk (st := st_is_sequence) l13 c13 k13).binds (ps := ["value"]) fun _ _ _ _ _ _ us hl => match us, hl with | [_], _ => rfl,
      g_is_sequence := PySem.W.mg_of X G a13,
      F_Voice_init := fun_mk (st := st_Voice_init) l14 c14 k14,
      b_Voice_init := (fun_mk (st := st_Voice_init) l14 c14 k14).binds (ps := ["self", "calls"]) fun _ _ _ _ _ _ us hl => match us, hl with | [_, _], _ => rfl,
      M_Voice := by show Mk K _ _; rw [hcl_Voice]; exact ⟨m14, a14, n14, q14⟩,
      F_number_in := fun_mk (st := st_number_in) l15 c15 k15,
      b_number_in := (fun_mk (st := st_number_in) l15 c15 k15).binds (ps := ["word"]) fun _ _ _ _ _ _ us hl => match us, hl with | [_], _ => rfl,
      g_number_in := PySem.W.mg_of X G a15,
      F_call_in := fun_mk (st := st_call_in) l16 c16 k16,
      b_call_in := (fun_mk (st := st_call_in) l16 c16 k16).binds (ps := ["text"]) fun _ _ _ _ _ _ us hl => match us, hl with | [_], _ => rfl,
      g_call_in := PySem.W.mg_of X G a16,
      cm_Voice_read := by show ∃ (mc : Value) (pa : Addr), ClX.CRead K _ mc ∧ ClX.CMet K _ mc _ pa _; rw [hcl_Voice]; exact ⟨.type "type", pa17, ⟨r117, r217⟩, ⟨r317, ⟨re17, r417⟩, r517⟩⟩,
      F_Voice_read := fun_mk (st := st_Voice_read) l17 c17 k17,
      b_Voice_read := (fun_mk (st := st_Voice_read) l17 c17 k17).binds (ps := ["cls", "text"]) fun _ _ _ _ _ _ us hl => match us, hl with | [_, _], _ => rfl,
      F_Voice_without := fun_mk (st := st_Voice_without) l18 c18 k18,
      b_Voice_without := (fun_mk (st := st_Voice_without) l18 c18 k18).binds (ps := ["self", "at"]) fun _ _ _ _ _ _ us hl => match us, hl with | [_, _], _ => rfl,
      mt_Voice_without := by show Meth K _ _ _; rw [hcl_Voice]; exact ⟨a18, n18, k18⟩,
      F_l_deal := fun_mk (st := st_l_deal) l19 c19 k19,
      b_l_deal := (fun_mk (st := st_l_deal) l19 c19 k19).binds (ps := ["_law_script", "_law_base"]) fun _ _ _ _ _ _ us hl => match us, hl with | [_, _], _ => rfl,
      g_l_deal := PySem.W.mg_of X G a19,
      F_l_draw := fun_mk (st := st_l_draw) l20 c20 k20,
      b_l_draw := (fun_mk (st := st_l_draw) l20 c20 k20).binds (ps := ["_law_deal_here", "_law_many"]) fun _ _ _ _ _ _ us hl => match us, hl with | [_, _], _ => rfl,
      g_l_draw := PySem.W.mg_of X G a20,
      F_l_mixed := fun_mk (st := st_l_mixed) l21 c21 k21,
      b_l_mixed := (fun_mk (st := st_l_mixed) l21 c21 k21).binds (ps := ["_law_deal_here", "_law_some"]) fun _ _ _ _ _ _ us hl => match us, hl with | [_, _], _ => rfl,
      g_l_mixed := PySem.W.mg_of X G a21,
      F_l_tried := fun_mk (st := st_l_tried) l22 c22 k22,
      b_l_tried := (fun_mk (st := st_l_tried) l22 c22 k22).binds (ps := ["_law_work"]) fun _ _ _ _ _ _ us hl => match us, hl with | [_], _ => rfl,
      g_l_tried := PySem.W.mg_of X G a22,
      F_law := fun_mk (st := st_law) l23 c23 k23,
      b_law := (fun_mk (st := st_law) l23 c23 k23).binds (ps := ["_law_script"]) fun _ _ _ _ _ _ us hl => match us, hl with | [_], _ => rfl,
      g_law := PySem.W.mg_of X G a23,
      z_int := PySem.W.mg_none_of X G z_int,
      z_abs := PySem.W.mg_none_of X G z_abs,
      z_list := PySem.W.mg_none_of X G z_list,
      z_len := PySem.W.mg_none_of X G z_len,
      z_range := PySem.W.mg_none_of X G z_range,
      z_str := PySem.W.mg_none_of X G z_str,
      z_isinstance := PySem.W.mg_none_of X G z_isinstance,
      z_all := PySem.W.mg_none_of X G z_all,
      z_bool := PySem.W.mg_none_of X G z_bool,
      z_enumerate := PySem.W.mg_none_of X G z_enumerate,
      z_tuple := PySem.W.mg_none_of X G z_tuple,
      z_set := PySem.W.mg_none_of X G z_set,
      z_max := PySem.W.mg_none_of X G z_max,
      z_min := PySem.W.mg_none_of X G z_min,
      c_BUSY := ⟨.ref p_BUSY, _, PySem.W.mg_of X G c_BUSY, rfl, fun W H => ⟨p_BUSY, [.str "wait", .str "drop", .str "cut"], rfl, .inr ⟨_, _, _, d_BUSY, rfl, rfl, by show 3 ≤ sizeLine; decide, (.cons ⟨t_BUSY_0, rfl⟩ (.cons ⟨t_BUSY_1, rfl⟩ (.cons ⟨t_BUSY_2, rfl⟩ .nil)))⟩, (rl_str (rl_str (rl_str rl_nil)))⟩⟩,
      c_DIGITS := ⟨.str "0123456789", _, PySem.W.mg_of X G c_DIGITS, ⟨t_DIGITS, rfl⟩, fun _ _ => rfl⟩,
      c_GREATEST_DISTANCE := ⟨.int 4, _, PySem.W.mg_of X G c_GREATEST_DISTANCE, ⟨t_GREATEST_DISTANCE, rfl⟩, fun _ _ => rfl⟩,
      c_GREATEST_JOINS := ⟨.int 3, _, PySem.W.mg_of X G c_GREATEST_JOINS, ⟨t_GREATEST_JOINS, rfl⟩, fun _ _ => rfl⟩,
      c_GREATEST_LEAST := ⟨.int 4, _, PySem.W.mg_of X G c_GREATEST_LEAST, ⟨t_GREATEST_LEAST, rfl⟩, fun _ _ => rfl⟩,
      c_GREATEST_LENGTH := ⟨.int 3, _, PySem.W.mg_of X G c_GREATEST_LENGTH, ⟨t_GREATEST_LENGTH, rfl⟩, fun _ _ => rfl⟩,
      c_LETTERS := ⟨.str "abcdefghijklmnopqrstuvwxyz", _, PySem.W.mg_of X G c_LETTERS, ⟨t_LETTERS, rfl⟩, fun _ _ => rfl⟩,
      c_MOST_DIGITS := ⟨.int 4, _, PySem.W.mg_of X G c_MOST_DIGITS, ⟨t_MOST_DIGITS, rfl⟩, fun _ _ => rfl⟩,
      c_MOST_LETTERS := ⟨.int 4, _, PySem.W.mg_of X G c_MOST_LETTERS, ⟨t_MOST_LETTERS, rfl⟩, fun _ _ => rfl⟩ }
  exact ⟨_, cc, PP, T.F_law, fun s v => .of_eq rfl, hcc, hPP, nPP, hdP, cl, fun base A outer s0 H E TB hr => law_body T base cc PP rfl TB A outer s0 H E lam_u hr⟩
end K12
open PySem PySem.W PyProof.Rows
set_option maxRecDepth 100000 in
set_option maxHeartbeats 0 in
theorem PySem.Challenge.cw_turncalls_k12_calls_and_voices_known_by_holds : PySem.Challenge.rw_turncalls_k12_calls_and_voices_known_by.Holds := by
  w_on; o_law; k_head; (case hw => w_witness2)
  k_fill
  refine Mi.walk_lawT (l := PySem.Challenge.rw_turncalls_k12_calls_and_voices_known_by) (n := 63) (j := 9) (x := "_law_script") (st := K12.st_law) (N := ["_law_script", "_law_spot", "_law_deal_here", "_law_told", "_law_lines", "_law_made", "_law_turned", "_law_a", "_law_b"]) (s := K12.s_law) (o := K12.lamO) rfl (by decide) rfl (by decide) (fun w h Y => PySem.W.km_in_of Y) K12.sc_law ?F K12.main
  case F =>
    intro w mg fa h Y KX G hmg
    refine' K12.all_mk KX G hmg ?a_Call ?o1_Call ?o2_Call ?o3_Call ?o4_Call ?o5_Call ?o6_Call ?o7_Call ?o8_Call ?ic_Call ?ty_Call ?s0_Call ?s1_Call ?s2_Call ?s3_Call ?s4_Call ?s5_Call ?ne_Call ?ob_Call ?a_Voice ?o1_Voice ?o2_Voice ?o3_Voice ?o4_Voice ?o5_Voice ?o6_Voice ?o7_Voice ?o8_Voice ?ic_Voice ?ty_Voice ?s0_Voice ?s1_Voice ?s2_Voice ?s3_Voice ?s4_Voice ?s5_Voice ?ne_Voice ?ob_Voice ?n_Call_busy ?n_Call_distance ?n_Call_joins ?n_Call_least ?n_Call_length ?n_Call_name ?n_Voice_calls ?n_Voice_names ?n_Voice_reach ?a_InvalidCall ?a_NoCall ?a_InvalidText ?a_InvalidVoice ?a_RoadError ?eb_InvalidCall ?et_InvalidCall ?ek_InvalidCall ?eh_InvalidCall ?kr_InvalidCall ?kr2_InvalidCall ?kr3_InvalidCall ?e_op ?e1_InvalidCall ?e2_InvalidCall ?e3_InvalidCall ?e4_InvalidCall ?e5_InvalidCall ?e6_InvalidCall ?e7_InvalidCall ?e8_InvalidCall ?e9_InvalidCall ?rr1_InvalidCall ?rr2_InvalidCall ?e0_InvalidCall ?e_sup ?rr_top ?eb_InvalidText ?et_InvalidText ?ek_InvalidText ?eh_InvalidText ?kr_InvalidText ?kr2_InvalidText ?kr3_InvalidText ?e1_InvalidText ?e2_InvalidText ?e3_InvalidText ?e4_InvalidText ?e5_InvalidText ?e6_InvalidText ?e7_InvalidText ?e8_InvalidText ?e9_InvalidText ?rr1_InvalidText ?rr2_InvalidText ?e0_InvalidText ?eb_InvalidVoice ?et_InvalidVoice ?ek_InvalidVoice ?eh_InvalidVoice ?kr_InvalidVoice ?kr2_InvalidVoice ?kr3_InvalidVoice ?e1_InvalidVoice ?e2_InvalidVoice ?e3_InvalidVoice ?e4_InvalidVoice ?e5_InvalidVoice ?e6_InvalidVoice ?e7_InvalidVoice ?e8_InvalidVoice ?e9_InvalidVoice ?rr1_InvalidVoice ?rr2_InvalidVoice ?e0_InvalidVoice ?eb_NoCall ?et_NoCall ?ek_NoCall ?eh_NoCall ?kr_NoCall ?kr2_NoCall ?kr3_NoCall ?e1_NoCall ?e2_NoCall ?e3_NoCall ?e4_NoCall ?e5_NoCall ?e6_NoCall ?e7_NoCall ?e8_NoCall ?e9_NoCall ?rr1_NoCall ?rr2_NoCall ?e0_NoCall ?ex_NoCall_InvalidCall ?ex_InvalidText_InvalidCall ?ex_InvalidVoice_InvalidCall ?ex_InvalidCall_InvalidCall ?ex_RoadError_InvalidCall ?ex_NoCall_InvalidVoice ?ex_InvalidText_InvalidVoice ?ex_InvalidVoice_InvalidVoice ?ex_RoadError_InvalidVoice ?ex_NoCall_InvalidText ?ex_InvalidText_InvalidText ?ex_RoadError_InvalidText ?ga_InvalidCall ?gg_InvalidCall ?ca_InvalidCall ?xcn ?xct ?cm_InvalidCall ?ga_InvalidVoice ?gg_InvalidVoice ?ca_InvalidVoice ?cm_InvalidVoice ?ga_InvalidText ?gg_InvalidText ?ca_InvalidText ?cm_InvalidText ?xn_InvalidCall_word ?xn_InvalidText_at ?xn_InvalidVoice_word ?ki_Voice_str ?a1 ?l1 ?c1 ?k1 ?n1 ?a2 ?l2 ?c2 ?k2 ?n2 ?a3 ?l3 ?c3 ?k3 ?a4 ?l4 ?c4 ?k4 ?a5 ?l5 ?c5 ?k5 ?a6 ?l6 ?c6 ?k6 ?a7 ?l7 ?c7 ?k7 ?a8 ?l8 ?c8 ?k8 ?t8 ?n8 ?m8 ?q8 ?a9 ?l9 ?c9 ?k9 ?n9 ?a10 ?l10 ?c10 ?k10 ?n10 ?a11 ?l11 ?c11 ?k11 ?n11 ?a12 ?l12 ?c12 ?k12 ?n12 ?a13 ?l13 ?c13 ?k13 ?a14 ?l14 ?c14 ?k14 ?n14 ?m14 ?q14 ?a15 ?l15 ?c15 ?k15 ?a16 ?l16 ?c16 ?k16 ?r117 ?r217 ?r317 ?r417 ?r517 ?l17 ?c17 ?k17 ?a18 ?l18 ?c18 ?k18 ?n18 ?a19 ?l19 ?c19 ?k19 ?a20 ?l20 ?c20 ?k20 ?a21 ?l21 ?c21 ?k21 ?a22 ?l22 ?c22 ?k22 ?a23 ?l23 ?c23 ?k23 ?z_int ?z_abs ?z_list ?z_len ?z_range ?z_str ?z_isinstance ?z_all ?z_bool ?z_enumerate ?z_tuple ?z_set ?z_max ?z_min ?c_BUSY ?d_BUSY ?c_DIGITS ?c_GREATEST_DISTANCE ?c_GREATEST_JOINS ?c_GREATEST_LEAST ?c_GREATEST_LENGTH ?c_LETTERS ?c_MOST_DIGITS ?c_MOST_LETTERS ?hcc ?hPP ?nPP ?hdP
    (case a_Call => k_is)
    (case o1_Call => k_is)
    (case o2_Call => k_is)
    (case o3_Call => k_is)
    (case o4_Call => k_is)
    (case o5_Call => k_is)
    (case o6_Call => k_is)
    (case o7_Call => k_is)
    (case o8_Call => k_is)
    (case ic_Call => k_is)
    (case ty_Call => k_is)
    (case s0_Call => k_is)
    (case s1_Call => k_is)
    (case s2_Call => k_is)
    (case s3_Call => k_is)
    (case s4_Call => k_is)
    (case s5_Call => k_is)
    (case ne_Call => k_is)
    (case ob_Call => k_is)
    (case a_Voice => k_is)
    (case o1_Voice => k_is)
    (case o2_Voice => k_is)
    (case o3_Voice => k_is)
    (case o4_Voice => k_is)
    (case o5_Voice => k_is)
    (case o6_Voice => k_is)
    (case o7_Voice => k_is)
    (case o8_Voice => k_is)
    (case ic_Voice => k_is)
    (case ty_Voice => k_is)
    (case s0_Voice => k_is)
    (case s1_Voice => k_is)
    (case s2_Voice => k_is)
    (case s3_Voice => k_is)
    (case s4_Voice => k_is)
    (case s5_Voice => k_is)
    (case ne_Voice => k_is)
    (case ob_Voice => k_is)
    (case n_Call_busy => k_is)
    (case n_Call_distance => k_is)
    (case n_Call_joins => k_is)
    (case n_Call_least => k_is)
    (case n_Call_length => k_is)
    (case n_Call_name => k_is)
    (case n_Voice_calls => k_is)
    (case n_Voice_names => k_is)
    (case n_Voice_reach => k_is)
    (case a_InvalidCall => k_is)
    (case a_NoCall => k_is)
    (case a_InvalidText => k_is)
    (case a_InvalidVoice => k_is)
    (case a_RoadError => k_is)
    (case eb_InvalidCall => k_is)
    (case et_InvalidCall => k_is)
    (case ek_InvalidCall => k_is)
    (case eh_InvalidCall => k_is)
    (case kr_InvalidCall => first | kernel_rfl | rfl | decide +kernel)
    (case kr2_InvalidCall => first | kernel_rfl | rfl | decide +kernel)
    (case kr3_InvalidCall => first | kernel_rfl | rfl | decide +kernel)
    (case e_op => k_is)
    (case e1_InvalidCall => k_is)
    (case e2_InvalidCall => k_is)
    (case e3_InvalidCall => k_is)
    (case e4_InvalidCall => k_is)
    (case e5_InvalidCall => k_is)
    (case e6_InvalidCall => k_is)
    (case e7_InvalidCall => k_is)
    (case e8_InvalidCall => k_is)
    (case e9_InvalidCall => k_is)
    (case rr1_InvalidCall => first | exact rfl | decide +kernel)
    (case rr2_InvalidCall => first | exact rfl | decide +kernel)
    (case e0_InvalidCall => k_is)
    (case e_sup => k_is)
    (case rr_top => first | exact rfl | decide +kernel)
    (case eb_InvalidText => k_is)
    (case et_InvalidText => k_is)
    (case ek_InvalidText => k_is)
    (case eh_InvalidText => k_is)
    (case kr_InvalidText => first | kernel_rfl | rfl | decide +kernel)
    (case kr2_InvalidText => first | kernel_rfl | rfl | decide +kernel)
    (case kr3_InvalidText => first | kernel_rfl | rfl | decide +kernel)
    (case e1_InvalidText => k_is)
    (case e2_InvalidText => k_is)
    (case e3_InvalidText => k_is)
    (case e4_InvalidText => k_is)
    (case e5_InvalidText => k_is)
    (case e6_InvalidText => k_is)
    (case e7_InvalidText => k_is)
    (case e8_InvalidText => k_is)
    (case e9_InvalidText => k_is)
    (case rr1_InvalidText => first | exact rfl | decide +kernel)
    (case rr2_InvalidText => first | exact rfl | decide +kernel)
    (case e0_InvalidText => k_is)
    (case eb_InvalidVoice => k_is)
    (case et_InvalidVoice => k_is)
    (case ek_InvalidVoice => k_is)
    (case eh_InvalidVoice => k_is)
    (case kr_InvalidVoice => first | kernel_rfl | rfl | decide +kernel)
    (case kr2_InvalidVoice => first | kernel_rfl | rfl | decide +kernel)
    (case kr3_InvalidVoice => first | kernel_rfl | rfl | decide +kernel)
    (case e1_InvalidVoice => k_is)
    (case e2_InvalidVoice => k_is)
    (case e3_InvalidVoice => k_is)
    (case e4_InvalidVoice => k_is)
    (case e5_InvalidVoice => k_is)
    (case e6_InvalidVoice => k_is)
    (case e7_InvalidVoice => k_is)
    (case e8_InvalidVoice => k_is)
    (case e9_InvalidVoice => k_is)
    (case rr1_InvalidVoice => first | exact rfl | decide +kernel)
    (case rr2_InvalidVoice => first | exact rfl | decide +kernel)
    (case e0_InvalidVoice => k_is)
    (case eb_NoCall => k_is)
    (case et_NoCall => k_is)
    (case ek_NoCall => k_is)
    (case eh_NoCall => k_is)
    (case kr_NoCall => first | kernel_rfl | rfl | decide +kernel)
    (case kr2_NoCall => first | kernel_rfl | rfl | decide +kernel)
    (case kr3_NoCall => first | kernel_rfl | rfl | decide +kernel)
    (case e1_NoCall => k_is)
    (case e2_NoCall => k_is)
    (case e3_NoCall => k_is)
    (case e4_NoCall => k_is)
    (case e5_NoCall => k_is)
    (case e6_NoCall => k_is)
    (case e7_NoCall => k_is)
    (case e8_NoCall => k_is)
    (case e9_NoCall => k_is)
    (case rr1_NoCall => first | exact rfl | decide +kernel)
    (case rr2_NoCall => first | exact rfl | decide +kernel)
    (case e0_NoCall => k_is)
    (case ex_NoCall_InvalidCall => k_is)
    (case ex_InvalidText_InvalidCall => k_is)
    (case ex_InvalidVoice_InvalidCall => k_is)
    (case ex_InvalidCall_InvalidCall => k_is)
    (case ex_RoadError_InvalidCall => k_is)
    (case ex_NoCall_InvalidVoice => k_is)
    (case ex_InvalidText_InvalidVoice => k_is)
    (case ex_InvalidVoice_InvalidVoice => k_is)
    (case ex_RoadError_InvalidVoice => k_is)
    (case ex_NoCall_InvalidText => k_is)
    (case ex_InvalidText_InvalidText => k_is)
    (case ex_RoadError_InvalidText => k_is)
    (case ga_InvalidCall => k_is)
    (case gg_InvalidCall => k_is)
    (case ca_InvalidCall => k_is)
    (case xcn => k_is)
    (case xct => k_is)
    (case cm_InvalidCall => k_is)
    (case ga_InvalidVoice => k_is)
    (case gg_InvalidVoice => k_is)
    (case ca_InvalidVoice => k_is)
    (case cm_InvalidVoice => k_is)
    (case ga_InvalidText => k_is)
    (case gg_InvalidText => k_is)
    (case ca_InvalidText => k_is)
    (case cm_InvalidText => k_is)
    (case xn_InvalidCall_word => k_is)
    (case xn_InvalidText_at => k_is)
    (case xn_InvalidVoice_word => k_is)
    (case ki_Voice_str => k_is)
    (case a1 => k_is)
    (case l1 => k_is)
    (case c1 => k_is)
    (case k1 => k_is)
    (case n1 => k_is)
    (case a2 => k_is)
    (case l2 => k_is)
    (case c2 => k_is)
    (case k2 => k_is)
    (case n2 => k_is)
    (case a3 => k_is)
    (case l3 => k_is)
    (case c3 => k_is)
    (case k3 => k_is)
    (case a4 => k_is)
    (case l4 => k_is)
    (case c4 => k_is)
    (case k4 => k_is)
    (case a5 => k_is)
    (case l5 => k_is)
    (case c5 => k_is)
    (case k5 => k_is)
    (case a6 => k_is)
    (case l6 => k_is)
    (case c6 => k_is)
    (case k6 => k_is)
    (case a7 => k_is)
    (case l7 => k_is)
    (case c7 => k_is)
    (case k7 => k_is)
    (case a8 => k_is)
    (case l8 => k_is)
    (case c8 => k_is)
    (case k8 => k_is)
    (case t8 => k_is)
    (case n8 => k_is)
    (case m8 => k_is)
    (case q8 => k_is)
    (case a9 => k_is)
    (case l9 => k_is)
    (case c9 => k_is)
    (case k9 => k_is)
    (case n9 => k_is)
    (case a10 => k_is)
    (case l10 => k_is)
    (case c10 => k_is)
    (case k10 => k_is)
    (case n10 => k_is)
    (case a11 => k_is)
    (case l11 => k_is)
    (case c11 => k_is)
    (case k11 => k_is)
    (case n11 => k_is)
    (case a12 => k_is)
    (case l12 => k_is)
    (case c12 => k_is)
    (case k12 => k_is)
    (case n12 => k_is)
    (case a13 => k_is)
    (case l13 => k_is)
    (case c13 => k_is)
    (case k13 => k_is)
    (case a14 => k_is)
    (case l14 => k_is)
    (case c14 => k_is)
    (case k14 => k_is)
    (case n14 => k_is)
    (case m14 => k_is)
    (case q14 => k_is)
    (case a15 => k_is)
    (case l15 => k_is)
    (case c15 => k_is)
    (case k15 => k_is)
    (case a16 => k_is)
    (case l16 => k_is)
    (case c16 => k_is)
    (case k16 => k_is)
    (case r117 => k_is)
    (case r217 => k_is)
    (case r317 => k_is)
    (case r417 => k_is)
    (case r517 => k_is)
    (case l17 => k_is)
    (case c17 => k_is)
    (case k17 => k_is)
    (case a18 => k_is)
    (case l18 => k_is)
    (case c18 => k_is)
    (case k18 => k_is)
    (case n18 => k_is)
    (case a19 => k_is)
    (case l19 => k_is)
    (case c19 => k_is)
    (case k19 => k_is)
    (case a20 => k_is)
    (case l20 => k_is)
    (case c20 => k_is)
    (case k20 => k_is)
    (case a21 => k_is)
    (case l21 => k_is)
    (case c21 => k_is)
    (case k21 => k_is)
    (case a22 => k_is)
    (case l22 => k_is)
    (case c22 => k_is)
    (case k22 => k_is)
    (case a23 => k_is)
    (case l23 => k_is)
    (case c23 => k_is)
    (case k23 => k_is)
    (case z_int => k_is)
    (case z_abs => k_is)
    (case z_list => k_is)
    (case z_len => k_is)
    (case z_range => k_is)
    (case z_str => k_is)
    (case z_isinstance => k_is)
    (case z_all => k_is)
    (case z_bool => k_is)
    (case z_enumerate => k_is)
    (case z_tuple => k_is)
    (case z_set => k_is)
    (case z_max => k_is)
    (case z_min => k_is)
    (case c_BUSY => k_is)
    (case d_BUSY => k_is)
    (case c_DIGITS => k_is)
    (case c_GREATEST_DISTANCE => k_is)
    (case c_GREATEST_JOINS => k_is)
    (case c_GREATEST_LEAST => k_is)
    (case c_GREATEST_LENGTH => k_is)
    (case c_LETTERS => k_is)
    (case c_MOST_DIGITS => k_is)
    (case c_MOST_LETTERS => k_is)
    (case hcc => rfl)
    (case hPP => exact PySem.W.km_tabs_of Y 339 (by decide))
    (case nPP => kernel_rfl)
    (case hdP => kernel_rfl)
