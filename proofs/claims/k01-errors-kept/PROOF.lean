import PyProof.Rows.All
import Wide.All
import OpenK.AllK
import Wide.FinOn
import HandS.ForMost
import HandS.ForExc
import HandS.CallSlots
import HandS.Dict
import KE.KDictKeyed
import HandS.TupAny
import HandS.IsInst
import HandS.Style
import HandS.RaiseMore
import KE.GoesEnum
import KE.GoesMore
import PyProof.ReprRoads
import HandS.EndBits
import HandS.FStr
import HandS.OwnEq
import KE.KCallOwn
import HandS.Defaults
import KE.KExcSuper
import KE.KExcMake
import KE.KExcInit
import HandS.ExcInit
import HandS.TryMany
import HandS.ExcField
import HandS.ExcIs
import KE.KExcIs
import HandS.Set
import HandS.Strs
import HandS.SetBool
import HandS.SetFor
import PyProof.Rows.SortShellAny
import HandS.ClsMeth
import HandS.MakeKwOnly
import HandS.Conv
import HandS.Property
import HandS.Star
import HandS.Flow
import KE.KUnpack
import PyProof.Rows.TupTab
import PyProof.Rows.InDataRows
import PyProof.NeKinds
import KE.KDictPairs
import HandS.TupLen
import HandS.SetKeys
import HandS.Iter
import HandS.DictComp
import HandS.More
import HandS.ReplaceLit
import HandS.TupSets
import HandS.SortInts
import HandS.ExcValue
import PySem.Challenge.RW_turncalls_k01_errors_and_what_they_keep
set_option Elab.async false
set_option linter.all false
set_option maxRecDepth 100000
set_option maxHeartbeats 4000000
namespace Mi
open PySem L2
/-! ### mirror values, errors, objects of the store -/
inductive Val where
  | non | bl (b : Bool) | int (i : Int) | str (x : Str)
  | tup (xs : List Val) | lst (xs : List Val) | rol (xs : List Val)
  | ins (c : Str) (ks : List Str) (xs : List Val)
  | ref (i : Nat)
  | exv (c : Str) (ks : List Str) (xs : List Val)
  | cls (c : Str)
  /-- a tuple whose object is known -/
  | tpd (xs : List Val)
structure Exc where
  cls : Str
  ks : List Str
  xs : List Val
inductive SO where
  | lst (xs : List Val)
  | ins (c : Str) (ks : List Str) (xs : List Val)
  /-- a dict whose keys are ints and texts -/
  | dk (ks : List Key) (xs : List Val)
  /-- a dict whose keys are tuples -/
  | dn (ks : List Val) (xs : List Val)
  /-- such a dict while it is walked -/
  | dz
  /-- an error that is kept as a value -/
  | exo (c : Str) (ks : List Str) (xs : List Val)
abbrev Env := List (Option Val)
abbrev Sto := List SO
abbrev Res (α : Type) := Option (Except Exc α × Sto)
abbrev M (α : Type) := Env → Sto → Res α
/-! ### how they stand in the heap -/
/-- what is fixed: the written part, where the classes stand -/
structure Kx where
  K : PySem.W.Frag
  cl : Str → Addr
  /-- the error that is being handled: where, its class, its dict -/
  ex : Option (Addr × Value × Option Addr) := none
  w : World
structure Wd where
  rho : List Addr
  fz : Addr → Prop
/-- a list that is read alone: the script, a list of the module's own top -/
def RoL (k : Kx) (H : Hp) (p : Addr) (vs : List V) : Prop := (∃ o, H p = some (.frz o (.lst vs))) ∨ SqL k.K (fun _ => none) p vs
mutual
def RepV (k : Kx) (W : Wd) (H : Hp) : Val → V → Prop
  | .non, v => v = .non
  | .bl b, v => v = .bl b
  | .int i, v => v = .int i
  | .str x, v => v = .str x
  | .tup xs, v => ∃ p vs, v = .ref p ∧ SqT k.K H p vs ∧ RepL k W H xs vs
  | .lst xs, v => ∃ p vs, v = .ref p ∧ W.fz p ∧ H p = some (.lst vs) ∧ RepL k W H xs vs
  | .rol xs, v => ∃ p vs, v = .ref p ∧ RoL k H p vs ∧ RepL k W H xs vs
  | .ins c ks xs, v => ∃ p dx vs, v = .ref p ∧ W.fz p ∧ H p = some (.ins (k.cl c) dx (ks.zip vs)) ∧ ks.length = xs.length ∧ RepL k W H xs vs
  | .ref i, v => ∃ p, v = .ref p ∧ W.rho[i]? = some p
  | .cls c, v => v = .ref (k.cl c)
  | .tpd xs, v => ∃ p o vs, v = .ref p ∧ H p = some (.frz o (.tup vs)) ∧ o.dict = none ∧ RepL k W H xs vs
  | .exv c ks xs, v => ∃ a cls d, k.ex = some (a, cls, d) ∧ v = .ref a ∧ cls = .ref (k.cl c) ∧ ks.length = xs.length ∧ (ks = [] ∧ d = none ∨ ∃ dx vs, d = some dx ∧ H dx = some (.xd (ks.zip vs)) ∧ RepL k W H xs vs)
def RepL (k : Kx) (W : Wd) (H : Hp) : List Val → List V → Prop
  | [], vs => vs = []
  | x :: xs, vs => ∃ v r, vs = v :: r ∧ RepV k W H x v ∧ RepL k W H xs r
end
def Imm : HO → Prop
  | .tup _ => True
  | .frz _ _ => True
  | .xd _ => True
  | _ => False
structure Le (W W' : Wd) (H H' : Hp) : Prop where
  rho : ∃ more, W'.rho = W.rho ++ more
  fz : ∀ p, W.fz p → W'.fz p
  imm : ∀ p o, H p = some o → Imm o → H' p = some o
  keep : ∀ p o, H p = some o → W.fz p → H' p = some o
  rest : ∀ p o, H p = some o → p ∉ W.rho → H' p = some o
  newr : ∀ p, p ∈ W'.rho → p ∈ W.rho ∨ H p = none
  newf : ∀ p, W'.fz p → W.fz p ∨ H p = none
  dom : ∀ p, H p ≠ none → H' p ≠ none
theorem Le.refl (W : Wd) (H : Hp) : Le W W H H := ⟨⟨[], by simp⟩, fun _ h => h, fun _ _ h _ => h, fun _ _ h _ => h, fun _ _ h _ => h, fun _ h => .inl h, fun _ h => .inl h, fun _ h => h⟩
theorem Le.trans {W W1 W2 : Wd} {H H1 H2 : Hp} (a : Le W W1 H H1) (b : Le W1 W2 H1 H2) : Le W W2 H H2 := by
  obtain ⟨m1, e1⟩ := a.rho
  obtain ⟨m2, e2⟩ := b.rho
  have back : ∀ p, H1 p = none → H p = none := fun p h => by
    cases q : H p with
    | none => rfl
    | some o => exact absurd h (a.dom p (by rw [q]; exact fun z => nomatch z))
  refine ⟨⟨m1 ++ m2, by rw [e2, e1, List.append_assoc]⟩, fun p h => b.fz p (a.fz p h), fun p o h i => b.imm p o (a.imm p o h i) i, fun p o h f => b.keep p o (a.keep p o h f) (a.fz p f), fun p o h n => b.rest p o (a.rest p o h n) fun m => ?_, fun p m => ?_, fun p f => ?_, fun p h => b.dom p (a.dom p h)⟩
  · rcases a.newr p m with z | z
    · exact n z
    · rw [h] at z
      cases z
  · rcases b.newr p m with z | z
    · exact a.newr p z
    · exact .inr (back p z)
  · rcases b.newf p f with z | z
    · exact a.newf p z
    · exact .inr (back p z)
theorem Le.sqT {k : Kx} {W W' : Wd} {H H' : Hp} {p : Addr} {vs : List V} (l : Le W W' H H') (h : SqT k.K H p vs) : SqT k.K H' p vs := by
  rcases h with (h | ⟨o, h⟩) | h
  · exact .inl (.inl (l.imm _ _ h trivial))
  · exact .inl (.inr ⟨o, l.imm _ _ h trivial⟩)
  · exact .inr h
theorem Le.at {W W' : Wd} {H H' : Hp} {i : Nat} {p : Addr} (l : Le W W' H H') (h : W.rho[i]? = some p) : W'.rho[i]? = some p := by
  obtain ⟨m, e⟩ := l.rho
  rw [e, List.getElem?_append_left (List.getElem?_eq_some_iff.mp h).1]
  exact h
mutual
theorem RepV.more {k : Kx} {W W' : Wd} {H : Hp} (er : ∀ (i : Nat) p, W.rho[i]? = some p → W'.rho[i]? = some p) (ef : ∀ p, W.fz p → W'.fz p) : ∀ {x : Val} {v : V}, RepV k W H x v → RepV k W' H x v
  | .non, _, h => h
  | .bl _, _, h => h
  | .int _, _, h => h
  | .str _, _, h => h
  | .tup xs, _, h => by
    obtain ⟨p, vs, e, s, r⟩ := h
    exact ⟨p, vs, e, s, RepL.more er ef r⟩
  | .lst xs, _, h => by
    obtain ⟨p, vs, e, f, s, r⟩ := h
    exact ⟨p, vs, e, ef _ f, s, RepL.more er ef r⟩
  | .rol xs, _, h => by
    obtain ⟨p, vs, e, s, r⟩ := h
    exact ⟨p, vs, e, s, RepL.more er ef r⟩
  | .ins c ks xs, _, h => by
    obtain ⟨p, dx, vs, e, f, s, n, r⟩ := h
    exact ⟨p, dx, vs, e, ef _ f, s, n, RepL.more er ef r⟩
  | .ref i, _, h => by
    obtain ⟨p, e, s⟩ := h
    exact ⟨p, e, er _ _ s⟩
  | .cls _, _, h => h
  | .tpd xs, _, h => by
    obtain ⟨p, o, vs, e, s, d, r⟩ := h
    exact ⟨p, o, vs, e, s, d, RepL.more er ef r⟩
  | .exv c ks xs, _, h => by
    obtain ⟨a, cls, d, h1, h2, h3, h4, h5⟩ := h
    refine ⟨a, cls, d, h1, h2, h3, h4, ?_⟩
    rcases h5 with h5 | ⟨dx, vs, e1, e2, r⟩
    · exact .inl h5
    · exact .inr ⟨dx, vs, e1, e2, RepL.more er ef r⟩
theorem RepL.more {k : Kx} {W W' : Wd} {H : Hp} (er : ∀ (i : Nat) p, W.rho[i]? = some p → W'.rho[i]? = some p) (ef : ∀ p, W.fz p → W'.fz p) : ∀ {xs : List Val} {vs : List V}, RepL k W H xs vs → RepL k W' H xs vs
  | [], _, h => h
  | x :: xs, _, h => by
    obtain ⟨v, r, e, h1, h2⟩ := h
    exact ⟨v, r, e, RepV.more er ef h1, RepL.more er ef h2⟩
end
mutual
/-- an object that no value speaks of may change -/
theorem RepV.aside {k : Kx} {W : Wd} {H : Hp} {D : Addr} {acc : List V} {o : HO} (hf : ¬ W.fz D) (hD : H D = some (.lst acc)) : ∀ {x : Val} {v : V}, RepV k W H x v → RepV k W (upd H D o) x v
  | .non, _, h => h
  | .bl _, _, h => h
  | .int _, _, h => h
  | .str _, _, h => h
  | .tup xs, _, h => by
    obtain ⟨p, vs, e, s, r⟩ := h
    refine ⟨p, vs, e, ?_, RepL.aside hf hD r⟩
    rcases s with (s | ⟨u, s⟩) | s
    · exact .inl (.inl (by rw [upd_ne (ne_of s hD (fun z => nomatch z))]; exact s))
    · exact .inl (.inr ⟨u, by rw [upd_ne (ne_of s hD (fun z => nomatch z))]; exact s⟩)
    · exact .inr s
  | .lst xs, _, h => by
    obtain ⟨p, vs, e, f, s, r⟩ := h
    have ne : p ≠ D := fun z => hf (z ▸ f)
    exact ⟨p, vs, e, f, by rw [upd_ne ne]; exact s, RepL.aside hf hD r⟩
  | .rol xs, _, h => by
    obtain ⟨p, vs, e, s, r⟩ := h
    refine ⟨p, vs, e, ?_, RepL.aside hf hD r⟩
    rcases s with ⟨u, s⟩ | s
    · exact .inl ⟨u, by rw [upd_ne (ne_of s hD (fun z => nomatch z))]; exact s⟩
    · exact .inr s
  | .ins c ks xs, _, h => by
    obtain ⟨p, dx, vs, e, f, s, n, r⟩ := h
    have ne : p ≠ D := fun z => hf (z ▸ f)
    exact ⟨p, dx, vs, e, f, by rw [upd_ne ne]; exact s, n, RepL.aside hf hD r⟩
  | .ref i, _, h => h
  | .cls _, _, h => h
  | .tpd xs, _, h => by
    obtain ⟨p, o, vs, e, s, d, r⟩ := h
    exact ⟨p, o, vs, e, by rw [upd_ne (ne_of s hD (fun z => nomatch z))]; exact s, d, RepL.aside hf hD r⟩
  | .exv c ks xs, _, h => by
    obtain ⟨a, cls, d, h1, h2, h3, h4, h5⟩ := h
    refine ⟨a, cls, d, h1, h2, h3, h4, ?_⟩
    rcases h5 with h5 | ⟨dx, vs, e1, e2, r⟩
    · exact .inl h5
    · exact .inr ⟨dx, vs, e1, by rw [upd_ne (ne_of e2 hD (fun z => nomatch z))]; exact e2, RepL.aside hf hD r⟩
theorem RepL.aside {k : Kx} {W : Wd} {H : Hp} {D : Addr} {acc : List V} {o : HO} (hf : ¬ W.fz D) (hD : H D = some (.lst acc)) : ∀ {xs : List Val} {vs : List V}, RepL k W H xs vs → RepL k W (upd H D o) xs vs
  | [], _, h => h
  | x :: xs, _, h => by
    obtain ⟨v, r, e, h1, h2⟩ := h
    exact ⟨v, r, e, RepV.aside hf hD h1, RepL.aside hf hD h2⟩
end
mutual
theorem RepV.le {k : Kx} {W W' : Wd} {H H' : Hp} (l : Le W W' H H') : ∀ {x : Val} {v : V}, RepV k W H x v → RepV k W' H' x v
  | .non, _, h => h
  | .bl _, _, h => h
  | .int _, _, h => h
  | .str _, _, h => h
  | .tup xs, _, h => by
    obtain ⟨p, vs, e, s, r⟩ := h
    exact ⟨p, vs, e, l.sqT s, RepL.le l r⟩
  | .lst xs, _, h => by
    obtain ⟨p, vs, e, f, s, r⟩ := h
    exact ⟨p, vs, e, l.fz _ f, l.keep _ _ s f, RepL.le l r⟩
  | .rol xs, _, h => by
    obtain ⟨p, vs, e, s, r⟩ := h
    refine ⟨p, vs, e, ?_, RepL.le l r⟩
    rcases s with ⟨o, s⟩ | s
    · exact .inl ⟨o, l.imm _ _ s trivial⟩
    · exact .inr s
  | .ins c ks xs, _, h => by
    obtain ⟨p, dx, vs, e, f, s, n, r⟩ := h
    exact ⟨p, dx, vs, e, l.fz _ f, l.keep _ _ s f, n, RepL.le l r⟩
  | .ref i, _, h => by
    obtain ⟨p, e, s⟩ := h
    exact ⟨p, e, l.at s⟩
  | .cls _, _, h => h
  | .tpd xs, _, h => by
    obtain ⟨p, o, vs, e, s, d, r⟩ := h
    exact ⟨p, o, vs, e, l.imm _ _ s trivial, d, RepL.le l r⟩
  | .exv c ks xs, _, h => by
    obtain ⟨a, cls, d, h1, h2, h3, h4, h5⟩ := h
    refine ⟨a, cls, d, h1, h2, h3, h4, ?_⟩
    rcases h5 with h5 | ⟨dx, vs, e1, e2, r⟩
    · exact .inl h5
    · exact .inr ⟨dx, vs, e1, l.imm _ _ e2 trivial, RepL.le l r⟩
theorem RepL.le {k : Kx} {W W' : Wd} {H H' : Hp} (l : Le W W' H H') : ∀ {xs : List Val} {vs : List V}, RepL k W H xs vs → RepL k W' H' xs vs
  | [], _, h => h
  | x :: xs, _, h => by
    obtain ⟨v, r, e, h1, h2⟩ := h
    exact ⟨v, r, e, RepV.le l h1, RepL.le l h2⟩
end
theorem RepL.len {k : Kx} {W : Wd} {H : Hp} : ∀ {xs : List Val} {vs : List V}, RepL k W H xs vs → vs.length = xs.length
  | [], _, h => by
    have e : _ = _ := h
    rw [e]
    rfl
  | x :: xs, _, h => by
    obtain ⟨v, r, rfl, h1, h2⟩ := h
    simp [RepL.len h2]
theorem RepL.get {k : Kx} {W : Wd} {H : Hp} : ∀ {xs : List Val} {vs : List V} {i : Nat} {x : Val}, RepL k W H xs vs → xs[i]? = some x → ∃ v, vs[i]? = some v ∧ RepV k W H x v
  | [], _, _, _, h, e => by simp at e
  | y :: xs, _, i, x, h, e => by
    obtain ⟨v, r, rfl, h1, h2⟩ := h
    cases i with
    | zero =>
      have e' : y = x := by simpa using e
      subst e'
      exact ⟨v, rfl, h1⟩
    | succ i => exact RepL.get (i := i) h2 (by simpa using e)
theorem RepL.append {k : Kx} {W : Wd} {H : Hp} : ∀ {xs ys : List Val} {vs us : List V}, RepL k W H xs vs → RepL k W H ys us → RepL k W H (xs ++ ys) (vs ++ us)
  | [], _, _, _, h, g => by
    have e : _ = _ := h
    rw [e]
    exact g
  | x :: xs, _, _, _, h, g => by
    obtain ⟨v, r, rfl, h1, h2⟩ := h
    exact ⟨v, _, rfl, h1, RepL.append h2 g⟩
theorem RepL.cons {k : Kx} {W : Wd} {H : Hp} {x : Val} {xs : List Val} {v : V} {vs : List V} (h : RepV k W H x v) (t : RepL k W H xs vs) : RepL k W H (x :: xs) (v :: vs) := ⟨v, vs, rfl, h, t⟩
theorem RepL.take {k : Kx} {W : Wd} {H : Hp} : ∀ {xs : List Val} {vs : List V} (n : Nat), RepL k W H xs vs → RepL k W H (xs.take n) (vs.take n)
  | [], _, n, h => by
    have e : _ = _ := h
    rw [e]
    cases n <;> rfl
  | x :: xs, _, 0, h => rfl
  | x :: xs, _, n + 1, h => by
    obtain ⟨v, r, rfl, h1, h2⟩ := h
    exact ⟨v, _, rfl, h1, RepL.take n h2⟩
theorem RepL.drop {k : Kx} {W : Wd} {H : Hp} : ∀ {xs : List Val} {vs : List V} (n : Nat), RepL k W H xs vs → RepL k W H (xs.drop n) (vs.drop n)
  | [], _, n, h => by
    have e : _ = _ := h
    rw [e]
    cases n <;> rfl
  | x :: xs, _, 0, h => h
  | x :: xs, _, n + 1, h => by
    obtain ⟨v, r, rfl, h1, h2⟩ := h
    exact RepL.drop n h2
theorem RepL.set {k : Kx} {W : Wd} {H : Hp} {x : Val} {v : V} (h : RepV k W H x v) : ∀ {xs : List Val} {vs : List V} (n : Nat), RepL k W H xs vs → RepL k W H (xs.set n x) (vs.set n v)
  | [], _, n, g => by
    have e : _ = _ := g
    rw [e]
    cases n <;> rfl
  | y :: xs, _, 0, g => by
    obtain ⟨u, r, rfl, h1, h2⟩ := g
    exact ⟨v, r, rfl, h, h2⟩
  | y :: xs, _, n + 1, g => by
    obtain ⟨u, r, rfl, h1, h2⟩ := g
    exact ⟨u, _, rfl, h1, RepL.set h n h2⟩
theorem RepL.reverse {k : Kx} {W : Wd} {H : Hp} : ∀ {xs : List Val} {vs : List V}, RepL k W H xs vs → RepL k W H xs.reverse vs.reverse
  | [], _, h => by
    have e : _ = _ := h
    rw [e]
    rfl
  | x :: xs, _, h => by
    obtain ⟨v, r, rfl, h1, h2⟩ := h
    rw [List.reverse_cons, List.reverse_cons]
    exact RepL.append (RepL.reverse h2) ⟨v, [], rfl, h1, rfl⟩
theorem RepL.map {k : Kx} {W : Wd} {H : Hp} {α : Type} {f : α → Val} {g : α → V} (h : ∀ a, RepV k W H (f a) (g a)) : ∀ l : List α, RepL k W H (l.map f) (l.map g)
  | [] => rfl
  | a :: l => ⟨_, _, rfl, h a, RepL.map h l⟩
def RepE (k : Kx) (W : Wd) (H : Hp) : Env → L2.St → Prop
  | [], σ => σ = []
  | e :: es, σ => ∃ o r, σ = o :: r ∧ (∀ x, e = some x → ∃ v, o = some v ∧ RepV k W H x v) ∧ RepE k W H es r
theorem RepE.le {k : Kx} {W W' : Wd} {H H' : Hp} (l : Le W W' H H') : ∀ {env : Env} {σ : L2.St}, RepE k W H env σ → RepE k W' H' env σ
  | [], _, h => h
  | e :: es, _, h => by
    obtain ⟨o, r, e1, h1, h2⟩ := h
    refine ⟨o, r, e1, fun x hx => ?_, RepE.le l h2⟩
    obtain ⟨v, e2, h3⟩ := h1 x hx
    exact ⟨v, e2, h3.le l⟩
theorem RepE.get {k : Kx} {W : Wd} {H : Hp} : ∀ {env : Env} {σ : L2.St} {i : Nat} {x : Val}, RepE k W H env σ → env[i]? = some (some x) → ∃ v, σ[i]? = some (some v) ∧ RepV k W H x v
  | [], _, _, _, h, e => by simp at e
  | y :: es, _, i, x, h, e => by
    obtain ⟨o, r, rfl, h1, h2⟩ := h
    cases i with
    | zero =>
      have e' : y = some x := by simpa using e
      obtain ⟨v, e2, h3⟩ := h1 x e'
      exact ⟨v, by rw [e2]; rfl, h3⟩
    | succ i => exact RepE.get (i := i) h2 (by simpa using e)
theorem RepE.set {k : Kx} {W : Wd} {H : Hp} {x : Val} {v : V} (h : RepV k W H x v) : ∀ {env : Env} {σ : L2.St} (n : Nat), RepE k W H env σ → RepE k W H (env.set n (some x)) (σ.set n (some v))
  | [], _, n, g => by
    have e : _ = _ := g
    rw [e]
    cases n <;> rfl
  | y :: es, _, 0, g => by
    obtain ⟨o, r, rfl, h1, h2⟩ := g
    exact ⟨some v, r, rfl, fun z hz => ⟨v, rfl, by cases hz; exact h⟩, h2⟩
  | y :: es, _, n + 1, g => by
    obtain ⟨o, r, rfl, h1, h2⟩ := g
    exact ⟨o, _, rfl, h1, RepE.set h n h2⟩
/-- names forgotten -/
theorem RepE.wipe1 {k : Kx} {W : Wd} {H : Hp} : ∀ {env : Env} {σ : L2.St} (n : Nat) (o : Option V), RepE k W H env σ → RepE k W H (env.set n none) (σ.set n o)
  | [], _, n, _, g => by
    have e : _ = _ := g
    rw [e]
    cases n <;> rfl
  | y :: es, _, 0, o, g => by
    obtain ⟨o', r, rfl, h1, h2⟩ := g
    exact ⟨o, r, rfl, fun z hz => (by cases hz), h2⟩
  | y :: es, _, n + 1, o, g => by
    obtain ⟨o', r, rfl, h1, h2⟩ := g
    exact ⟨o', _, rfl, h1, RepE.wipe1 n o h2⟩
theorem RepE.len {k : Kx} {W : Wd} {H : Hp} : ∀ {env : Env} {σ : L2.St}, RepE k W H env σ → σ.length = env.length
  | [], _, h => by
    have e : _ = _ := h
    rw [e]
    rfl
  | y :: es, _, h => by
    obtain ⟨o, r, rfl, h1, h2⟩ := h
    simp [RepE.len h2]
mutual
/-- a value as a key of a dict -/
def nkOf : Val → Option NestedKey
  | .non => some .none
  | .bl b => some (.num (if b then 1 else 0))
  | .int i => some (.num i)
  | .str x => some (.text x)
  | .tup xs => match nksOf xs with
    | some ks => some (.tup ks)
    | none => none
  | _ => none
def nksOf : List Val → Option (List NestedKey)
  | [] => some []
  | x :: xs => match nkOf x, nksOf xs with
    | some a, some b => some (a :: b)
    | _, _ => none
end
/-- may stand as a key of a dict of tuples -/
def tupKey (a : Val) : Option NestedKey := match a with
  | .tup xs => match nkOf (.tup xs) with
    | some n => if n.depth ≤ 8 then some n else none
    | none => none
  | _ => none
def keysD : List Val → Option (List NestedKey)
  | [] => some []
  | x :: xs => match tupKey x, keysD xs with
    | some a, some b => some (a :: b)
    | _, _ => none
/-- a dict whose keys are tuples: which keys, where they stand, what it holds -/
def DctO (w : World) (p : Addr) (ks : List NestedKey) (as : List Addr) (us : List V) : HO := .ext fun h =>
  (p == sysModules) = false ∧ ∃ xs : List (NestedKey × Addr × Value), xs.map (·.1) = ks ∧ xs.map (·.2.1) = as ∧ Vals us (xs.map (·.2.2)) ∧ (xs.map (·.1)).Nodup ∧
    ∃ o es ep, h.get? p = some o ∧ o.ExactDict ∧ o.data = .dict es ep ∧ es.toList = xs.map fun x => ⟨x.1.hash w, .ref x.2.1, x.2.2⟩
/-- an error object of the class C at a, its dict at d -/
def ExV (C : Addr) (d : Option Addr) (a : Addr) : HO := .ext fun h => ∃ (oe : Obj) (vs : Array Value), h.get? a = some oe ∧ Zc (.ref C) d oe ∧ oe.data = .fields vs
def RepO (k : Kx) (W : Wd) (H : Hp) : SO → Addr → Prop
  | .lst xs, p => ∃ vs, H p = some (.lst vs) ∧ RepL k W H xs vs
  | .ins c ks xs, p => ∃ dx vs, H p = some (.ins (k.cl c) dx (ks.zip vs)) ∧ ks.length = xs.length ∧ RepL k W H xs vs
  | .dk ks xs, p => ∃ us, H p = some (.dK (ks.zip us)) ∧ ks.length = xs.length ∧ RepL k W H xs us
  | .dn ks xs, p => ∃ ns as us, H p = some (DctO k.w p ns as us) ∧ keysD ks = some ns ∧ RepL k W H ks (as.map V.ref) ∧ RepL k W H xs us
  | .dz, p => ∃ od u, H p = some (.frz od u)
  | .exo c ks xs, p => ∃ d, H p = some (ExV (k.cl c) d p) ∧ ks.length = xs.length ∧ (ks = [] ∧ d = none ∨ ∃ dx vs, d = some dx ∧ H dx = some (.xd (ks.zip vs)) ∧ RepL k W H xs vs)
structure Ok (k : Kx) (W : Wd) (H : Hp) (st : Sto) : Prop where
  nd : W.rho.Nodup
  len : W.rho.length = st.length
  fzs : ∀ p, W.fz p → H p ≠ none
  apart : ∀ p ∈ W.rho, ¬ W.fz p
  obj : ∀ (i : Nat) o p, st[i]? = some o → W.rho[i]? = some p → RepO k W H o p
theorem Ok.at {k : Kx} {W : Wd} {H : Hp} {st : Sto} {i : Nat} {o : SO} (h : Ok k W H st) (e : st[i]? = some o) : ∃ p, W.rho[i]? = some p ∧ RepO k W H o p := by
  have hi : i < W.rho.length := by
    rw [h.len]
    exact (List.getElem?_eq_some_iff.mp e).1
  exact ⟨W.rho[i], List.getElem?_eq_getElem hi, h.obj i o _ e (List.getElem?_eq_getElem hi)⟩
theorem Ok.there {k : Kx} {W : Wd} {H : Hp} {st : Sto} {p : Addr} (h : Ok k W H st) (hp : p ∈ W.rho) : H p ≠ none := by
  obtain ⟨i, hi, e⟩ := List.getElem_of_mem hp
  have hs : i < st.length := by
    rw [← h.len]
    exact hi
  have r := h.obj i st[i] p (List.getElem?_eq_getElem hs) (by rw [List.getElem?_eq_getElem hi, e])
  cases q : st[i] with
  | lst xs =>
    rw [q] at r
    obtain ⟨vs, z, _⟩ := r
    rw [z]
    exact fun z => nomatch z
  | ins c ks xs =>
    rw [q] at r
    obtain ⟨dx, vs, z, _⟩ := r
    rw [z]
    exact fun z => nomatch z
  | dk ks xs =>
    rw [q] at r
    obtain ⟨us, z, _⟩ := r
    rw [z]
    exact fun z => nomatch z
  | dn ks xs =>
    rw [q] at r
    obtain ⟨ns, as, us, z, _⟩ := r
    rw [z]
    exact fun z => nomatch z
  | dz =>
    rw [q] at r
    obtain ⟨od, u, z⟩ := r
    rw [z]
    exact fun z => nomatch z
  | exo c ks xs =>
    rw [q] at r
    obtain ⟨d, z, _⟩ := r
    rw [z]
    exact fun z => nomatch z
/-- an object that is no store object and not frozen is laid (a new one) -/
theorem upd_dom {H : Hp} {p q : Addr} {o : HO} (h : H q ≠ none) : upd H p o q ≠ none := by
  by_cases e : q = p
  · rw [e, upd_same]
    exact fun z => nomatch z
  · rw [upd_ne e]
    exact h
theorem Le.new {W : Wd} {H : Hp} {p : Addr} {o : HO} (h : H p = none) : Le W W H (upd H p o) :=
  ⟨⟨[], by simp⟩, fun _ h => h, fun q u e _ => by rw [upd_ne (ne_of_none e h)]; exact e, fun q u e _ => by rw [upd_ne (ne_of_none e h)]; exact e, fun q u e _ => by rw [upd_ne (ne_of_none e h)]; exact e, fun _ h => .inl h, fun _ h => .inl h, fun _ h => upd_dom h⟩
theorem RepO.le {k : Kx} {W W' : Wd} {H H' : Hp} (l : Le W W' H H') {o : SO} {p : Addr} (e : H' p = H p) (h : RepO k W H o p) : RepO k W' H' o p := by
  cases o with
  | lst xs =>
    obtain ⟨vs, z, r⟩ := h
    exact ⟨vs, e.trans z, r.le l⟩
  | ins c ks xs =>
    obtain ⟨dx, vs, z, n, r⟩ := h
    exact ⟨dx, vs, e.trans z, n, r.le l⟩
  | dk ks xs =>
    obtain ⟨us, z, n, r⟩ := h
    exact ⟨us, e.trans z, n, r.le l⟩
  | dn ks xs =>
    obtain ⟨ns, as, us, z, n, r, r2⟩ := h
    exact ⟨ns, as, us, e.trans z, n, r.le l, r2.le l⟩
  | dz =>
    obtain ⟨od, u, z⟩ := h
    exact ⟨od, u, e.trans z⟩
  | exo c ks xs =>
    obtain ⟨d, z, n, r⟩ := h
    refine ⟨d, e.trans z, n, ?_⟩
    rcases r with r | ⟨dx, vs, r1, r2, r3⟩
    · exact .inl r
    · exact .inr ⟨dx, vs, r1, l.imm _ _ r2 trivial, r3.le l⟩
theorem Ok.new {k : Kx} {W : Wd} {H : Hp} {st : Sto} {p : Addr} {o : HO} (h : Ok k W H st) (hp : H p = none) : Ok k W (upd H p o) st :=
  ⟨h.nd, h.len, fun q f => by
    by_cases e : q = p
    · rw [e, upd_same]
      exact fun z => nomatch z
    · rw [upd_ne e]
      exact h.fzs q f, h.apart, fun i u q e1 e2 => by
    have hq : q ∈ W.rho := List.mem_of_getElem? e2
    have ne : q ≠ p := fun z => h.there hq (by rw [z]; exact hp)
    exact (h.obj i u q e1 e2).le (Le.new hp) (upd_ne ne)⟩
/-- a new frozen object -/
def Wd.fr (W : Wd) (p : Addr) : Wd := ⟨W.rho, fun q => W.fz q ∨ q = p⟩
theorem RepV.fr {k : Kx} {W : Wd} {H : Hp} {p : Addr} {x : Val} {v : V} (h : RepV k W H x v) : RepV k (W.fr p) H x v := RepV.more (W := W) (W' := W.fr p) (fun _ _ h => h) (fun _ h => Or.inl h) h
theorem RepO.fr {k : Kx} {W : Wd} {H : Hp} {p q : Addr} {o : SO} (h : RepO k W H o q) : RepO k (W.fr p) H o q := by
  cases o with
  | lst xs =>
    obtain ⟨vs, z, r⟩ := h
    exact ⟨vs, z, r.more (W := W) (W' := W.fr p) (fun _ _ h => h) fun _ h => Or.inl h⟩
  | ins c ks xs =>
    obtain ⟨dx, vs, z, n, r⟩ := h
    exact ⟨dx, vs, z, n, r.more (W := W) (W' := W.fr p) (fun _ _ h => h) fun _ h => Or.inl h⟩
  | dk ks xs =>
    obtain ⟨us, z, n, r⟩ := h
    exact ⟨us, z, n, r.more (W := W) (W' := W.fr p) (fun _ _ h => h) fun _ h => Or.inl h⟩
  | dn ks xs =>
    obtain ⟨ns, as, us, z, n, r, r2⟩ := h
    exact ⟨ns, as, us, z, n, r.more (W := W) (W' := W.fr p) (fun _ _ h => h) (fun _ h => Or.inl h), r2.more (W := W) (W' := W.fr p) (fun _ _ h => h) fun _ h => Or.inl h⟩
  | dz => exact h
  | exo c ks xs =>
    obtain ⟨d, z, n, r⟩ := h
    refine ⟨d, z, n, ?_⟩
    rcases r with r | ⟨dx, vs, r1, r2, r3⟩
    · exact .inl r
    · exact .inr ⟨dx, vs, r1, r2, r3.more (W := W) (W' := W.fr p) (fun _ _ h => h) fun _ h => Or.inl h⟩
theorem Ok.fr {k : Kx} {W : Wd} {H : Hp} {st : Sto} {p : Addr} (h : Ok k W H st) (hp : H p ≠ none) (hq : p ∉ W.rho) : Ok k (W.fr p) H st :=
  ⟨h.nd, h.len, fun q f => by
    rcases f with f | f
    · exact h.fzs q f
    · rw [f]
      exact hp, fun q m f => by
    rcases f with f | f
    · exact h.apart q m f
    · exact hq (f ▸ m), fun i u q e1 e2 => (h.obj i u q e1 e2).fr⟩
theorem Ok.newFr {k : Kx} {W : Wd} {H : Hp} {st : Sto} {p : Addr} {o : HO} (h : Ok k W H st) (hp : H p = none) : Le W (W.fr p) H (upd H p o) ∧ Ok k (W.fr p) (upd H p o) st :=
  ⟨⟨⟨[], by simp [Wd.fr]⟩, fun _ h => .inl h, (Le.new (W := W) hp).imm, (Le.new (W := W) hp).keep, (Le.new (W := W) hp).rest, fun _ h => .inl h, fun q f => by
    rcases f with f | f
    · exact .inl f
    · exact .inr (f ▸ hp), fun _ h => upd_dom h⟩, (h.new hp).fr (by rw [upd_same]; exact fun z => nomatch z) fun z => h.there z hp⟩
/-- a new store object -/
def Wd.ob (W : Wd) (p : Addr) : Wd := ⟨W.rho ++ [p], W.fz⟩
theorem Ok.newOb {k : Kx} {W : Wd} {H : Hp} {st : Sto} {p : Addr} {o : HO} {u : SO} (h : Ok k W H st) (hp : H p = none) (hu : RepO k (W.ob p) (upd H p o) u p) :
    Le W (W.ob p) H (upd H p o) ∧ Ok k (W.ob p) (upd H p o) (st ++ [u]) := by
  have l : Le W (W.ob p) H (upd H p o) := ⟨⟨[p], rfl⟩, fun _ h => h, (Le.new (W := W) hp).imm, (Le.new (W := W) hp).keep, (Le.new (W := W) hp).rest, fun q m => by
    rcases List.mem_append.mp (show q ∈ W.rho ++ [p] from m) with m | m
    · exact .inl m
    · exact .inr (by rw [List.mem_singleton.mp m]; exact hp), fun _ h => .inl h, fun _ h => upd_dom h⟩
  refine ⟨l, ⟨?_, ?_, fun q f => ?_, fun q m f => ?_, fun i v q e1 e2 => ?_⟩⟩
  · show (W.rho ++ [p]).Nodup
    rw [List.nodup_append]
    exact ⟨h.nd, by simp, fun a ha b hb e => h.there ha (by rw [e, List.mem_singleton.mp hb]; exact hp)⟩
  · show (W.rho ++ [p]).length = (st ++ [u]).length
    rw [List.length_append, List.length_append, h.len]
    rfl
  · by_cases e : q = p
    · rw [e, upd_same]
      exact fun z => nomatch z
    · rw [upd_ne e]
      exact h.fzs q f
  · rcases List.mem_append.mp (show q ∈ W.rho ++ [p] from m) with m | m
    · exact h.apart q m f
    · rw [List.mem_singleton.mp m] at f
      exact h.fzs p f hp
  · have e2' : (W.rho ++ [p])[i]? = some q := e2
    by_cases hi : i < st.length
    · rw [List.getElem?_append_left hi] at e1
      rw [List.getElem?_append_left (by rw [h.len]; exact hi)] at e2'
      have ne : q ≠ p := fun z => h.there (List.mem_of_getElem? e2') (by rw [z]; exact hp)
      exact (h.obj i v q e1 e2').le l (upd_ne ne)
    · rw [List.getElem?_append_right (by omega)] at e1
      rw [List.getElem?_append_right (by rw [h.len]; omega), h.len] at e2'
      have hz : i - st.length = 0 := by
        by_cases z : i - st.length = 0
        · exact z
        · rw [List.getElem?_eq_none (by simp; omega)] at e1
          cases e1
      rw [hz] at e1 e2'
      cases e1
      cases e2'
      exact hu
theorem nodup_ix_addr {l : List Addr} (nd : l.Nodup) {i j : Nat} {x : Addr} (a : l[i]? = some x) (b : l[j]? = some x) : i = j := by
  obtain ⟨h1, e1⟩ := List.getElem?_eq_some_iff.mp a
  obtain ⟨h2, e2⟩ := List.getElem?_eq_some_iff.mp b
  exact (List.getElem_inj nd).mp (e1.trans e2.symm)
/-- a store object is changed -/
theorem Ok.put {k : Kx} {W : Wd} {H : Hp} {st : Sto} {i : Nat} {p : Addr} {o o' : HO} {u : SO} (h : Ok k W H st) (hi : W.rho[i]? = some p) (ho : H p = some o) (hm : ¬ Imm o) (hu : RepO k W (upd H p o') u p) :
    Le W W H (upd H p o') ∧ Ok k W (upd H p o') (st.set i u) := by
  have hp : p ∈ W.rho := List.mem_of_getElem? hi
  have l : Le W W H (upd H p o') := ⟨⟨[], by simp⟩, fun _ h => h, fun q v e m => by
    have ne : q ≠ p := fun z => by
      rw [z, ho] at e
      cases e
      exact hm m
    rw [upd_ne ne]
    exact e, fun q v e f => by
    have ne : q ≠ p := fun z => h.apart p hp (z ▸ f)
    rw [upd_ne ne]
    exact e, fun q v e f => by
    have ne : q ≠ p := fun z => f (z ▸ hp)
    rw [upd_ne ne]
    exact e, fun _ h => .inl h, fun _ h => .inl h, fun _ h => upd_dom h⟩
  refine ⟨l, ⟨h.nd, by rw [List.length_set]; exact h.len, fun q f => ?_, h.apart, fun j v q e1 e2 => ?_⟩⟩
  · by_cases e : q = p
    · rw [e, upd_same]
      exact fun z => nomatch z
    · rw [upd_ne e]
      exact h.fzs q f
  · by_cases e : j = i
    · subst e
      rw [hi] at e2
      cases e2
      have hl : j < st.length := by
        rw [← h.len]
        exact (List.getElem?_eq_some_iff.mp hi).1
      rw [List.getElem?_set_self hl] at e1
      cases e1
      exact hu
    · rw [List.getElem?_set_ne (Ne.symm e)] at e1
      have ne : q ≠ p := fun z => by
        subst z
        exact e (nodup_ix_addr h.nd e2 hi)
      exact (h.obj j v q e1 e2).le l (upd_ne ne)
end Mi
namespace Mi
open PySem L2
/-! ### ends, readings -/
def RepX (k : Kx) (W : Wd) (H : Hp) (x : Exc) (c : Value) (d : Option Addr) : Prop :=
  c = .ref (k.cl x.cls) ∧ x.ks.length = x.xs.length ∧ (x.ks = [] ∧ d = none ∨ ∃ a vs, d = some a ∧ H a = some (.xd (x.ks.zip vs)) ∧ RepL k W H x.xs vs)
def Fin {α β : Type} (k : Kx) (R : Wd → Hp → α → β → Prop) (E : XK) (W : Wd) (H : Hp) (Q : β → Hp → Prop) : Except Exc α × Sto → Prop
  | (.ok r, st) => ∀ W' H' v, Le W W' H H' → Ok k W' H' st → R W' H' r v → Q v H'
  | (.error x, st) => ∀ W' H' c d, Le W W' H H' → Ok k W' H' st → RepX k W' H' x c d → E c d H'
theorem Fin.le {α β : Type} {k : Kx} {R : Wd → Hp → α → β → Prop} {E : XK} {W W1 : Wd} {H H1 : Hp} {Q : β → Hp → Prop} {o : Except Exc α × Sto} (l : Le W W1 H H1) (h : Fin k R E W H Q o) : Fin k R E W1 H1 Q o := by
  obtain ⟨r, st⟩ := o
  cases r with
  | ok r => exact fun W' H' v l' => h W' H' v (l.trans l')
  | error x => exact fun W' H' c d l' => h W' H' c d (l.trans l')
theorem Fin.mono {α β : Type} {k : Kx} {R : Wd → Hp → α → β → Prop} {E : XK} {W : Wd} {H : Hp} {Q Q' : β → Hp → Prop} {o : Except Exc α × Sto} (h : Fin k R E W H Q o) (q : ∀ v H, Q v H → Q' v H) : Fin k R E W H Q' o := by
  obtain ⟨r, st⟩ := o
  cases r with
  | ok r => exact fun W' H' v l o r => q _ _ (h W' H' v l o r)
  | error x => exact h
/-- at the world W -/
def At {α β : Type} (k : Kx) (R : Wd → Hp → α → β → Prop) (E : WX) (m : M α) (W : Wd) (σ : L2.St) (H : Hp) (Q : β → Hp → Prop) : Prop :=
  ∃ env st o, Ok k W H st ∧ RepE k W H env σ ∧ m env st = some o ∧ Fin k R (fun c d H' => E c d σ H') W H Q o
def tG {α β : Type} (k : Kx) (R : Wd → Hp → α → β → Prop) (E : WX) (m : M α) (σ : L2.St) (H : Hp) (Q : β → Hp → Prop) : Prop := ∃ W, At k R E m W σ H Q
def RB : Wd → Hp → Bool → Bool → Prop := fun _ _ a b => b = a
def tM (k : Kx) (E : WX) (m : M Val) : TE := fun σ H Q => tG k (RepV k) E m σ H Q
def tMb (k : Kx) (E : WX) (m : M Bool) : TT := fun σ H Q => tG k RB E m σ H Q
def tMa (k : Kx) (E : WX) (m : M (List Val)) : TA := fun σ H Q => tG k (RepL k) E m σ H Q
/-! ### the mirror's own words -/
def ret {α : Type} (a : α) : M α := fun _ st => some (.ok a, st)
def stuck {α : Type} : M α := fun _ _ => none
def bnd {α β : Type} (m : M α) (f : α → M β) : M β := fun env st =>
  match m env st with
  | some (.ok a, st1) => f a env st1
  | some (.error x, st1) => some (.error x, st1)
  | none => none
def lift {α : Type} (o : Sto → Option α) : M α := fun _ st => (o st).map fun c => (.ok c, st)
def var (i : Nat) : M Val := fun env st => match env[i]? with
  | some (some v) => some (.ok v, st)
  | _ => none
section
variable {k : Kx} {E : WX} {σ : L2.St} {W : Wd} {H : Hp}
theorem tG.mono {α β : Type} {R : Wd → Hp → α → β → Prop} {m : M α} {Q Q' : β → Hp → Prop} (h : tG k R E m σ H Q) (q : ∀ v H, Q v H → Q' v H) : tG k R E m σ H Q' := by
  obtain ⟨W, env, st, o, h1, h2, h3, h4⟩ := h
  exact ⟨W, env, st, o, h1, h2, h3, h4.mono q⟩
theorem At.bnd {α β γ δ : Type} {R1 : Wd → Hp → α → β → Prop} {R2 : Wd → Hp → γ → δ → Prop} {m : M α} {f : α → M γ} {Q : δ → Hp → Prop} (P : Wd → Hp → Prop) (mono : ∀ {W W' : Wd} {H H' : Hp}, Le W W' H H' → P W H → P W' H') (hp : P W H)
    (h : At k R2 E (bnd m f) W σ H Q) : tG k R1 E m σ H fun x H1 => ∃ W1 a, P W1 H1 ∧ R1 W1 H1 a x ∧ At k R2 E (f a) W1 σ H1 Q := by
  obtain ⟨env, st, o, h1, h2, h3, h4⟩ := h
  unfold Mi.bnd at h3
  cases e : m env st with
  | none =>
    rw [e] at h3
    cases h3
  | some p =>
    rw [e] at h3
    obtain ⟨r, st1⟩ := p
    cases r with
    | ok a => exact ⟨W, env, st, _, h1, h2, e, fun W' H' v l o' r' => ⟨W', a, mono l hp, r', env, st1, o, o', h2.le l, h3, h4.le l⟩⟩
    | error x =>
      cases h3
      exact ⟨W, env, st, _, h1, h2, e, h4⟩
theorem tG.bnd {α β γ δ : Type} {R1 : Wd → Hp → α → β → Prop} {R2 : Wd → Hp → γ → δ → Prop} {m : M α} {f : α → M γ} {Q : δ → Hp → Prop} (h : tG k R2 E (bnd m f) σ H Q) : tG k R1 E m σ H fun x H1 => ∃ W1 a, R1 W1 H1 a x ∧ At k R2 E (f a) W1 σ H1 Q := by
  obtain ⟨W, h⟩ := h
  exact (At.bnd (R1 := R1) (fun _ _ => True) (fun _ _ => trivial) trivial h).mono fun v H ⟨W1, a, _, h1, h2⟩ => ⟨W1, a, h1, h2⟩
theorem At.lift {α β : Type} {R : Wd → Hp → α → β → Prop} {o : Sto → Option α} {Q : β → Hp → Prop} (h : At k R E (lift o) W σ H Q) : ∃ c st, o st = some c ∧ Ok k W H st ∧ ∀ W' H' v, Le W W' H H' → Ok k W' H' st → R W' H' c v → Q v H' := by
  obtain ⟨env, st, r, h1, h2, h3, h4⟩ := h
  unfold Mi.lift at h3
  cases e : o st with
  | none =>
    rw [e] at h3
    cases h3
  | some c =>
    rw [e] at h3
    cases h3
    exact ⟨c, st, e, h1, h4⟩
/-- two operands -/
theorem tG.bin {γ δ : Type} {R2 : Wd → Hp → γ → δ → Prop} {ma mb : M Val} {f : Val → Val → M γ} {Q : δ → Hp → Prop} (h : tG k R2 E (Mi.bnd ma fun a => Mi.bnd mb fun b => f a b) σ H Q) :
    tM k E ma σ H fun x H1 => tM k E mb σ H1 fun y H2 => ∃ W a b, RepV k W H2 a x ∧ RepV k W H2 b y ∧ At k R2 E (f a b) W σ H2 Q := by
  refine tG.mono (tG.bnd (R1 := RepV k) h) fun x H1 ⟨W1, a, ra, h1⟩ => ?_
  exact (At.bnd (R1 := RepV k) (fun W H => RepV k W H a x) (fun l r => r.le l) ra h1).mono fun y H2 ⟨W2, b, r1, r2, h2⟩ => ⟨W2, a, b, r1, r2, h2⟩
end
section
variable {X : Cx} {k : Kx} {E : WX}
theorem imp {e : Expr} {t u : TE} (h : PE X e t) (i : ∀ σ H Q, u σ H Q → t σ H Q) : PE X e u := ⟨fun pins s σ H Q I q => h.run pins s σ H Q I (i σ H Q q)⟩
theorem impT {e : Expr} {t u : TT} (h : PT X e t) (i : ∀ σ H Q, u σ H Q → t σ H Q) : PT X e u := ⟨fun pins s σ H Q I q => h.run pins s σ H Q I (i σ H Q q)⟩
theorem impW {e : Expr} {t u : TT} (h : PW X e t) (i : ∀ σ H Q, u σ H Q → t σ H Q) : PW X e u := ⟨fun wh pins s σ H Q I q => h.run wh pins s σ H Q I (i σ H Q q)⟩
theorem impA {e : List Expr} {t u : TA} (h : PA X e t) (i : ∀ σ H Q, u σ H Q → t σ H Q) : PA X e u := ⟨fun pos pins s σ H Q I q => h.run pos pins s σ H Q I (i σ H Q q)⟩
theorem impS {e : Stmt} {t u : TS} (h : PS X e t) (i : ∀ D σ H, u D σ H → t D σ H) : PS X e u := ⟨fun pins s σ H D I q => h.run pins s σ H D I (i D σ H q)⟩
theorem impSs {e : List Stmt} {t u : TS} (h : PSs X e t) (i : ∀ D σ H, u D σ H → t D σ H) : PSs X e u := ⟨fun pins s σ H D I q => h.run pins s σ H D I (i D σ H q)⟩
/-! ### names, constants -/
theorem me_var (i : Nat) {x : Str} {pos : Pos} (h : PE X (.Name x pos) (tVar i)) : PE X (.Name x pos) (tM k E (var i)) := imp h fun σ H Q ⟨W, env, st, o, h1, h2, h3, h4⟩ => by
  unfold var at h3
  split at h3
  · next v e =>
    cases h3
    obtain ⟨u, e2, r⟩ := h2.get e
    exact ⟨u, e2, h4 W H u (Le.refl W H) h1 r⟩
  · cases h3
/-- a value that stands everywhere for the same thing -/
def Cst (k : Kx) (a : Val) (v : V) : Prop := ∀ W H, RepV k W H a v
theorem me_c {e : Expr} {a : Val} {v : V} (h : PE X e (tC v)) (c : Cst k a v) : PE X e (tM k E (ret a)) := imp h fun σ H Q ⟨W, env, st, o, h1, h2, h3, h4⟩ => by
  cases h3
  exact h4 W H v (Le.refl W H) h1 (c W H)
theorem me_int {i : Int} {j pos} : PE X (.Constant (.int i) j pos) (tM k E (ret (.int i))) := me_c pe_int fun _ _ => rfl
theorem me_bl {b : Bool} {j pos} : PE X (.Constant (.bool b) j pos) (tM k E (ret (.bl b))) := me_c pe_bl fun _ _ => rfl
theorem me_non {j pos} : PE X (.Constant .none j pos) (tM k E (ret .non)) := me_c pe_non fun _ _ => rfl
theorem me_str {x : Str} {j pos} : PE X (.Constant (.str x) j pos) (tM k E (ret (.str x))) := me_c pe_str fun _ _ => rfl
/-! ### operators -/
/-- f is what r asks for (nothing of the store is changed) -/
def Rd2 (k : Kx) (f : Sto → Val → Val → Option Val) (r : R2) : Prop := ∀ W H st a b x y c Q, Ok k W H st → RepV k W H a x → RepV k W H b y → f st a b = some c → (∀ W' H' v, Le W W' H H' → Ok k W' H' st → RepV k W' H' c v → Q v H') → r x y H Q
def bin (f : Sto → Val → Val → Option Val) (ma mb : M Val) : M Val := bnd ma fun a => bnd mb fun b => lift fun st => f st a b
def un (f : Sto → Val → Option Val) (ma : M Val) : M Val := bnd ma fun a => lift fun st => f st a
theorem bin_read {f : Sto → Val → Val → Option Val} {r : R2} (hr : Rd2 k f r) {ma mb : M Val} {σ : L2.St} {H : Hp} {Q : VK} (h : tM k E (bin f ma mb) σ H Q) : tOp r (tM k E ma) (tM k E mb) σ H Q := by
  refine tG.mono (tG.bin h) fun x H1 h1 => tG.mono h1 fun y H2 ⟨W, a, b, ra, rb, h2⟩ => ?_
  obtain ⟨c, st, e, o, q⟩ := h2.lift
  exact hr W H2 st a b x y c Q o ra rb e q
theorem me_op {a b : Expr} {op : Operator} {pos : Pos} {f : Sto → Val → Val → Option Val} {r : R2} {ma mb : M Val} (hr : Rd2 k f r) (ho : OpR X (binaryOp op) r) (ha : PE X a (tM k E ma)) (hb : PE X b (tM k E mb)) : PE X (.BinOp a op b pos) (tM k E (bin f ma mb)) :=
  imp (pe_op ho ha hb) fun _ _ _ h => bin_read hr h
theorem me_cmp {a b : Expr} {op : CmpOp} {pos : Pos} {f : Sto → Val → Val → Option Val} {r : R2} {ma mb : M Val} (hr : Rd2 k f r) (ho : OpR X (compareOp op) r) (hm : behindInMarks op b = false) (ha : PE X a (tM k E ma)) (hb : PE X b (tM k E mb)) :
    PE X (.Compare a [op] [b] pos) (tM k E (bin f ma mb)) := imp (pe_cmpR ho ha hb hm) fun _ _ _ h => bin_read hr h
def asBool : Val → Option Bool
  | .bl b => some b
  | _ => none
def asB (m : M Val) : M Bool := bnd m fun a => lift fun _ => asBool a
theorem asB_read {m : M Val} {σ : L2.St} {H : Hp} {Q : Bool → Hp → Prop} (h : tMb k E (asB m) σ H Q) : tM k E m σ H fun x H1 => ∃ c, x = .bl c ∧ Q c H1 := by
  refine tG.mono (tG.bnd (R1 := RepV k) h) fun x H1 ⟨W, a, ra, h1⟩ => ?_
  obtain ⟨c, st, e, o, q⟩ := h1.lift
  cases a with
  | bl b =>
    cases e
    exact ⟨_, ra, q W H1 _ (Le.refl W H1) o rfl⟩
  | _ => cases e
/-- a comparison as a test -/
theorem mt_cmp {a b : Expr} {op : CmpOp} {pos : Pos} {f : Sto → Val → Val → Option Val} {r : R2} {ma mb : M Val} (hr : Rd2 k f r) (ho : OpR X (compareOp op) r) (hm : behindInMarks op b = false) (ha : PE X a (tM k E ma)) (hb : PE X b (tM k E mb)) :
    PT X (.Compare a [op] [b] pos) (tMb k E (asB (bin f ma mb))) := impT (pt_cmpR ho ha hb hm) fun σ H Q h => by
  have h1 := bin_read (Q := fun x H1 => ∃ c, x = .bl c ∧ Q c H1) hr (asB_read h)
  exact h1
theorem mt_val {e : Expr} {m : M Val} (h : PE X e (tM k E m)) (he : ∀ whole, isTrue e X.env whole = (do let v ← whole; standAt e.pos; holding [v] (truthy v)) := by intro _; rfl) : PT X e (tMb k E (asB m)) :=
  impT (pt_val h he) fun σ H Q h => asB_read h
def andB (a b : M Bool) : M Bool := bnd a fun c => if c then b else ret false
def orB (a b : M Bool) : M Bool := bnd a fun c => if c then ret true else b
def notB (a : M Bool) : M Bool := bnd a fun c => ret (!c)
theorem At.tG {α β : Type} {R : Wd → Hp → α → β → Prop} {m : M α} {W : Wd} {σ : L2.St} {H : Hp} {Q : β → Hp → Prop} (h : At k R E m W σ H Q) : tG k R E m σ H Q := ⟨W, h⟩
theorem At.ret {α β : Type} {R : Wd → Hp → α → β → Prop} {a : α} {W : Wd} {σ : L2.St} {H : Hp} {Q : β → Hp → Prop} (h : At k R E (ret a) W σ H Q) {v : β} (r : R W H a v) : Q v H := by
  obtain ⟨env, st, o, h1, h2, h3, h4⟩ := h
  cases h3
  exact h4 W H v (Le.refl W H) h1 r
theorem mw_and1 {a : Expr} {pos : Pos} {m : M Bool} (ha : PT X a (tMb k E m)) : PW X (.BoolOp .And [a] pos) (tMb k E m) := pw_and1 ha
theorem mw_or1 {a : Expr} {pos : Pos} {m : M Bool} (ha : PT X a (tMb k E m)) : PW X (.BoolOp .Or [a] pos) (tMb k E m) := pw_or1 ha
theorem mw_and {a b : Expr} {rest : List Expr} {pos : Pos} {m n : M Bool} (ha : PT X a (tMb k E m)) (hb : PW X (.BoolOp .And (b :: rest) pos) (tMb k E n)) : PW X (.BoolOp .And (a :: b :: rest) pos) (tMb k E (andB m n)) :=
  impW (pw_and ha hb) fun σ H Q h => tG.mono (tG.bnd (R1 := RB) h) fun c H1 ⟨W, a, ra, h1⟩ => by
    cases ra
    cases c with
    | true => exact h1.tG
    | false => exact h1.ret rfl
theorem mw_or {a b : Expr} {rest : List Expr} {pos : Pos} {m n : M Bool} (ha : PT X a (tMb k E m)) (hb : PW X (.BoolOp .Or (b :: rest) pos) (tMb k E n)) : PW X (.BoolOp .Or (a :: b :: rest) pos) (tMb k E (orB m n)) :=
  impW (pw_or ha hb) fun σ H Q h => tG.mono (tG.bnd (R1 := RB) h) fun c H1 ⟨W, a, ra, h1⟩ => by
    cases ra
    cases c with
    | true => exact h1.ret rfl
    | false => exact h1.tG
theorem mt_not {a : Expr} {pos : Pos} {m : M Bool} (ha : PT X a (tMb k E m)) : PT X (.UnaryOp .Not a pos) (tMb k E (notB m)) :=
  impT (pt_not ha) fun σ H Q h => tG.mono (tG.bnd (R1 := RB) h) fun c H1 ⟨W, a, ra, h1⟩ => by
    cases ra
    exact h1.ret rfl
/-- and, or, not as values (bools; the last one may be anything) -/
def andV (a b : M Val) : M Val := bnd (asB a) fun c => if c then b else ret (.bl false)
def orV (a b : M Val) : M Val := bnd (asB a) fun c => if c then ret (.bl true) else b
def notV (a : M Val) : M Val := bnd (asB a) fun c => ret (.bl (!c))
def ifV (c : M Bool) (a b : M Val) : M Val := bnd c fun c => if c then a else b
theorem me_if {c a b : Expr} {pos : Pos} {mc : M Bool} {ma mb : M Val} (hc : PT X c (tMb k E mc)) (ha : PE X a (tM k E ma)) (hb : PE X b (tM k E mb)) : PE X (.IfExp c a b pos) (tM k E (ifV mc ma mb)) :=
  imp (pe_ifExp hc ha hb) fun σ H Q h => tG.mono (tG.bnd (R1 := RB) h) fun c H1 ⟨W, a, ra, h1⟩ => by
    cases ra
    cases c with
    | true => exact h1.tG
    | false => exact h1.tG
/-- a < b < c -/
def chain (f g : Sto → Val → Val → Option Val) (ma mb mc : M Val) : M Val := bnd ma fun a => bnd mb fun b => bnd (lift fun st => (f st a b).bind asBool) fun t => if t then bnd mc fun c => lift fun st => g st b c else ret (.bl false)
end
end Mi
namespace Mi
open PySem L2
theorem OpR_or {X : Cx} {f : Value → Value → Sem Value} {r r' : R2} (h : OpR X f r) (h' : OpR X f r') : OpR X f (fun x y H Q => r x y H Q ∨ r' x y H Q) := by
  intro pins s σ H x y v u Q I rx ry q
  rcases q with q | q
  · exact h pins s σ H x y v u Q I rx ry q
  · exact h' pins s σ H x y v u Q I rx ry q
theorem CallR_or {X : Cx} {f : Value} {r r' : List V → Hp → VK → Prop} (h : CallR X f r) (h' : CallR X f r') : CallR X f (fun xs H Q => r xs H Q ∨ r' xs H Q) := by
  intro pins s σ H xs us Q I rx q
  rcases q with q | q
  · exact h pins s σ H xs us Q I rx q
  · exact h' pins s σ H xs us Q I rx q
theorem SlR_or {X : Cx} {r r' : V → Option Int → Option Int → Hp → VK → Prop} (h : SlR X r) (h' : SlR X r') : SlR X (fun x lo hi H Q => r x lo hi H Q ∨ r' x lo hi H Q) := by
  intro pins s σ H x v vl vu lo hi sl Q I rx hs pl pu q
  rcases q with q | q
  · exact h pins s σ H x v vl vu lo hi sl Q I rx hs pl pu q
  · exact h' pins s σ H x v vl vu lo hi sl Q I rx hs pl pu q
/-! ### reading lists and tuples -/
def lstOf (st : Sto) : Val → Option (List Val)
  | .lst xs => some xs
  | .rol xs => some xs
  | .ref i => match st[i]? with
    | some (.lst xs) => some xs
    | _ => none
  | _ => none
def seqOf (st : Sto) (a : Val) : Option (List Val) := match a with
  | .tup xs => some xs
  | a => lstOf st a
abbrev LIM : Nat := 16000000
theorem lim_le {n : Nat} (h : n ≤ LIM) : n ≤ sizeLine := Nat.le_trans h (by decide)
theorem lim_lt {n : Nat} (h : n < LIM) : n < sizeLine := Nat.lt_of_lt_of_le h (by decide)
section
variable {k : Kx} {W : Wd} {H : Hp} {st : Sto} {a : Val} {x : V} {xs : List Val}
theorem lstOf_rep (o : Ok k W H st) (r : RepV k W H a x) (e : lstOf st a = some xs) : ∃ p vs, x = .ref p ∧ SqL k.K H p vs ∧ RepL k W H xs vs := by
  cases a with
  | lst ys =>
    cases e
    obtain ⟨p, vs, e, f, s, r⟩ := r
    exact ⟨p, vs, e, .inl (.inl s), r⟩
  | rol ys =>
    cases e
    obtain ⟨p, vs, e, s, r⟩ := r
    refine ⟨p, vs, e, ?_, r⟩
    rcases s with ⟨u, s⟩ | (s | ⟨u, s⟩) | s
    · exact .inl (.inr ⟨u, s⟩)
    · cases s
    · cases s
    · exact .inr s
  | ref i =>
    obtain ⟨p, e1, s⟩ := r
    dsimp only [lstOf] at e
    cases q : st[i]? with
    | none =>
      rw [q] at e
      cases e
    | some u =>
      rw [q] at e
      cases u with
      | lst ys =>
        cases e
        obtain ⟨vs, z, r⟩ := o.obj i _ p q s
        exact ⟨p, vs, e1, .inl (.inl z), r⟩
      | _ => cases e
  | _ => cases e
theorem seqOf_rep (o : Ok k W H st) (r : RepV k W H a x) (e : seqOf st a = some xs) : ∃ p vs, x = .ref p ∧ (SqL k.K H p vs ∨ SqT k.K H p vs) ∧ RepL k W H xs vs := by
  unfold seqOf at e
  split at e
  · cases e
    obtain ⟨p, vs, e, s, r⟩ := r
    exact ⟨p, vs, e, .inr s, r⟩
  · obtain ⟨p, vs, e, s, r⟩ := lstOf_rep o r e
    exact ⟨p, vs, e, .inl s, r⟩
/-- a new tuple, a new list that nobody changes -/
theorem newTup {Q : VK} {p : Addr} {vs : List V} (o : Ok k W H st) (hp : H p = none) (r : RepL k W H xs vs) (q : ∀ W' H' v, Le W W' H H' → Ok k W' H' st → RepV k W' H' (.tup xs) v → Q v H') : Q (.ref p) (upd H p (.tup vs)) :=
  q W _ _ (Le.new hp) (o.new hp) ⟨p, vs, rfl, .inl (.inl upd_same), r.le (Le.new hp)⟩
theorem newLst {Q : VK} {p : Addr} {vs : List V} (o : Ok k W H st) (hp : H p = none) (r : RepL k W H xs vs) (q : ∀ W' H' v, Le W W' H H' → Ok k W' H' st → RepV k W' H' (.lst xs) v → Q v H') : Q (.ref p) (upd H p (.lst vs)) := by
  obtain ⟨l, o'⟩ := o.newFr (o := .lst vs) hp
  exact q (W.fr p) _ _ l o' ⟨p, vs, rfl, .inr rfl, upd_same, r.le l⟩
end
def intOf : Val → Option Int
  | .int i => some i
  | _ => none
def strOf : Val → Option Str
  | .str i => some i
  | _ => none
def allOf {α : Type} (f : Val → Option α) : List Val → Option (List α)
  | [] => some []
  | x :: xs => match f x, allOf f xs with
    | some a, some r => some (a :: r)
    | _, _ => none
/-! ### + - * // % ** -/
def addV (_ : Sto) : Val → Val → Option Val
  | .int i, .int j => some (.int (i + j))
  | .str i, .str j => if i.length + j.length ≤ LIM then some (.str (i ++ j)) else none
  | .lst xs, .lst ys => if xs.length + ys.length ≤ LIM then some (.lst (xs ++ ys)) else none
  | .tup xs, .tup ys => if xs.length + ys.length ≤ LIM then some (.tup (xs ++ ys)) else none
  | _, _ => none
def subV (_ : Sto) : Val → Val → Option Val
  | .int i, .int j => some (.int (i - j))
  | _, _ => none
def small64 (i : Int) : Bool := decide (-(2 ^ 64) < i) && decide (i < 2 ^ 64)
def mulV (_ : Sto) : Val → Val → Option Val
  | .int i, .int j => if small64 i || small64 j then some (.int (i * j)) else none
  | .lst xs, .int j => if xs.length * j.toNat ≤ LIM ∧ -(2 ^ 63) ≤ j ∧ j < 2 ^ 63 then some (.lst (List.replicate j.toNat xs).flatten) else none
  | _, _ => none
def fdivV (_ : Sto) : Val → Val → Option Val
  | .int i, .int j => if 0 < j ∧ j < 1073741824 then some (.int (i / j)) else none
  | _, _ => none
def modV (_ : Sto) : Val → Val → Option Val
  | .int i, .int j => if 0 < j then some (.int (i % j)) else none
  | _, _ => none
def powV (_ : Sto) : Val → Val → Option Val
  | .int i, .int j => if 0 ≤ j ∧ j ≤ 1000 ∧ i.natAbs < 1000 then some (.int (i ^ j.toNat)) else none
  | _, _ => none
def cmpV (p : Int → Int → Bool) (_ : Sto) : Val → Val → Option Val
  | .int i, .int j => some (.bl (p i j))
  | _, _ => none
section
variable {k : Kx}
theorem rd_int {f : Sto → Val → Val → Option Val} {g : Int → Int → V} (h : ∀ st a b c, f st a b = some c → ∃ i j d, a = .int i ∧ b = .int j ∧ c = d ∧ Cst k d (g i j)) : Rd2 k f (rI0 g) := by
  intro W H st a b x y c Q o ra rb e q
  obtain ⟨i, j, d, rfl, rfl, rfl, hc⟩ := h st a b c e
  exact ⟨i, j, ra, rb, q W H _ (Le.refl W H) o (hc W H)⟩
theorem rd_sub : Rd2 k subV (rI0 fun i j => .int (i - j)) := rd_int fun st a b c e => by
  cases a <;> cases b <;> first | (cases e; exact ⟨_, _, _, rfl, rfl, rfl, fun _ _ => rfl⟩) | cases e
theorem rd_cmp (p : Int → Int → Bool) : Rd2 k (cmpV p) (rI0 fun i j => .bl (p i j)) := rd_int fun st a b c e => by
  cases a <;> cases b <;> first | (cases e; exact ⟨_, _, _, rfl, rfl, rfl, fun _ _ => rfl⟩) | cases e
theorem rd_add : Rd2 k addV (fun x y H Q => (rI0 (fun i j => .int (i + j)) x y H Q ∨ (∃ i j, x = .str i ∧ y = .str j ∧ i.length + j.length ≤ sizeLine ∧ Q (.str (i ++ j)) H)) ∨ (rCat x y H Q ∨ rCatA k.K x y H Q)) := by
  intro W H st a b x y c Q o ra rb e q
  cases a <;> cases b <;> first | cases e | skip
  · exact .inl (.inl ⟨_, _, ra, rb, q W H _ (Le.refl W H) o rfl⟩)
  · rename_i i j
    dsimp only [addV] at e
    split at e
    · rename_i hl
      cases e
      exact .inl (.inr ⟨i, j, ra, rb, lim_le hl, q W H _ (Le.refl W H) o rfl⟩)
    · cases e
  · rename_i xs ys
    dsimp only [addV] at e
    split at e
    · rename_i hl
      cases e
      obtain ⟨p, vs, e1, s1, r1⟩ := ra
      obtain ⟨p2, us, e2, s2, r2⟩ := rb
      refine .inr (.inr ⟨p, p2, vs, us, e1, e2, s1, s2, by rw [r1.len, r2.len]; exact lim_le hl, fun z => ?_, fun z1 z2 => ?_, fun _ _ p hp => newTup o hp (r1.append r2) q⟩)
      · subst z
        have hx : xs = [] := List.length_eq_zero_iff.mp (by rw [← r1.len]; rfl)
        subst hx
        exact q W H _ (Le.refl W H) o ⟨p2, us, rfl, s2, r2⟩
      · subst z2
        have hy : ys = [] := List.length_eq_zero_iff.mp (by rw [← r2.len]; rfl)
        subst hy
        rw [List.append_nil] at q
        exact q W H _ (Le.refl W H) o ⟨p, vs, rfl, s1, r1⟩
    · cases e
  · rename_i xs ys
    dsimp only [addV] at e
    split at e
    · rename_i hl
      cases e
      obtain ⟨p, vs, e1, f1, s1, r1⟩ := ra
      obtain ⟨p2, us, e2, f2, s2, r2⟩ := rb
      exact .inr (.inl ⟨p, p2, vs, us, e1, e2, s1, s2, by rw [r1.len, r2.len]; exact lim_le hl, fun p hp => newLst o hp (r1.append r2) q⟩)
    · cases e
theorem rd_mul : Rd2 k mulV (fun x y H Q => rI CMul (fun i j => .int (i * j)) x y H Q ∨ rRep x y H Q) := by
  intro W H st a b x y c Q o ra rb e q
  cases a <;> cases b <;> first | cases e | skip
  · rename_i i j
    dsimp only [mulV] at e
    split at e
    · rename_i hl
      cases e
      refine .inl ⟨i, j, ra, rb, ?_, q W H _ (Le.refl W H) o rfl⟩
      rcases Bool.or_eq_true_iff.mp hl with z | z
      · have z2 := Bool.and_eq_true_iff.mp z
        exact .inl ⟨of_decide_eq_true z2.1, of_decide_eq_true z2.2⟩
      · have z2 := Bool.and_eq_true_iff.mp z
        exact .inr ⟨of_decide_eq_true z2.1, of_decide_eq_true z2.2⟩
    · cases e
  · rename_i xs j
    dsimp only [mulV] at e
    split at e
    · rename_i hl
      cases e
      obtain ⟨p, vs, e1, f1, s1, r1⟩ := ra
      refine .inr ⟨p, j, vs, e1, rb, s1, hl.2.1, hl.2.2, by rw [r1.len]; exact lim_le hl.1, fun p hp => newLst o hp ?_ q⟩
      generalize j.toNat = n
      induction n with
      | zero => exact rfl
      | succ n ih =>
        rw [List.replicate_succ, List.replicate_succ, List.flatten_cons, List.flatten_cons]
        exact r1.append ih
    · cases e
theorem rd_fdiv : Rd2 k fdivV (rI CDiv fun i j => .int (i / j)) := by
  intro W H st a b x y c Q o ra rb e q
  cases a <;> cases b <;> first | cases e | skip
  dsimp only [fdivV] at e
  split at e
  · rename_i hl
    cases e
    exact ⟨_, _, ra, rb, hl, q W H _ (Le.refl W H) o rfl⟩
  · cases e
theorem rd_mod : Rd2 k modV (rI (fun _ j => 0 < j) fun i j => .int (i % j)) := by
  intro W H st a b x y c Q o ra rb e q
  cases a <;> cases b <;> first | cases e | skip
  dsimp only [modV] at e
  split at e
  · rename_i hl
    cases e
    exact ⟨_, _, ra, rb, hl, q W H _ (Le.refl W H) o rfl⟩
  · cases e
theorem rd_pow : Rd2 k powV (rI CPow fun i j => .int (i ^ j.toNat)) := by
  intro W H st a b x y c Q o ra rb e q
  cases a <;> cases b <;> first | cases e | skip
  dsimp only [powV] at e
  split at e
  · rename_i hl
    cases e
    exact ⟨_, _, ra, rb, ⟨hl.1, by omega, Nat.lt_of_lt_of_le hl.2.2 (by decide)⟩, q W H _ (Le.refl W H) o rfl⟩
  · cases e
end
section
variable {X : Cx} {k : Kx} {E : WX} {a b : Expr} {ma mb : M Val} {pos : Pos}
theorem me_add (ha : PE X a (tM k E ma)) (hb : PE X b (tM k E mb)) (hk : X.K = k.K := by rfl) : PE X (.BinOp a .Add b pos) (tM k E (bin addV ma mb)) := me_op (hk ▸ rd_add) (OpR_or (OpR_or op_add op_add_str) (OpR_or op_cat op_catA)) ha hb
theorem me_sub (ha : PE X a (tM k E ma)) (hb : PE X b (tM k E mb)) : PE X (.BinOp a .Sub b pos) (tM k E (bin subV ma mb)) := me_op rd_sub op_sub ha hb
theorem me_mul (ha : PE X a (tM k E ma)) (hb : PE X b (tM k E mb)) : PE X (.BinOp a .Mult b pos) (tM k E (bin mulV ma mb)) := me_op rd_mul (OpR_or op_mul op_rep) ha hb
theorem me_fdiv (ha : PE X a (tM k E ma)) (hb : PE X b (tM k E mb)) : PE X (.BinOp a .FloorDiv b pos) (tM k E (bin fdivV ma mb)) := me_op rd_fdiv op_fdiv ha hb
theorem me_mod (ha : PE X a (tM k E ma)) (hb : PE X b (tM k E mb)) : PE X (.BinOp a .Mod b pos) (tM k E (bin modV ma mb)) := me_op rd_mod op_mod ha hb
theorem me_pow (ha : PE X a (tM k E ma)) (hb : PE X b (tM k E mb)) : PE X (.BinOp a .Pow b pos) (tM k E (bin powV ma mb)) := me_op rd_pow op_pow ha hb
end
end Mi
namespace Mi
open PySem L2
/-! ### data, == at any depth -/
mutual
def toD0 : Val → Option PyData
  | .non => some .none
  | .bl b => some (.bool b)
  | .int i => some (.int i)
  | .str x => some (.str x)
  | .tup xs => (toD0s xs).map .tuple
  | .lst xs => (toD0s xs).map .list
  | .rol xs => (toD0s xs).map .list
  | .ins _ _ _ => none
  | .ref _ => none
  | .exv _ _ _ => none
  | .cls _ => none
  | .tpd _ => none
def toD0s : List Val → Option (List PyData)
  | [] => some []
  | x :: xs => match toD0 x, toD0s xs with
    | some d, some ds => some (d :: ds)
    | _, _ => none
end
def toD (st : Sto) : Val → Option PyData
  | .ref i => match st[i]? with
    | some (.lst xs) => (toD0s xs).map .list
    | _ => none
  | a => toD0 a
def eqD (st : Sto) (a b : Val) : Option Val := match toD st a, toD st b with
  | some d, some e => if SeqAt.shaped d = true ∧ SeqAt.shaped e = true then some (.bl (d.eqv e)) else none
  | _, _ => none
def neD (st : Sto) (a b : Val) : Option Val := match toD st a, toD st b with
  | some d, some e => if SeqAt.shaped d = true ∧ SeqAt.shaped e = true then some (.bl (!d.eqv e)) else none
  | _, _ => none
def eqV (st : Sto) (a b : Val) : Option Val := match strOf a, strOf b with
  | some x, some y => some (.bl (x == y))
  | _, _ => eqD st a b
def neV (st : Sto) (a b : Val) : Option Val := match strOf a, strOf b with
  | some x, some y => some (.bl (!(x == y)))
  | _, _ => neD st a b
section
variable {k : Kx} {W : Wd} {H : Hp} {st : Sto}
theorem SqL.ro {K : PySem.W.Frag} {p : Addr} {vs : List V} {H : Hp} (h : SqL K (fun _ => none) p vs) : SqL K H p vs := by
  rcases h with (s | ⟨u, s⟩) | s
  · cases s
  · cases s
  · exact .inr s
theorem RoL.sq {p : Addr} {vs : List V} (h : RoL k H p vs) : SqL k.K H p vs := by
  rcases h with ⟨u, s⟩ | s
  · exact .inl (.inr ⟨u, s⟩)
  · exact SqL.ro s
mutual
theorem toD0_rep : ∀ {a : Val} {x : V} {d : PyData}, RepV k W H a x → toD0 a = some d → Dp k.K H x d
  | .non, x, d, r, e => by
    have r' : x = .non := r
    cases e
    rw [r']
    exact .non
  | .bl b, x, d, r, e => by
    have r' : x = .bl b := r
    cases e
    rw [r']
    exact .bl b
  | .int i, x, d, r, e => by
    have r' : x = .int i := r
    cases e
    rw [r']
    exact .int i
  | .str z, x, d, r, e => by
    have r' : x = .str z := r
    cases e
    rw [r']
    exact .str z
  | .tup xs, x, d, r, e => by
    obtain ⟨p, vs, e1, s, r⟩ := r
    dsimp only [toD0] at e
    cases q : toD0s xs with
    | none =>
      rw [q] at e
      cases e
    | some ds =>
      rw [q] at e
      cases e
      rw [e1]
      exact .tup s (toD0s_rep r q)
  | .lst xs, x, d, r, e => by
    obtain ⟨p, vs, e1, f, s, r⟩ := r
    dsimp only [toD0] at e
    cases q : toD0s xs with
    | none =>
      rw [q] at e
      cases e
    | some ds =>
      rw [q] at e
      cases e
      rw [e1]
      exact .lst (.inl (.inl s)) (toD0s_rep r q)
  | .rol xs, x, d, r, e => by
    obtain ⟨p, vs, e1, s, r⟩ := r
    dsimp only [toD0] at e
    cases q : toD0s xs with
    | none =>
      rw [q] at e
      cases e
    | some ds =>
      rw [q] at e
      cases e
      rw [e1]
      exact .lst (RoL.sq s) (toD0s_rep r q)
  | .ins _ _ _, _, _, _, e => by cases e
  | .ref _, _, _, _, e => by cases e
  | .exv _ _ _, x, d, r, e => by cases e
  | .cls _, x, d, r, e => by cases e
  | .tpd _, x, d, r, e => by cases e
theorem toD0s_rep : ∀ {xs : List Val} {vs : List V} {ds : List PyData}, RepL k W H xs vs → toD0s xs = some ds → DpAll k.K H vs ds
  | [], vs, ds, r, e => by
    have r' : vs = [] := r
    cases e
    rw [r']
    exact .nil
  | x :: xs, vs, ds, r, e => by
    obtain ⟨v, u, rfl, r1, r2⟩ := r
    dsimp only [toD0s] at e
    cases q1 : toD0 x with
    | none =>
      rw [q1] at e
      cases e
    | some d =>
      cases q2 : toD0s xs with
      | none =>
        rw [q1, q2] at e
        cases e
      | some ds' =>
        rw [q1, q2] at e
        cases e
        exact .cons (toD0_rep r1 q1) (toD0s_rep r2 q2)
end
theorem toD_rep {a : Val} {x : V} {d : PyData} (o : Ok k W H st) (r : RepV k W H a x) (e : toD st a = some d) : Dp k.K H x d := by
  unfold toD at e
  split at e
  · rename_i i
    split at e
    · rename_i xs q
      obtain ⟨p, e1, s⟩ := r
      obtain ⟨vs, z, r⟩ := o.obj i _ p q s
      cases q2 : toD0s xs with
      | none =>
        rw [q2] at e
        cases e
      | some ds =>
        rw [q2] at e
        cases e
        rw [e1]
        exact .lst (.inl (.inl z)) (toD0s_rep r q2)
    · cases e
  · exact toD0_rep r e
def orR (r q : R2) : R2 := fun x y H Q => r x y H Q ∨ q x y H Q
theorem OpR.or {X : Cx} {f : Value → Value → Sem Value} {r q : R2} (h : OpR X f r) (g : OpR X f q) : OpR X f (orR r q) := by
  intro pins s σ H x y v u Q I rx ry z
  rcases z with z | z
  · exact h pins s σ H x y v u Q I rx ry z
  · exact g pins s σ H x y v u Q I rx ry z
theorem strOf_is {a : Val} {x : Str} (h : strOf a = some x) : a = .str x := by
  cases a <;> cases h
  rfl
theorem rd_eq : Rd2 k eqV (orR (rEqD k.K) rEq) := by
  intro W H st a b x y c Q o ra rb e q
  unfold eqV at e
  split at e
  · rename_i u w hu hw
    have e1 := strOf_is hu
    have e2 := strOf_is hw
    subst e1 e2
    have r1 : x = .str u := ra
    have r2 : y = .str w := rb
    subst r1 r2
    cases e
    exact .inr ⟨rfl, q W H _ (Le.refl W H) o (by rw [dec_str]; rfl)⟩
  unfold eqD at e
  split at e
  · rename_i d f hd hf
    split at e
    · rename_i hs
      cases e
      exact .inl ⟨d, f, toD_rep o ra hd, toD_rep o rb hf, hs.1, hs.2, q W H _ (Le.refl W H) o rfl⟩
    · cases e
  · cases e
theorem rd_ne : Rd2 k neV (orR (rNeD k.K) rNe) := by
  intro W H st a b x y c Q o ra rb e q
  unfold neV at e
  split at e
  · rename_i u w hu hw
    have e1 := strOf_is hu
    have e2 := strOf_is hw
    subst e1 e2
    have r1 : x = .str u := ra
    have r2 : y = .str w := rb
    subst r1 r2
    cases e
    exact .inr ⟨rfl, q W H _ (Le.refl W H) o (by rw [dec_str]; rfl)⟩
  unfold neD at e
  split at e
  · rename_i d f hd hf
    split at e
    · rename_i hs
      cases e
      exact .inl ⟨d, f, toD_rep o ra hd, toD_rep o rb hf, hs.1, hs.2, q W H _ (Le.refl W H) o rfl⟩
    · cases e
  · cases e
end
/-! ### is None; in -/
def isNon : Val → Bool
  | .non => true
  | _ => false
def isNV (_ : Sto) (a b : Val) : Option Val := if isNon b then some (.bl (isNon a)) else none
def notNV (_ : Sto) (a b : Val) : Option Val := if isNon b then some (.bl (!isNon a)) else none
def flat : Val → Option V
  | .non => some .non
  | .bl b => some (.bl b)
  | .int i => some (.int i)
  | .str x => some (.str x)
  | _ => none
def inStr (a b : Str) : Bool := match a.cps.toList with
  | [c] => decide (c ∈ b.cps.toList)
  | _ => !(Builtin.Str.occurrences b a 0 b.length 1).isEmpty
/-- x in ..: a text in a text; a flat thing in a list or a tuple of such -/
def inB (st : Sto) (a b : Val) : Option Bool := match a, b with
  | .str x, .str y => some (inStr x y)
  | a, b => match flat a, seqOf st b with
    | some x, some ys => match allOf flat ys with
      | some us => some (inV x us)
      | none => none
    | _, _ => none
def inVal (st : Sto) (a b : Val) : Option Val := (inB st a b).map .bl
/-! ### a[i], a[i:j] -/
def idxV (st : Sto) (a b : Val) : Option Val := match b with
  | .int i => match a with
    | .str z => if z.length ≤ LIM then (atI z.cps.toList i).map fun c => .str ⟨#[c]⟩ else none
    | a => match seqOf st a with
      | some xs => atI xs i
      | none => none
  | _ => none
theorem atI_rep {k : Kx} {W : Wd} {H : Hp} {xs : List Val} {vs : List V} {i : Int} {x : Val} (r : RepL k W H xs vs) (h : atI xs i = some x) : ∃ v, atI vs i = some v ∧ RepV k W H x v := by
  unfold atI at h ⊢
  rw [r.len]
  cases e : ixN xs.length i with
  | none =>
    rw [e] at h
    cases h
  | some j =>
    rw [e] at h
    exact r.get h
theorem rd_idx {k : Kx} : Rd2 k idxV (fun x y H Q => rIxL k.K x y H Q ∨ (rIxT k.K x y H Q ∨ rIxS x y H Q)) := by
  intro W H st a b x y c Q o ra rb e q
  unfold idxV at e
  split at e
  · rename_i i
    split at e
    · rename_i z
      split at e
      · rename_i hl
        cases h : atI z.cps.toList i with
        | none =>
          rw [h] at e
          cases e
        | some d =>
          rw [h] at e
          cases e
          exact .inr (.inr ⟨z, i, d, ra, rb, lim_le hl, h, q W H _ (Le.refl W H) o rfl⟩)
      · cases e
    · split at e
      · rename_i xs hxs
        obtain ⟨p, vs, e1, s, r⟩ := seqOf_rep o ra hxs
        obtain ⟨v, hv, rv⟩ := atI_rep r e
        rcases s with s | s
        · exact .inl ⟨p, vs, i, v, e1, rb, s, hv, q W H v (Le.refl W H) o rv⟩
        · exact .inr (.inl ⟨p, vs, i, v, e1, rb, s, hv, q W H v (Le.refl W H) o rv⟩)
      · cases e
  · cases e
def cutL {α : Type} (xs : List α) (lo hi : Option Int) : List α := (xs.drop (HT.sIx xs.length 0 lo)).take (HT.sIx xs.length xs.length hi - HT.sIx xs.length 0 lo)
theorem cutL_rep {k : Kx} {W : Wd} {H : Hp} {xs : List Val} {vs : List V} (r : RepL k W H xs vs) (lo hi : Option Int) : RepL k W H (cutL xs lo hi) (cutV vs lo hi) := by
  unfold cutL cutV
  rw [r.len]
  exact (r.drop _).take _
def cutVal (st : Sto) (a : Val) (lo hi : Option Int) : Option Val := match a with
  | .str z => if z.length ≤ LIM then some (.str (cutS z lo hi)) else none
  | .tup xs => some (.tup (cutL xs lo hi))
  | a => match lstOf st a with
    | some xs => some (.lst (cutL xs lo hi))
    | none => none
def part (m : M Val) : M (Option Int) := bnd m fun a => lift fun _ => (intOf a).map some
def nopart : M (Option Int) := ret none
def RO : Wd → Hp → Option Int → Option Int → Prop := fun _ _ a b => b = a
def tMo (k : Kx) (E : WX) (m : M (Option Int)) : TO := fun σ H Q => tG k RO E m σ H Q
def sliceM (ma : M Val) (ml mh : M (Option Int)) : M Val := bnd ma fun a => bnd ml fun lo => bnd mh fun hi => lift fun st => cutVal st a lo hi
section
variable {X : Cx} {k : Kx} {E : WX}
theorem mo_some {e : Expr} {m : M Val} (h : PE X e (tM k E m)) : PO X (some e) (tMo k E (part m)) := by
  refine ⟨fun pins s σ H Q I h' => (po_some h).run pins s σ H Q I ?_⟩
  show tM k E m σ H _
  refine tG.mono (tG.bnd (R1 := RepV k) h') fun x H1 ⟨W, a, ra, h1⟩ => ?_
  obtain ⟨c, st, e, o, q⟩ := h1.lift
  cases a with
  | int i =>
    cases e
    exact ⟨i, ra, q W H1 _ (Le.refl W H1) o rfl⟩
  | _ => cases e
theorem me_slice {e : Expr} {lo hi : Option Expr} {p2 pos : Pos} {ma : M Val} {ml mh : M (Option Int)} (he : PE X e (tM k E ma)) (hl : PO X lo (tMo k E ml)) (hh : PO X hi (tMo k E mh)) (hk : X.K = k.K := by rfl) :
    PE X (.Subscript e (.Slice lo hi none p2) pos) (tM k E (sliceM ma ml mh)) := by
  refine imp (pe_slice (SlR_or sl_list (SlR_or sl_tupA sl_str)) he hl hh) fun σ H Q h => ?_
  rw [hk]
  refine tG.mono (tG.bnd (R1 := RepV k) h) fun x H1 ⟨W, a, ra, h1⟩ => ?_
  refine tG.mono (At.bnd (R1 := RO) (fun W H => RepV k W H a x) (fun l r => r.le l) ra h1) fun lo H2 ⟨W2, lo', ra2, el, h2⟩ => ?_
  cases el
  refine tG.mono (At.bnd (R1 := RO) (fun W H => RepV k W H a x) (fun l r => r.le l) ra2 h2) fun hi H3 ⟨W3, hi', ra3, eh, h3⟩ => ?_
  cases eh
  obtain ⟨c, st, e, o, q⟩ := h3.lift
  have lists : ∀ xs, lstOf st a = some xs → c = .lst (cutL xs lo hi) → rSlL k.K x lo hi H3 Q := fun xs hxs hc => by
    subst hc
    obtain ⟨p, vs, e1, s, r⟩ := lstOf_rep o ra3 hxs
    exact ⟨p, vs, e1, s, fun p hp => newLst o hp (cutL_rep r _ _) q⟩
  cases a with
  | str z =>
    dsimp only [cutVal] at e
    split at e
    · rename_i hl
      cases e
      exact .inr (.inr ⟨z, ra3, lim_le hl, q W3 H3 _ (Le.refl _ _) o rfl⟩)
    · cases e
  | tup xs =>
    cases e
    obtain ⟨p, vs, e1, s, r⟩ := ra3
    refine .inr (.inl ⟨p, vs, e1, s, fun z => ?_, fun _ p hp => newTup o hp (cutL_rep r _ _) q⟩)
    have e2 : cutL xs lo hi = xs := by
      unfold cutL
      rw [r.len] at z
      rw [z.1, z.2]
      simp
    rw [e2] at q
    exact q W3 H3 _ (Le.refl _ _) o ⟨p, vs, rfl, s, r⟩
  | lst xs =>
    cases e
    exact .inl (lists xs rfl rfl)
  | rol xs =>
    cases e
    exact .inl (lists xs rfl rfl)
  | ref i =>
    dsimp only [cutVal] at e
    cases h : lstOf st (.ref i) with
    | none =>
      rw [h] at e
      cases e
    | some xs =>
      rw [h] at e
      cases e
      exact .inl (lists xs h rfl)
  | _ => cases e
theorem me_idx {a b : Expr} {ma mb : M Val} {pos : Pos} (ha : PE X a (tM k E ma)) (hb : PE X b (tM k E mb)) (hs : PlainIx b) (hk : X.K = k.K := by rfl) : PE X (.Subscript a b pos) (tM k E (bin idxV ma mb)) :=
  imp (pe_ix (ix_list.or (ix_tup.or ix_str)) ha hb hs) fun σ H Q h => by
    rw [hk]
    exact bin_read rd_idx h
theorem me_neg {a : Expr} {m : M Val} {pos : Pos} (ha : PE X a (tM k E m)) : PE X (.UnaryOp .USub a pos) (tM k E (un (fun _ a => (intOf a).map fun i => .int (-i)) m)) := by
  refine imp (pe_un un_neg ha) fun σ H Q h => ?_
  refine tG.mono (tG.bnd (R1 := RepV k) h) fun x H1 ⟨W, a, ra, h1⟩ => ?_
  obtain ⟨c, st, e, o, q⟩ := h1.lift
  cases a with
  | int i =>
    cases e
    exact ⟨i, ra, q W H1 _ (Le.refl W H1) o rfl⟩
  | _ => cases e
end
end Mi
namespace Mi
open PySem L2
/-! ### comparisons, bundled -/
def CmpU (X : Cx) (k : Kx) (op : CmpOp) (f : Sto → Val → Val → Option Val) : Prop := ∃ r, Rd2 k f r ∧ OpR X (compareOp op) r
section
variable {X : Cx} {k : Kx} {E : WX}
theorem cu_lt : CmpU X k .Lt (cmpV fun i j => decide (i < j)) := ⟨_, rd_cmp _, op_lt⟩
theorem cu_ge : CmpU X k .GtE (cmpV fun i j => decide (j ≤ i)) := ⟨_, rd_cmp _, op_ge⟩
theorem cu_eq {n : Nat} (hr : Room n X.A) (hk : X.K = k.K := by rfl) : CmpU X k .Eq eqV := ⟨_, hk ▸ rd_eq, OpR.or (op_eqD hr.units) op_eq⟩
theorem cu_ne {n : Nat} (hr : Room n X.A) (hk : X.K = k.K := by rfl) : CmpU X k .NotEq neV := ⟨_, hk ▸ rd_ne, OpR.or (op_neD hr.units) op_ne⟩
variable {a b c : Expr} {op op' : CmpOp} {pos : Pos} {f g : Sto → Val → Val → Option Val} {ma mb mc : M Val}
theorem me_cu (h : CmpU X k op f) (ha : PE X a (tM k E ma)) (hb : PE X b (tM k E mb)) (hm : behindInMarks op b = false := by first | exact nomark _ | rfl) : PE X (.Compare a [op] [b] pos) (tM k E (bin f ma mb)) := by
  obtain ⟨r, h1, h2⟩ := h
  exact me_cmp h1 h2 hm ha hb
theorem mt_cu (h : CmpU X k op f) (ha : PE X a (tM k E ma)) (hb : PE X b (tM k E mb)) (hm : behindInMarks op b = false := by first | exact nomark _ | rfl) : PT X (.Compare a [op] [b] pos) (tMb k E (asB (bin f ma mb))) := by
  obtain ⟨r, h1, h2⟩ := h
  exact mt_cmp h1 h2 hm ha hb
/-! ### argument lists, displays -/
def consM (m : M Val) (ms : M (List Val)) : M (List Val) := bnd m fun a => bnd ms fun as => ret (a :: as)
def nilM : M (List Val) := ret []
theorem ma_nil : PA X [] (tMa k E nilM) := impA pa_nil fun σ H Q ⟨W, h⟩ => h.ret rfl
theorem ma_cons {e : Expr} {es : List Expr} {m : M Val} {ms : M (List Val)} (h : PE X e (tM k E m)) (t : PA X es (tMa k E ms)) (hs : starEach (e :: es) X.env = (false, eval e X.env) :: starEach es X.env := by rfl) : PA X (e :: es) (tMa k E (consM m ms)) :=
  impA (pa_cons h t hs) fun σ H Q h => tG.mono (tG.bnd (R1 := RepV k) h) fun x H1 ⟨W, a, ra, h1⟩ =>
    tG.mono (At.bnd (R1 := RepL k) (fun W H => RepV k W H a x) (fun l r => r.le l) ra h1) fun xs H2 ⟨W2, as, ra2, rs, h2⟩ => h2.ret (RepL.cons ra2 rs)
def liftS {α : Type} (f : Sto → Option (α × Sto)) : M α := fun _ st => (f st).map fun p => (.ok p.1, p.2)
theorem At.liftS {α β : Type} {R : Wd → Hp → α → β → Prop} {W : Wd} {σ : L2.St} {H : Hp} {f : Sto → Option (α × Sto)} {Q : β → Hp → Prop} (h : At k R E (liftS f) W σ H Q) :
    ∃ c st st', f st = some (c, st') ∧ Ok k W H st ∧ ∀ W' H' v, Le W W' H H' → Ok k W' H' st' → R W' H' c v → Q v H' := by
  obtain ⟨env, st, r, h1, h2, h3, h4⟩ := h
  unfold Mi.liftS at h3
  cases e : f st with
  | none =>
    rw [e] at h3
    cases h3
  | some p =>
    rw [e] at h3
    cases h3
    exact ⟨p.1, st, p.2, e, h1, h4⟩
theorem newLstM {W : Wd} {H : Hp} {st : Sto} {xs : List Val} {Q : VK} {p : Addr} {vs : List V} (o : Ok k W H st) (hp : H p = none) (r : RepL k W H xs vs) (q : ∀ W' H' v, Le W W' H H' → Ok k W' H' (st ++ [.lst xs]) → RepV k W' H' (.ref st.length) v → Q v H') : Q (.ref p) (upd H p (.lst vs)) := by
  have l0 : Le W (W.ob p) H (upd H p (.lst vs)) := (o.newOb (u := .lst []) (o := .lst []) hp ⟨[], upd_same, rfl⟩).1 |> fun _ => ⟨⟨[p], rfl⟩, fun _ h => h, (Le.new (W := W) hp).imm, (Le.new (W := W) hp).keep, (Le.new (W := W) hp).rest, fun q m => by
    rcases List.mem_append.mp (show q ∈ W.rho ++ [p] from m) with m | m
    · exact .inl m
    · exact .inr (by rw [List.mem_singleton.mp m]; exact hp), fun _ h => .inl h, fun _ h => upd_dom h⟩
  obtain ⟨l, o'⟩ := o.newOb (u := .lst xs) (o := .lst vs) hp ⟨vs, upd_same, r.le l0⟩
  refine q (W.ob p) _ _ l o' ⟨p, rfl, ?_⟩
  show (W.rho ++ [p])[st.length]? = some p
  rw [List.getElem?_append_right (by rw [o.len]; exact Nat.le_refl _), o.len, Nat.sub_self]
  rfl
def mkTup (ms : M (List Val)) : M Val := bnd ms fun xs => lift fun _ => if xs.length ≤ LIM then some (.tup xs) else none
def mkLst (ms : M (List Val)) : M Val := bnd ms fun xs => lift fun _ => if xs.length ≤ LIM then some (.lst xs) else none
/-- a list that will be changed -/
def mkLstM (ms : M (List Val)) : M Val := bnd ms fun xs => liftS fun st => if xs.length ≤ LIM then some (.ref st.length, st ++ [.lst xs]) else none
theorem me_tup {es : List Expr} {x1 : Nat} {ms : M (List Val)} (h : PA X es (tMa k E ms)) : PE X (.Tuple es x1 pos) (tM k E (mkTup ms)) :=
  imp (pe_tup h) fun σ H Q h => tG.mono (tG.bnd (R1 := RepL k) h) fun xs H1 ⟨W, as, ra, h1⟩ => by
    obtain ⟨c, st, e, o, q⟩ := h1.lift
    split at e
    · rename_i hl
      cases e
      exact ⟨by rw [ra.len]; exact lim_le hl, fun p hp => newTup o hp ra q⟩
    · cases e
theorem me_lst {es : List Expr} {ms : M (List Val)} (h : PA X es (tMa k E ms)) : PE X (.List es pos) (tM k E (mkLst ms)) :=
  imp (pe_lst h) fun σ H Q h => tG.mono (tG.bnd (R1 := RepL k) h) fun xs H1 ⟨W, as, ra, h1⟩ => by
    obtain ⟨c, st, e, o, q⟩ := h1.lift
    split at e
    · rename_i hl
      cases e
      exact ⟨by rw [ra.len]; exact lim_le hl, fun p hp => newLst o hp ra q⟩
    · cases e
theorem me_lstM {es : List Expr} {ms : M (List Val)} (h : PA X es (tMa k E ms)) : PE X (.List es pos) (tM k E (mkLstM ms)) :=
  imp (pe_lst h) fun σ H Q h => tG.mono (tG.bnd (R1 := RepL k) h) fun xs H1 ⟨W, as, ra, h1⟩ => by
    obtain ⟨c, st, st', e, o, q⟩ := h1.liftS
    split at e
    · rename_i hl
      cases e
      exact ⟨by rw [ra.len]; exact lim_le hl, fun p hp => newLstM o hp ra q⟩
    · cases e
/-! ### built-ins by values -/
def RdN (k : Kx) (f : Sto → List Val → Option Val) (r : List V → Hp → VK → Prop) : Prop := ∀ W H st as xs c Q, Ok k W H st → RepL k W H as xs → f st as = some c → (∀ W' H' v, Le W W' H H' → Ok k W' H' st → RepV k W' H' c v → Q v H') → r xs H Q
def app (f : Sto → List Val → Option Val) (ms : M (List Val)) : M Val := bnd ms fun as => lift fun st => f st as
def appS (f : Sto → List Val → Option (Val × Sto)) (ms : M (List Val)) : M Val := bnd ms fun as => liftS fun st => f st as
def CallU (X : Cx) (k : Kx) (v : Value) (f : Sto → List Val → Option Val) : Prop := ∃ r, RdN k f r ∧ CallR X v r
theorem app_read {f : Sto → List Val → Option Val} {r : List V → Hp → VK → Prop} (h : RdN k f r) {ms : M (List Val)} {σ : L2.St} {H : Hp} {Q : VK} (h1 : tM k E (app f ms) σ H Q) : tCB r (tMa k E ms) σ H Q :=
  tG.mono (tG.bnd (R1 := RepL k) h1) fun xs H1 ⟨W, as, ra, h1⟩ => by
    obtain ⟨c, st, e, o, q⟩ := h1.lift
    exact h W H1 st as xs c Q o ra e q
variable {x : Str} {p : Pos} {e : Expr} {es : List Expr} {ms : M (List Val)} {id T : String}
theorem me_cb {fv : Sto → List Val → Option Val} (h : CallU X k (.builtin id) fv) (hg : Gl X x) (hm : X.mg x = none) (hv : bootBuiltins x = some (.builtin id)) (ha : PA X (e :: es) (tMa k E ms)) (hn : x ≠ "__name__" := by decide) (hdb : (x == ("__debug__" : Str)) = false := by decide)
    (he : starEach (e :: es) X.env = (false, eval e X.env) :: starEach es X.env := by rfl) (hpl : (backTo pos (starEach es X.env)).any (·.1) = false := by rfl) : PE X (.Call (.Name x p) (e :: es) [] pos) (tM k E (app fv ms)) := by
  obtain ⟨r, h1, h2⟩ := h
  exact imp (pe_callB h2 hg hm hv ha hn hdb he hpl) fun σ H Q q => app_read h1 q
theorem me_ct {fv : Sto → List Val → Option Val} (h : CallU X k (.type T) fv) (hg : Gl X x) (hm : X.mg x = none) (hv : bootBuiltins x = some (.type T)) (ha : PA X (e :: es) (tMa k E ms)) (hn : x ≠ "__name__" := by decide) (hdb : (x == ("__debug__" : Str)) = false := by decide)
    (he : starEach (e :: es) X.env = (false, eval e X.env) :: starEach es X.env := by rfl) (hpl : (backTo pos (starEach es X.env)).any (·.1) = false := by rfl) : PE X (.Call (.Name x p) (e :: es) [] pos) (tM k E (app fv ms)) := by
  obtain ⟨r, h1, h2⟩ := h
  exact imp (pe_callTy h2 hg hm hv ha hn hdb he hpl) fun σ H Q q => app_read h1 q
end
def one : List Val → Option Val
  | [a] => some a
  | _ => none
def lenV (st : Sto) : List Val → Option Val
  | [.str z] => if z.length ≤ LIM then some (.int z.length) else none
  | [a] => (seqOf st a).map fun xs => .int xs.length
  | _ => none
def absV' (_ : Sto) : List Val → Option Val
  | [.int i] => some (.int (if i < 0 then -i else i))
  | _ => none
def intV (_ : Sto) : List Val → Option Val
  | [.int i] => some (.int i)
  | [.bl b] => some (.int (if b then 1 else 0))
  | [.str z] => if z.length ≤ 640 then (PySem.intText? z).map .int else none
  | _ => none
def max2V (_ : Sto) : List Val → Option Val
  | [.int i, .int j] => some (.int (if j > i then j else i))
  | _ => none
def min2V (_ : Sto) : List Val → Option Val
  | [.int i, .int j] => some (.int (if j < i then j else i))
  | _ => none
def maxL : List Int → Option Int
  | [] => none
  | [x] => some x
  | x :: xs => (maxL xs).map fun m => if x < m then m else x
def allV (st : Sto) : List Val → Option Val
  | [a] => match lstOf st a with
    | some xs => (allOf asBool xs).map fun bs => .bl (bs.all id)
    | none => none
  | _ => none
def tupleV (st : Sto) : List Val → Option Val
  | [a] => (seqOf st a).map .tup
  | _ => none
section
variable {X : Cx} {k : Kx}
theorem rep1 {W : Wd} {H : Hp} {a : Val} {xs : List V} (r : RepL k W H [a] xs) : ∃ v, xs = [v] ∧ RepV k W H a v := by
  obtain ⟨v, u, rfl, r1, r2⟩ := r
  have e : u = [] := r2
  rw [e]
  exact ⟨v, rfl, r1⟩
theorem rep2 {W : Wd} {H : Hp} {a b : Val} {xs : List V} (r : RepL k W H [a, b] xs) : ∃ v u, xs = [v, u] ∧ RepV k W H a v ∧ RepV k W H b u := by
  obtain ⟨v, u, rfl, r1, r2⟩ := r
  obtain ⟨u, rfl, r3⟩ := rep1 r2
  exact ⟨v, u, rfl, r1, r3⟩
theorem cu_len (hk : X.K = k.K := by rfl) : CallU X k (.builtin "len") lenV := by
  refine ⟨_, ?_, CallR_or call_len_seq call_len_str⟩
  intro W H st as xs c Q o r e q
  unfold lenV at e
  split at e
  · rename_i z
    obtain ⟨v, rfl, r1⟩ := rep1 r
    split at e
    · rename_i hl
      cases e
      exact .inr ⟨z, by rw [show v = .str z from r1], lim_le hl, q W H _ (Le.refl _ _) o rfl⟩
    · cases e
  · rename_i a hne
    obtain ⟨v, rfl, r1⟩ := rep1 r
    cases h : seqOf st a with
    | none =>
      rw [h] at e
      cases e
    | some ys =>
      rw [h] at e
      cases e
      obtain ⟨p, vs, rfl, s, r2⟩ := seqOf_rep o r1 h
      rw [hk]
      exact .inl ⟨p, vs, rfl, s, q W H _ (Le.refl _ _) o (by show _ = _; rw [r2.len])⟩
  · cases e
theorem cu_abs : CallU X k (.builtin "abs") absV' := by
  refine ⟨_, ?_, call_abs⟩
  intro W H st as xs c Q o r e q
  unfold absV' at e
  split at e
  · rename_i i
    obtain ⟨v, rfl, r1⟩ := rep1 r
    cases e
    exact ⟨i, by rw [show v = .int i from r1], q W H _ (Le.refl _ _) o rfl⟩
  · cases e
theorem cu_int : CallU X k (.type "int") intV := by
  refine ⟨_, ?_, CallR_or call_int1 call_int_str⟩
  intro W H st as xs c Q o r e q
  unfold intV at e
  split at e
  · rename_i i
    obtain ⟨v, rfl, r1⟩ := rep1 r
    cases e
    exact .inl (.inl ⟨i, by rw [show v = .int i from r1], q W H _ (Le.refl _ _) o rfl⟩)
  · rename_i i
    obtain ⟨v, rfl, r1⟩ := rep1 r
    cases e
    exact .inl (.inr ⟨i, by rw [show v = .bl i from r1], q W H _ (Le.refl _ _) o rfl⟩)
  · rename_i z
    obtain ⟨v, rfl, r1⟩ := rep1 r
    split at e
    · rename_i hl
      cases h : PySem.intText? z with
      | none =>
        rw [h] at e
        cases e
      | some n =>
        rw [h] at e
        cases e
        exact .inr ⟨z, n, by rw [show v = .str z from r1], h, hl, q W H _ (Le.refl _ _) o rfl⟩
    · cases e
  · cases e
theorem cu_max2 (hc : X.calm = true) : CallU X k (.builtin "max") max2V := by
  refine ⟨_, ?_, call_max2 hc⟩
  intro W H st as xs c Q o r e q
  unfold max2V at e
  split at e
  · rename_i i j
    obtain ⟨v, u, rfl, r1, r2⟩ := rep2 r
    cases e
    exact ⟨i, j, by rw [show v = .int i from r1, show u = .int j from r2], q W H _ (Le.refl _ _) o rfl⟩
  · cases e
theorem cu_min2 (hc : X.calm = true) : CallU X k (.builtin "min") min2V := by
  refine ⟨_, ?_, call_min2 hc⟩
  intro W H st as xs c Q o r e q
  unfold min2V at e
  split at e
  · rename_i i j
    obtain ⟨v, u, rfl, r1, r2⟩ := rep2 r
    cases e
    exact ⟨i, j, by rw [show v = .int i from r1, show u = .int j from r2], q W H _ (Le.refl _ _) o rfl⟩
  · cases e
theorem cu_tuple (hk : X.K = k.K := by rfl) : CallU X k (.type "tuple") tupleV := by
  refine ⟨_, ?_, call_tuple_of⟩
  intro W H st as xs c Q o r e q
  unfold tupleV at e
  split at e
  · rename_i a
    obtain ⟨v, rfl, r1⟩ := rep1 r
    cases h : seqOf st a with
    | none =>
      rw [h] at e
      cases e
    | some ys =>
      rw [h] at e
      cases e
      obtain ⟨p, vs, rfl, s, r2⟩ := seqOf_rep o r1 h
      rw [hk]
      refine ⟨p, vs, rfl, ?_⟩
      rcases s with s | s
      · exact .inl ⟨s, fun l hl => newTup o hl r2 q⟩
      · exact .inr ⟨s, q W H _ (Le.refl _ _) o ⟨p, vs, rfl, s, r2⟩⟩
  · cases e
end
end Mi
namespace Mi
open PySem L2
/-! ### statements -/
inductive Out where
  | next | brk | cont | ret (v : Val) | err (x : Exc)
abbrev S := Env → Sto → Option (Out × Env × Sto)
def FinS (k : Kx) (E : WX) (W : Wd) (H : Hp) (D : Ends) : Out × Env × Sto → Prop
  | (.next, env, st) => ∀ W' H' σ, Le W W' H H' → Ok k W' H' st → RepE k W' H' env σ → D.nx σ H'
  | (.brk, env, st) => ∀ W' H' σ, Le W W' H H' → Ok k W' H' st → RepE k W' H' env σ → D.bk σ H'
  | (.cont, env, st) => ∀ W' H' σ, Le W W' H H' → Ok k W' H' st → RepE k W' H' env σ → D.ct σ H'
  | (.ret v, _, st) => ∀ W' H' u, Le W W' H H' → Ok k W' H' st → RepV k W' H' v u → D.rt u H'
  | (.err x, env, st) => ∀ W' H' σ c d, Le W W' H H' → Ok k W' H' st → RepE k W' H' env σ → RepX k W' H' x c d → E c d σ H'
def AtS (k : Kx) (E : WX) (s : S) (W : Wd) (D : Ends) (σ : L2.St) (H : Hp) : Prop := ∃ env st o, Ok k W H st ∧ RepE k W H env σ ∧ s env st = some o ∧ FinS k E W H D o
def tS (k : Kx) (E : WX) (s : S) : TS := fun D σ H => ∃ W, AtS k E s W D σ H
theorem FinS.le {k : Kx} {E : WX} {W W1 : Wd} {H H1 : Hp} {D : Ends} {o : Out × Env × Sto} (l : Le W W1 H H1) (h : FinS k E W H D o) : FinS k E W1 H1 D o := by
  obtain ⟨r, env, st⟩ := o
  cases r with
  | next => exact fun W' H' σ l' => h W' H' σ (l.trans l')
  | brk => exact fun W' H' σ l' => h W' H' σ (l.trans l')
  | cont => exact fun W' H' σ l' => h W' H' σ (l.trans l')
  | ret v => exact fun W' H' u l' => h W' H' u (l.trans l')
  | err x => exact fun W' H' σ c d l' => h W' H' σ c d (l.trans l')
def sNext : S := fun env st => some (.next, env, st)
def sSeq (a b : S) : S := fun env st => match a env st with
  | some (.next, env1, st1) => b env1 st1
  | o => o
/-- run m, then go on with its value -/
def sBnd {α : Type} (m : M α) (f : α → S) : S := fun env st => match m env st with
  | some (.ok a, st1) => f a env st1
  | some (.error x, st1) => some (.err x, env, st1)
  | none => none
def sExpr (m : M Val) : S := sBnd m fun _ => sNext
def sRet (m : M Val) : S := sBnd m fun v env st => some (.ret v, env, st)
def sIf (c : M Bool) (a b : S) : S := sBnd c fun t => if t then a else b
def sSet (i : Nat) (m : M Val) : S := sBnd m fun v env st => some (.next, env.set i (some v), st)
section
variable {X : Cx} {k : Kx} {E : WX}
theorem AtS.tS {s : S} {W : Wd} {D : Ends} {σ : L2.St} {H : Hp} (h : AtS k E s W D σ H) : tS k E s D σ H := ⟨W, h⟩
theorem tS.bnd {α β : Type} {R : Wd → Hp → α → β → Prop} {m : M α} {f : α → S} {D : Ends} {σ : L2.St} {H : Hp} (h : tS k E (sBnd m f) D σ H) : tG k R E m σ H fun x H1 => ∃ W a, R W H1 a x ∧ AtS k E (f a) W D σ H1 := by
  obtain ⟨W, env, st, o, h1, h2, h3, h4⟩ := h
  unfold sBnd at h3
  cases e : m env st with
  | none =>
    rw [e] at h3
    cases h3
  | some p =>
    rw [e] at h3
    obtain ⟨r, st1⟩ := p
    cases r with
    | ok a => exact ⟨W, env, st, _, h1, h2, e, fun W' H' v l o' r' => ⟨W', a, r', env, st1, o, o', h2.le l, h3, h4.le l⟩⟩
    | error x =>
      cases h3
      exact ⟨W, env, st, _, h1, h2, e, fun W' H' c d l o r => h4 W' H' σ c d l o (h2.le l) r⟩
theorem AtS.next {W : Wd} {D : Ends} {σ : L2.St} {H : Hp} (h : AtS k E sNext W D σ H) : D.nx σ H := by
  obtain ⟨env, st, o, h1, h2, h3, h4⟩ := h
  cases h3
  exact h4 W H σ (Le.refl W H) h1 h2
theorem ms_nil : PSs X [] (tS k E sNext) := impSs pss_nil fun D σ H ⟨W, h⟩ => h.next
theorem seq_read {a b : S} {D : Ends} {σ : L2.St} {H : Hp} (h : tS k E (sSeq a b) D σ H) : tSeq (tS k E a) (tS k E b) D σ H := by
  obtain ⟨W, env, st, o, h1, h2, h3, h4⟩ := h
  unfold sSeq at h3
  cases e : a env st with
  | none =>
    rw [e] at h3
    cases h3
  | some p =>
    obtain ⟨r, env1, st1⟩ := p
    rw [e] at h3
    cases r with
    | next => exact ⟨W, env, st, _, h1, h2, e, fun W' H' σ' l o' r' => ⟨W', env1, st1, o, o', r', h3, h4.le l⟩⟩
    | brk =>
      cases h3
      exact ⟨W, env, st, _, h1, h2, e, h4⟩
    | cont =>
      cases h3
      exact ⟨W, env, st, _, h1, h2, e, h4⟩
    | ret v =>
      cases h3
      exact ⟨W, env, st, _, h1, h2, e, h4⟩
    | err x =>
      cases h3
      exact ⟨W, env, st, _, h1, h2, e, h4⟩
theorem ms_cons {st : Stmt} {rest : List Stmt} {a b : S} (h1 : PS X st (tS k E a)) (h2 : PSs X rest (tS k E b)) : PSs X (st :: rest) (tS k E (sSeq a b)) := impSs (pss_cons h1 h2) fun _ _ _ h => seq_read h
theorem ms_one {st : Stmt} {a : S} (h1 : PS X st (tS k E a)) : PSs X [st] (tS k E a) := pss_one h1
theorem ms_expr {e : Expr} {m : M Val} {pos : Pos} (h : PE X e (tM k E m)) (hs : swapsWith e none pos.line X.env = pure false := by rfl) : PS X (.Expr e pos) (tS k E (sExpr m)) :=
  impS (ps_expr h hs) fun D σ H h => tG.mono (tS.bnd (R := RepV k) h) fun x H1 ⟨W, a, ra, h1⟩ => h1.next
theorem ms_ret {e : Expr} {m : M Val} {pos : Pos} (h : PE X e (tM k E m)) : PS X (.Return (some e) pos) (tS k E (sRet m)) :=
  impS (ps_ret h) fun D σ H h => tG.mono (tS.bnd (R := RepV k) h) fun x H1 ⟨W, a, ra, env, st, o, h1, h2, h3, h4⟩ => by
    cases h3
    exact h4 W H1 x (Le.refl _ _) h1 ra
theorem ms_if {c : Expr} {a b : List Stmt} {m : M Bool} {s t : S} {pos : Pos} (hc : PT X c (tMb k E m)) (ha : PSs X a (tS k E s)) (hb : PSs X b (tS k E t)) : PS X (.If c a b pos) (tS k E (sIf m s t)) :=
  impS (ps_if hc ha hb) fun D σ H h => tG.mono (tS.bnd (R := RB) h) fun x H1 ⟨W, a, ra, h1⟩ => by
    cases ra
    cases x with
    | true => exact h1.tS
    | false => exact h1.tS
theorem set_read {i : Nat} {m : M Val} {D : Ends} {σ : L2.St} {H : Hp} (h : tS k E (sSet i m) D σ H) : tAsg (tM k E m) (gName i) D σ H :=
  tG.mono (tS.bnd (R := RepV k) h) fun x H1 ⟨W, a, ra, env, st, o, h1, h2, h3, h4⟩ => by
    cases h3
    exact h4 W H1 _ (Le.refl _ _) h1 (h2.set ra i)
theorem ms_set {i : Nat} {x : Str} {e : Expr} {m : M Val} {pos pos' : Pos} (hN : X.N.Nodup) (hi : X.N[i]? = some x) (hx : Loc X.env.scope x) (he : PE X e (tM k E m)) (hs : swapsWith e (some (.Name x pos')) pos.line X.env = pure false := by rfl)
    (hf : X.fn x = true ∨ X.env.scope.names.lookup x = some .local := by first | exact .inl rfl | exact .inr rfl | assumption) : PS X (.Assign [.Name x pos'] e pos) (tS k E (sSet i m)) := impS (ps_set hN hi hx he hs hf) fun _ _ _ h => set_read h
/-! ### targets -/
inductive Tg where
  | name (i : Nat) | tup (ts : List Tg)
mutual
def bindT : Tg → Val → Env → Option Env
  | .name i, v, env => some (env.set i (some v))
  | .tup ts, v, env => match v with
    | .tup xs => if xs.length = ts.length then bindTs ts xs env else none
    | _ => none
def bindTs : List Tg → List Val → Env → Option Env
  | [], _, env => some env
  | t :: ts, xs, env => match xs with
    | x :: xs => match bindT t x env with
      | some env1 => bindTs ts xs env1
      | none => none
    | [] => none
end
mutual
def gT (K : PySem.W.Frag) : Tg → TG
  | .name i => gName i
  | .tup ts => gTup K ts.length (gTs K ts)
def gTs (K : PySem.W.Frag) : List Tg → TGs
  | [] => gNil
  | t :: ts => gCons (gT K t) (gTs K ts)
end
mutual
def slots : Tg → List Nat
  | .name i => [i]
  | .tup ts => slotss ts
def slotss : List Tg → List Nat
  | [] => []
  | t :: ts => slots t ++ slotss ts
end
/-- σ and σ' differ at most at the slots vs -/
def OnlyAt (vs : List Nat) (σ σ' : L2.St) : Prop := σ'.length = σ.length ∧ ∀ j, j ∉ vs → σ'[j]? = σ[j]?
theorem OnlyAt.refl {vs : List Nat} {σ : L2.St} : OnlyAt vs σ σ := ⟨rfl, fun _ _ => rfl⟩
theorem OnlyAt.trans {vs us : List Nat} {σ σ1 σ2 : L2.St} (a : OnlyAt vs σ σ1) (b : OnlyAt us σ1 σ2) : OnlyAt (vs ++ us) σ σ2 := ⟨b.1.trans a.1, fun j hj => (b.2 j fun z => hj (List.mem_append_right _ z)).trans (a.2 j fun z => hj (List.mem_append_left _ z))⟩
mutual
theorem gT_of : ∀ {t : Tg} {a : Val} {x : V} {W : Wd} {H : Hp} {env env' : Env} {σ : L2.St} {Q : L2.St → Hp → Prop}, RepV k W H a x → RepE k W H env σ → bindT t a env = some env' → (∀ σ', RepE k W H env' σ' → OnlyAt (slots t) σ σ' → Q σ' H) → gT k.K t x σ H Q
  | .name i, a, x, W, H, env, env', σ, Q, ra, re, e, q => by
    cases e
    exact q _ (re.set ra i) ⟨by simp, fun j hj => List.getElem?_set_ne (fun z => hj (by rw [z]; exact List.mem_singleton.mpr rfl))⟩
  | .tup ts, a, x, W, H, env, env', σ, Q, ra, re, e, q => by
    cases a with
    | tup xs =>
      dsimp only [bindT] at e
      split at e
      · rename_i hl
        obtain ⟨p, vs, e1, s, r⟩ := ra
        exact ⟨p, vs, e1, s, by rw [r.len]; exact hl, gTs_of r hl re e q⟩
      · cases e
    | _ => cases e
theorem gTs_of : ∀ {ts : List Tg} {xs : List Val} {vs : List V} {W : Wd} {H : Hp} {env env' : Env} {σ : L2.St} {Q : L2.St → Hp → Prop}, RepL k W H xs vs → xs.length = ts.length → RepE k W H env σ → bindTs ts xs env = some env' → (∀ σ', RepE k W H env' σ' → OnlyAt (slotss ts) σ σ' → Q σ' H) → gTs k.K ts vs σ H Q
  | [], xs, vs, W, H, env, env', σ, Q, ra, hl, re, e, q => by
    cases e
    have hx : xs = [] := List.length_eq_zero_iff.mp hl
    subst hx
    exact ⟨ra, q σ re OnlyAt.refl⟩
  | t :: ts, xs, vs, W, H, env, env', σ, Q, ra, hl, re, e, q => by
    cases xs with
    | nil => cases hl
    | cons y ys =>
      obtain ⟨v, r, rfl, r1, r2⟩ := ra
      dsimp only [bindTs] at e
      cases h : bindT t y env with
      | none =>
        rw [h] at e
        cases e
      | some env1 =>
        rw [h] at e
        refine ⟨v, r, rfl, gT_of r1 re h fun σ1 re1 o1 => ?_⟩
        exact gTs_of r2 (by simpa using hl) re1 e fun σ2 re2 o2 => q σ2 re2 (o1.trans o2)
end
/-- (a, b) = a tuple -/
def sSetT (t : Tg) (m : M Val) : S := sBnd m fun v env st => match bindT t v env with
  | some env' => some (.next, env', st)
  | none => none
/-- a, b = x, y -/
def sPar (i j : Nat) (ms : M (List Val)) : S := sBnd ms fun xs env st => match xs with
  | [v, w] => some (.next, (env.set i (some v)).set j (some w), st)
  | _ => none
theorem par_read {i j : Nat} {ms : M (List Val)} {D : Ends} {σ : L2.St} {H : Hp} (h : tS k E (sPar i j ms) D σ H) : tPar i j (tMa k E ms) D σ H :=
  tG.mono (tS.bnd (R := RepL k) h) fun xs H1 ⟨W, as, ra, env, st, o, h1, h2, h3, h4⟩ => by
    split at h3
    · rename_i v w
      cases h3
      obtain ⟨x, y, rfl, r1, r2⟩ := rep2 ra
      exact ⟨x, y, rfl, h4 W H1 _ (Le.refl _ _) h1 ((h2.set r1 i).set r2 j)⟩
    · cases h3
end
end Mi
namespace Mi
open PySem L2
/-! ### what is walked -/
def Walks (k : Kx) (W : Wd) (H : Hp) (xs : List Val) (J : It) : Prop := ∀ W' H' st, Le W W' H H' → Ok k W' H' st → J.stop xs.length H' ∧
  ∀ i x, xs[i]? = some x → J.go i H' ∧ ∀ v H'', J.yld i H' v H'' → ∃ W'', Le W' W'' H' H'' ∧ Ok k W'' H'' st ∧ RepV k W'' H'' x v
def tMi (k : Kx) (E : WX) (m : M (List Val)) : TI := fun σ H R => tG k (fun W H xs J => Walks k W H xs J) E m σ H R
theorem PI_or {X : Cx} {tg e : Expr} {w w' : TI} (h : PI X tg e w) (h' : PI X tg e w') : PI X tg e (fun σ H R => w σ H R ∨ w' σ H R) :=
  ⟨fun pins s σ H R I q => q.elim (h.run pins s σ H R I) (h'.run pins s σ H R I)⟩
theorem impI {X : Cx} {tg e : Expr} {w w' : TI} (h : PI X tg e w) (i : ∀ σ H R, w' σ H R → w σ H R) : PI X tg e w' := ⟨fun pins s σ H R I q => h.run pins s σ H R I (i σ H R q)⟩
def signs (z : Str) : List Val := z.cps.toList.map fun c => .str ⟨#[c]⟩
/-- a list that nobody changes, a tuple, a text -/
def stillOf : Val → Option (List Val)
  | .lst xs => some xs
  | .rol xs => some xs
  | .tup xs => some xs
  | .str z => some (signs z)
  | _ => none
def itS (m : M Val) : M (List Val) := bnd m fun a => lift fun _ => stillOf a
section
variable {k : Kx} {W : Wd} {H : Hp}
theorem walks_list {p : Addr} {vs : List V} {xs : List Val} (hs : ∀ W' H', Le W W' H H' → SqL k.K H' p vs) (r : RepL k W H xs vs) : Walks k W H xs (Itl k.K p) := fun W' H' st l o =>
  ⟨⟨vs, hs W' H' l, by rw [r.len]; exact Nat.le_refl _⟩, fun i x e => by
    obtain ⟨v, ev, rv⟩ := r.get e
    refine ⟨⟨vs, v, hs W' H' l, ev⟩, fun u H'' y => ?_⟩
    obtain ⟨e1, e2⟩ := y
    subst e1
    have e3 : v = u := Option.some.inj (ev.symm.trans (e2 vs (hs W' H'' l)))
    subst e3
    exact ⟨W', Le.refl _ _, o, rv.le l⟩⟩
theorem walks_tup {p : Addr} {vs : List V} {xs : List Val} (hs : SqT k.K H p vs) (r : RepL k W H xs vs) : Walks k W H xs (Itt k.K p) := fun W' H' st l o =>
  ⟨⟨vs, l.sqT hs, by rw [r.len]; exact Nat.le_refl _⟩, fun i x e => by
    obtain ⟨v, ev, rv⟩ := r.get e
    refine ⟨⟨vs, v, l.sqT hs, ev⟩, fun u H'' y => ?_⟩
    obtain ⟨e1, e2⟩ := y
    subst e1
    have e3 : v = u := Option.some.inj (ev.symm.trans (e2 vs (l.sqT hs)))
    subst e3
    exact ⟨W', Le.refl _ _, o, rv.le l⟩⟩
theorem walks_str {z : Str} : Walks k W H (signs z) (Its z) := fun W' H' st l o =>
  ⟨by
    show z.cps.size ≤ (signs z).length
    unfold signs
    simp, fun i x e => by
    unfold signs at e
    rw [List.getElem?_map] at e
    cases q : z.cps.toList[i]? with
    | none =>
      rw [q] at e
      cases e
    | some c =>
      rw [q] at e
      cases e
      have hc : z.cps[i]? = some c := by simpa using q
      refine ⟨?_, fun u H'' y => ?_⟩
      · show i < z.cps.size
        exact (Array.getElem?_eq_some_iff.mp hc).1
      · obtain ⟨e1, c', e2, e3⟩ := y
        subst e1
        rw [hc] at e2
        cases e2
        exact ⟨W', Le.refl _ _, o, e3⟩⟩
theorem walks_range {lo : Int} {n : Nat} : Walks k W H ((List.range n).map fun (i : Nat) => .int (lo + i)) (Itr lo n) := fun W' H' st l o =>
  ⟨by
    show n ≤ _
    simp, fun i x e => by
    rw [List.getElem?_map] at e
    cases q : (List.range n)[i]? with
    | none =>
      rw [q] at e
      cases e
    | some c =>
      rw [q] at e
      cases e
      obtain ⟨hi, hc⟩ := List.getElem?_eq_some_iff.mp q
      have hc' : i = c := by simpa using hc
      subst hc'
      refine ⟨by show i < n; simpa using hi, fun u H'' y => ?_⟩
      obtain ⟨e1, e2⟩ := y
      subst e1
      exact ⟨W', Le.refl _ _, o, e2⟩⟩
end
def rng1 (ms : M (List Val)) : M (List Val) := bnd ms fun as => lift fun _ => match as with
  | [.int j] => if -(2 ^ 62) ≤ j ∧ j < 2 ^ 62 then some ((List.range j.toNat).map fun (i : Nat) => .int (0 + i)) else none
  | _ => none
def pairs (xs : List Val) : List Val := xs.zipIdx.map fun p => .tup [.int (p.2 : Nat), p.1]
section
variable {X : Cx} {k : Kx} {E : WX} {tg : Expr}
theorem mi_still {e : Expr} {m : M Val} (h : PE X e (tM k E m)) (hk : X.K = k.K := by rfl) : PI X tg e (tMi k E (itS m)) := by
  refine impI (PI_or (pi_list h) (PI_or (pi_tup h) (pi_str h))) fun σ H R q => ?_
  rw [hk]
  obtain ⟨W, env, st, o, h1, h2, h3, h4⟩ := q
  unfold itS Mi.bnd at h3
  cases em : m env st with
  | none =>
    rw [em] at h3
    cases h3
  | some p =>
    obtain ⟨r, st1⟩ := p
    rw [em] at h3
    cases r with
    | error x =>
      cases h3
      exact .inl ⟨W, env, st, _, h1, h2, em, h4⟩
    | ok a =>
      have h5 : (stillOf a).map (fun c => ((.ok c : Except Exc (List Val)), st1)) = some o := h3
      cases a with
      | lst xs =>
        cases h5
        refine .inl ⟨W, env, st, _, h1, h2, em, fun W' H' v l o' r' => ?_⟩
        obtain ⟨p, vs, e1, f, s, r⟩ := r'
        exact ⟨p, e1, ⟨vs, .inl (.inl s)⟩, h4 W' H' _ l o' (walks_list (fun W2 H2 l2 => .inl (.inl (l2.keep _ _ s f))) r)⟩
      | rol xs =>
        cases h5
        refine .inl ⟨W, env, st, _, h1, h2, em, fun W' H' v l o' r' => ?_⟩
        obtain ⟨p, vs, e1, s, r⟩ := r'
        refine ⟨p, e1, ⟨vs, RoL.sq s⟩, h4 W' H' _ l o' (walks_list (fun W2 H2 l2 => ?_) r)⟩
        rcases s with ⟨u, s⟩ | s
        · exact .inl (.inr ⟨u, l2.imm _ _ s trivial⟩)
        · exact SqL.ro s
      | tup xs =>
        cases h5
        refine .inr (.inl ⟨W, env, st, _, h1, h2, em, fun W' H' v l o' r' => ?_⟩)
        obtain ⟨p, vs, e1, s, r⟩ := r'
        exact ⟨p, e1, ⟨vs, s⟩, h4 W' H' _ l o' (walks_tup s r)⟩
      | str z =>
        cases h5
        exact .inr (.inr ⟨W, env, st, _, h1, h2, em, fun W' H' v l o' r' => ⟨z, r', h4 W' H' _ l o' walks_str⟩⟩)
      | _ => cases h5
theorem mi_range1 {a : Expr} {ms : M (List Val)} {p pos : Pos} (h : PI X tg (.Call (.Name "range" p) [a] [] pos) (iRng1 (tMa k E ms))) : PI X tg (.Call (.Name "range" p) [a] [] pos) (tMi k E (rng1 ms)) :=
  impI h fun σ H R q => tG.mono (tG.bnd (R1 := RepL k) q) fun vs H1 ⟨W, as, ra, h1⟩ => by
    obtain ⟨c, st, e, o, q⟩ := h1.lift
    split at e
    · rename_i j
      split at e
      · rename_i hl
        cases e
        obtain ⟨v, rfl, r1⟩ := rep1 ra
        exact ⟨j, by rw [show v = .int j from r1], hl.1, hl.2, q W H1 _ (Le.refl _ _) o walks_range⟩
      · cases e
    · cases e
/-! ### for -/
def loop (t : Tg) (body : S) : List Val → S
  | [], env, st => some (.next, env, st)
  | x :: xs, env, st => match bindT t x env with
    | none => none
    | some env1 => match body env1 st with
      | some (.next, e, s) => loop t body xs e s
      | some (.cont, e, s) => loop t body xs e s
      | some (.brk, e, s) => some (.next, e, s)
      | o => o
def sFor (mi : M (List Val)) (t : Tg) (body : S) : S := sBnd mi fun xs => loop t body xs
theorem for_read {mi : M (List Val)} {t : Tg} {body : S} {D : Ends} {σ : L2.St} {H : Hp} (h : tS k E (sFor mi t body) D σ H) : tFor (tMi k E mi) (gT k.K t) (tS k E body) D σ H := by
  refine tG.mono (tS.bnd (R := fun W H xs J => Walks k W H xs J) h) fun J H1 ⟨W, xs, walks, env, st, o, h1, h2, h3, h4⟩ => ?_
  refine ⟨fun i m σ H => i + m = xs.length ∧ ∃ W' env st, Le W W' H1 H ∧ Ok k W' H st ∧ RepE k W' H env σ ∧ loop t body (xs.drop i) env st = some o, ⟨xs.length, by omega, W, env, st, Le.refl _ _, h1, h2, h3⟩, ?_⟩
  rintro i m σ H ⟨hi, W', env, st, l, ok, re, hl⟩
  obtain ⟨stop, go⟩ := walks W' H st l ok
  by_cases hlt : i < xs.length
  · obtain ⟨g, y⟩ := go i xs[i] (List.getElem?_eq_getElem hlt)
    refine .inr ⟨g, fun σ' H' => ∃ W'' env st, Le W W'' H1 H' ∧ Ok k W'' H' st ∧ RepE k W'' H' env σ' ∧ loop t body (xs.drop (i + 1)) env st = some o, fun σ' H' ⟨W2, env2, st2, l2, o2, r2, e2⟩ => ⟨m - 1, by omega, by omega, W2, env2, st2, l2, o2, r2, e2⟩, fun v H' hy => ?_⟩
    obtain ⟨W2, l2, ok2, rv⟩ := y v H' hy
    rw [List.drop_eq_getElem_cons hlt] at hl
    dsimp only [loop] at hl
    cases e : bindT t xs[i] env with
    | none =>
      rw [e] at hl
      cases hl
    | some env1 =>
      rw [e] at hl
      dsimp only at hl
      refine gT_of rv (re.le l2) e fun σ2 re2 _ => ?_
      cases eb : body env1 st with
      | none =>
        rw [eb] at hl
        cases hl
      | some p =>
        obtain ⟨r, e', s'⟩ := p
        rw [eb] at hl
        refine ⟨W2, env1, st, _, ok2, re2, eb, ?_⟩
        cases r with
        | next => exact fun W3 H3 σ3 l3 o3 r3 => ⟨W3, e', s', (l.trans l2).trans l3, o3, r3, hl⟩
        | cont => exact fun W3 H3 σ3 l3 o3 r3 => ⟨W3, e', s', (l.trans l2).trans l3, o3, r3, hl⟩
        | brk =>
          cases hl
          exact fun W3 H3 σ3 l3 o3 r3 => h4 W3 H3 σ3 ((l.trans l2).trans l3) o3 r3
        | ret u =>
          cases hl
          exact fun W3 H3 v l3 o3 r3 => h4 W3 H3 v ((l.trans l2).trans l3) o3 r3
        | err x =>
          cases hl
          exact fun W3 H3 σ3 c d l3 o3 r3 r4 => h4 W3 H3 σ3 c d ((l.trans l2).trans l3) o3 r3 r4
  · have e : i = xs.length := by omega
    subst e
    rw [List.drop_length] at hl
    cases hl
    exact .inl ⟨stop, h4 W' H σ l ok re⟩
theorem ms_for {iter : Expr} {body : List Stmt} {mi : M (List Val)} {t : Tg} {s : S} {pos : Pos} (hp : PassesOwn (model X.prog X.w) X.A X.env X.xe) (hc : X.calm = true) (hi : PI X tg iter (tMi k E mi)) (hg : PG X tg (gT X.K t)) (hb : PSs X body (tS k E s))
    (hs : ∀ x, foldedSetIterable iter X.env x = pure x := by intro _; rfl) (hk : X.K = k.K := by rfl) : PS X (.For tg iter body [] pos) (tS k E (sFor mi t s)) :=
  impS (ps_for hp hc hi hg hb hs) fun D σ H h => by
    rw [hk]
    exact for_read h
/-! ### while -/
def sWhile (c : M Bool) (body : S) : Nat → S
  | 0, _, _ => none
  | n + 1, env, st => sBnd c (fun t env st => if t then match body env st with
      | some (.next, e, s) => sWhile c body n e s
      | some (.cont, e, s) => sWhile c body n e s
      | some (.brk, e, s) => some (.next, e, s)
      | o => o
    else some (.next, env, st)) env st
theorem while_read {c : M Bool} {body : S} {n : Nat} {D : Ends} {σ : L2.St} {H : Hp} (h : tS k E (sWhile c body n) D σ H) : tWhile (tMb k E c) (tS k E body) D σ H := by
  obtain ⟨W, env, st, o, h1, h2, h3, h4⟩ := h
  refine ⟨fun m σ H1 => ∃ W' env st, Le W W' H H1 ∧ Ok k W' H1 st ∧ RepE k W' H1 env σ ∧ sWhile c body m env st = some o, ⟨n, W, env, st, Le.refl _ _, h1, h2, h3⟩, ?_⟩
  rintro m σ' H1 ⟨W', env, st, l, ok, re, e⟩
  cases m with
  | zero => cases e
  | succ m =>
    dsimp only [sWhile] at e
    have hs : tS k E (sBnd c (fun t env st => if t then match body env st with
      | some (.next, e, s) => sWhile c body m e s
      | some (.cont, e, s) => sWhile c body m e s
      | some (.brk, e, s) => some (.next, e, s)
      | o => o
    else some (.next, env, st))) D σ' H1 := ⟨W', env, st, o, ok, re, e, h4.le l⟩
    -- the test
    unfold sBnd at e
    cases ec : c env st with
    | none =>
      rw [ec] at e
      cases e
    | some p =>
      obtain ⟨r, st1⟩ := p
      rw [ec] at e
      cases r with
      | error x =>
        cases e
        exact ⟨W', env, st, _, ok, re, ec, fun W2 H2 cc d l2 o2 r2 => h4 W2 H2 σ' cc d (l.trans l2) o2 (re.le l2) r2⟩
      | ok t =>
        refine ⟨W', env, st, _, ok, re, ec, fun W2 H2 b l2 o2 r2 => ?_⟩
        cases r2
        cases t with
        | false =>
          have e' : some (Out.next, env, st1) = some o := e
          cases e'
          exact h4 W2 H2 σ' (l.trans l2) o2 (re.le l2)
        | true =>
          refine ⟨fun σ3 H3 => ∃ W3 env st, Le W W3 H H3 ∧ Ok k W3 H3 st ∧ RepE k W3 H3 env σ3 ∧ sWhile c body m env st = some o, fun σ3 H3 q => ⟨m, Nat.lt_succ_self m, q⟩, ?_⟩
          dsimp only at e
          rw [if_pos rfl] at e
          cases eb : body env st1 with
          | none =>
            rw [eb] at e
            cases e
          | some q =>
            obtain ⟨r, e', s'⟩ := q
            rw [eb] at e
            refine ⟨W2, env, st1, _, o2, re.le l2, eb, ?_⟩
            cases r with
            | next => exact fun W3 H3 σ3 l3 o3 r3 => ⟨W3, e', s', (l.trans l2).trans l3, o3, r3, e⟩
            | cont => exact fun W3 H3 σ3 l3 o3 r3 => ⟨W3, e', s', (l.trans l2).trans l3, o3, r3, e⟩
            | brk =>
              cases e
              exact fun W3 H3 σ3 l3 o3 r3 => h4 W3 H3 σ3 ((l.trans l2).trans l3) o3 r3
            | ret u =>
              cases e
              exact fun W3 H3 v l3 o3 r3 => h4 W3 H3 v ((l.trans l2).trans l3) o3 r3
            | err x =>
              cases e
              exact fun W3 H3 σ3 c d l3 o3 r3 r4 => h4 W3 H3 σ3 c d ((l.trans l2).trans l3) o3 r3 r4
theorem ms_while {c : Expr} {body : List Stmt} {m : M Bool} {s : S} {pos : Pos} (n : Nat) (hp : PassesOwn (model X.prog X.w) X.A X.env X.xe) (hc : PT X c (tMb k E m)) (hb : PSs X body (tS k E s)) : PS X (.While c body [] pos) (tS k E (sWhile m s n)) :=
  impS (ps_while hp hc hb) fun D σ H h => while_read h
end
end Mi
namespace Mi
open PySem L2
/-! ### comprehensions -/
def wipeE (env : Env) : List Nat → Env
  | [] => env
  | v :: vs => (wipeE env vs).set v none
theorem RepE.wipe {k : Kx} {W : Wd} {H : Hp} {env : Env} {σ : L2.St} (h : RepE k W H env σ) : ∀ vs : List Nat, RepE k W H (wipeE env vs) (wipe σ vs)
  | [] => h
  | v :: vs => RepE.wipe1 v none (RepE.wipe h vs)
theorem RepE.aside {k : Kx} {W : Wd} {H : Hp} {D : Addr} {acc : List V} {o : HO} (hf : ¬ W.fz D) (hD : H D = some (.lst acc)) : ∀ {env : Env} {σ : L2.St}, RepE k W H env σ → RepE k W (upd H D o) env σ
  | [], _, h => h
  | e :: es, _, h => by
    obtain ⟨u, r, e1, h1, h2⟩ := h
    refine ⟨u, r, e1, fun x hx => ?_, RepE.aside hf hD h2⟩
    obtain ⟨v, e2, h3⟩ := h1 x hx
    exact ⟨v, e2, h3.aside hf hD⟩
theorem Le.aside {W W' : Wd} {H H' : Hp} {D : Addr} {o : HO} (l : Le W W' H H') (h : H D = none) : Le W W' H (upd H' D o) := by
  have ne : ∀ p u, H p = some u → p ≠ D := fun p u e z => by
    rw [z, h] at e
    cases e
  exact ⟨l.rho, l.fz, fun p u e i => by rw [upd_ne (ne p u e)]; exact l.imm p u e i, fun p u e i => by rw [upd_ne (ne p u e)]; exact l.keep p u e i, fun p u e i => by rw [upd_ne (ne p u e)]; exact l.rest p u e i, l.newr, l.newf, fun p e => upd_dom (l.dom p e)⟩
theorem Ok.aside {k : Kx} {W : Wd} {H : Hp} {st : Sto} {D : Addr} {acc : List V} {o : HO} (h : Ok k W H st) (hf : ¬ W.fz D) (hr : D ∉ W.rho) (hD : H D = some (.lst acc)) : Ok k W (upd H D o) st :=
  ⟨h.nd, h.len, fun p f => upd_dom (h.fzs p f), h.apart, fun i u p e1 e2 => by
    have ne : p ≠ D := fun z => hr (z ▸ List.mem_of_getElem? e2)
    have r := h.obj i u p e1 e2
    cases u with
    | lst xs =>
      obtain ⟨vs, z, r⟩ := r
      exact ⟨vs, by rw [upd_ne ne]; exact z, r.aside hf hD⟩
    | ins c ks xs =>
      obtain ⟨dx, vs, z, n, r⟩ := r
      exact ⟨dx, vs, by rw [upd_ne ne]; exact z, n, r.aside hf hD⟩
    | dk ks xs =>
      obtain ⟨vs, z, n, r⟩ := r
      exact ⟨vs, by rw [upd_ne ne]; exact z, n, r.aside hf hD⟩
    | dn ks xs =>
      obtain ⟨ns, as, us, z, n, r, r2⟩ := r
      exact ⟨ns, as, us, by rw [upd_ne ne]; exact z, n, r.aside hf hD, r2.aside hf hD⟩
    | dz =>
      obtain ⟨od, u, z⟩ := r
      exact ⟨od, u, by rw [upd_ne ne]; exact z⟩
    | exo c ks xs =>
      obtain ⟨d, z, n, r⟩ := r
      refine ⟨d, by rw [upd_ne ne]; exact z, n, ?_⟩
      rcases r with r | ⟨dx, vs, r1, r2, r3⟩
      · exact .inl r
      · exact .inr ⟨dx, vs, r1, by rw [upd_ne (fun e => by rw [e, hD] at r2; cases r2)]; exact r2, r3.aside hf hD⟩⟩
theorem Le.frD {W W' : Wd} {H H' : Hp} {D : Addr} (l : Le W W' H H') (h : H D = none) : Le W (W'.fr D) H H' :=
  ⟨l.rho, fun p f => .inl (l.fz p f), l.imm, l.keep, l.rest, l.newr, fun p f => by
    rcases f with f | f
    · exact l.newf p f
    · exact .inr (f ▸ h), l.dom⟩
theorem wipe_get (σ : L2.St) : ∀ (vs : List Nat) (j : Nat), (wipe σ vs)[j]? = if j ∈ vs then (if j < σ.length then some none else none) else σ[j]?
  | [], j => by simp [wipe]
  | v :: vs, j => by
    show ((wipe σ vs).set v none)[j]? = _
    by_cases e : v = j
    · subst e
      by_cases hl : v < σ.length
      · rw [List.getElem?_set_self (by rw [wipe_length]; exact hl)]
        simp [hl]
      · rw [List.getElem?_eq_none (by rw [List.length_set, wipe_length]; omega)]
        simp [hl]
    · rw [List.getElem?_set_ne e, wipe_get σ vs j]
      by_cases hm : j ∈ vs
      · simp [hm]
      · have : ¬ j = v := fun z => e z.symm
        simp [hm, this]
theorem wipe_only {σ σ2 : L2.St} {us vs : List Nat} (o : OnlyAt us (wipe σ vs) σ2) (hs : ∀ u ∈ us, u ∈ vs) : wipe σ2 vs = wipe σ vs := by
  apply List.ext_getElem?
  intro j
  have hl : σ2.length = σ.length := by
    rw [o.1, wipe_length]
  rw [wipe_get, wipe_get, hl]
  by_cases hm : j ∈ vs
  · rw [if_pos hm, if_pos hm]
  · rw [if_neg hm, if_neg hm, o.2 j fun z => hm (hs j z), wipe_get, if_neg hm]
def E0 : WX := fun _ _ _ _ => False
def compLoop (t : Tg) (own : List Nat) (cond : M Bool) (elt : M Val) : List Val → Env → Sto → Res (List Val)
  | [], _, st => some (.ok [], st)
  | x :: xs, env, st => match bindT t x (wipeE env own) with
    | none => none
    | some env1 => match cond env1 st with
      | some (.ok true, st1) => match elt env1 st1 with
        | some (.ok y, st2) => match compLoop t own cond elt xs env st2 with
          | some (.ok ys, st3) => some (.ok (y :: ys), st3)
          | _ => none
        | _ => none
      | some (.ok false, st1) => compLoop t own cond elt xs env st1
      | _ => none
def compM (mi : M (List Val)) (t : Tg) (own : List Nat) (cond : M Bool) (elt : M Val) : M (List Val) := bnd mi fun xs env st => if xs.length ≤ LIM then compLoop t own cond elt xs env st else none
def yes : M Bool := ret true
def comp (mi : M (List Val)) (t : Tg) (own : List Nat) (cond : M Bool) (elt : M Val) : M Val := bnd (compM mi t own cond elt) fun ys => ret (.lst ys)
section
variable {X : Cx} {k : Kx} {E : WX}
theorem comp_core {mi : M (List Val)} {t : Tg} {own : List Nat} {cond : M Bool} {elt : M Val} {f : List Val → M Val} {σ : L2.St} {H : Hp} {Q : VK} (hs : ∀ u ∈ slots t, u ∈ own)
    (fin : ∀ (W W' : Wd) (H1 H' : Hp) (st : Sto) (D : Addr) (acc : List V) (ys : List Val), Le W W' H1 H' → H1 D = none → Ok k W' H' st → ¬ W'.fz D → D ∉ W'.rho → H' D = some (.lst acc) → RepL k W' H' ys acc → ∀ env o, f ys env st = some o → Fin k (RepV k) (fun c d H' => E c d σ H') W H1 Q o → Q (.ref D) H')
    (h : tM k E (bnd (compM mi t own cond elt) f) σ H Q) : tLc (tMi k E mi) (gT k.K t) (tMb k E0 cond) (tM k E0 elt) own σ H Q := by
  obtain ⟨W, env, st, o, h1, h2, h3, h4⟩ := h
  unfold Mi.bnd compM at h3
  unfold Mi.bnd at h3
  cases em : mi env st with
  | none =>
    rw [em] at h3
    cases h3
  | some p =>
    obtain ⟨r, st1⟩ := p
    rw [em] at h3
    cases r with
    | error x =>
      cases h3
      exact ⟨W, env, st, _, h1, h2, em, h4⟩
    | ok xs =>
      refine ⟨W, env, st, _, h1, h2, em, fun W1 H1 J l1 o1 walks D hD => ?_⟩
      dsimp only at h3
      by_cases hlim : xs.length ≤ LIM
      · rw [if_pos hlim] at h3
        cases ec : compLoop t own cond elt xs env st1 with
        | none =>
          rw [ec] at h3
          cases h3
        | some p =>
          obtain ⟨r, st2⟩ := p
          rw [ec] at h3
          cases r with
          | error x =>
            -- no turn raises
            exfalso
            clear h3 h4
            have all : ∀ (xs : List Val) st, compLoop t own cond elt xs env st ≠ some (.error x, st2) := by
              intro xs
              induction xs with
              | nil =>
                intro st e
                cases e
              | cons y ys ih =>
                intro st e
                dsimp only [compLoop] at e
                split at e
                · cases e
                · split at e
                  · split at e
                    · split at e
                      · cases e
                      · cases e
                    · cases e
                  · exact ih _ e
                  · cases e
            exact all xs st1 ec
          | ok ys =>
            dsimp only at h3
            refine ⟨fun i m Hc => i + m = xs.length ∧ ∃ W' st acc done rest, Le W1 W' H1 Hc ∧ Ok k W' Hc st ∧ ¬ W'.fz D ∧ D ∉ W'.rho ∧ Hc D = some (.lst acc) ∧ RepL k W' Hc done acc ∧ RepE k W' Hc env σ ∧ done.length ≤ i ∧ compLoop t own cond elt (xs.drop i) env st = some (.ok rest, st2) ∧ ys = done ++ rest,
              ⟨xs.length, by omega, W1, st1, [], [], ys, Le.new hD, o1.new hD, fun z => o1.fzs D z hD, fun z => o1.there z hD, upd_same, rfl, (h2.le l1).le (Le.new hD), Nat.le_refl _, ec, rfl⟩, ?_⟩
            rintro i m Hc ⟨hi, W', st, acc, done, rest, l, ok, nf, nr, hacc, ra, re, hlen, hl, hys⟩
            have l' : Le W1 W' H1 Hc := l
            obtain ⟨stop, go⟩ := walks W' Hc st l' ok
            by_cases hlt : i < xs.length
            · obtain ⟨g, y⟩ := go i xs[i] (List.getElem?_eq_getElem hlt)
              refine .inr ⟨g, fun Hn => ∃ W' st acc done rest, Le W1 W' H1 Hn ∧ Ok k W' Hn st ∧ ¬ W'.fz D ∧ D ∉ W'.rho ∧ Hn D = some (.lst acc) ∧ RepL k W' Hn done acc ∧ RepE k W' Hn env σ ∧ done.length ≤ i + 1 ∧ compLoop t own cond elt (xs.drop (i + 1)) env st = some (.ok rest, st2) ∧ ys = done ++ rest,
                fun Hn q => ⟨m - 1, by omega, by omega, q⟩, fun v H' hy => ?_⟩
              obtain ⟨W2, l2, ok2, rv⟩ := y v H' hy
              -- D stays aside
              have step : ∀ {Wa Wb : Wd} {Ha Hb : Hp}, Le Wa Wb Ha Hb → ¬ Wa.fz D → D ∉ Wa.rho → Ha D = some (.lst acc) → ¬ Wb.fz D ∧ D ∉ Wb.rho ∧ Hb D = some (.lst acc) := fun {Wa Wb Ha Hb} l a b c => by
                refine ⟨fun z => ?_, fun z => ?_, l.rest _ _ c b⟩
                · rcases l.newf D z with z | z
                  · exact a z
                  · rw [c] at z
                    cases z
                · rcases l.newr D z with z | z
                  · exact b z
                  · rw [c] at z
                    cases z
              obtain ⟨nf2, nr2, hacc2⟩ := step l2 nf nr hacc
              rw [List.drop_eq_getElem_cons hlt] at hl
              dsimp only [compLoop] at hl
              cases e : bindT t xs[i] (wipeE env own) with
              | none =>
                rw [e] at hl
                cases hl
              | some env1 =>
                rw [e] at hl
                dsimp only at hl
                refine gT_of rv ((re.le l2).wipe own) e fun σ2 re2 only => ⟨wipe_only only hs, ?_⟩
                cases et : cond env1 st with
                | none =>
                  rw [et] at hl
                  cases hl
                | some p =>
                  obtain ⟨b, st3⟩ := p
                  rw [et] at hl
                  cases b with
                  | error x => cases hl
                  | ok b =>
                    refine ⟨W2, env1, st, _, ok2, re2, et, fun W3 H3 b' l3 o3 r3 => ?_⟩
                    cases r3
                    obtain ⟨nf3, nr3, hacc3⟩ := step l3 nf2 nr2 hacc2
                    cases b with
                    | false =>
                      rw [if_neg Bool.false_ne_true]
                      exact ⟨W3, st3, acc, done, rest, (l'.trans l2).trans l3, o3, nf3, nr3, hacc3, (ra.le l2).le l3, (re.le l2).le l3, by omega, hl, hys⟩
                    | true =>
                      rw [if_pos rfl]
                      dsimp only at hl
                      cases ee : elt env1 st3 with
                      | none =>
                        rw [ee] at hl
                        cases hl
                      | some p =>
                        obtain ⟨r, st4⟩ := p
                        rw [ee] at hl
                        cases r with
                        | error x => cases hl
                        | ok z =>
                          dsimp only at hl
                          cases er : compLoop t own cond elt (xs.drop (i + 1)) env st4 with
                          | none =>
                            rw [er] at hl
                            cases hl
                          | some p =>
                            obtain ⟨r, st5⟩ := p
                            rw [er] at hl
                            cases r with
                            | error x => cases hl
                            | ok rest' =>
                              have hl' : (some ((.ok (z :: rest') : Except Exc (List Val)), st5)) = some (.ok rest, st2) := hl
                              cases hl'
                              refine ⟨W3, env1, st3, _, o3, re2.le l3, ee, fun W4 H4 v4 l4 o4 r4 => ?_⟩
                              obtain ⟨nf4, nr4, hacc4⟩ := step l4 nf3 nr3 hacc3
                              have ra4 := ((ra.le l2).le l3).le l4
                              refine ⟨acc, hacc4, ?_, W4, st4, acc ++ [v4], done ++ [z], rest', Le.aside (((l'.trans l2).trans l3).trans l4) hD, o4.aside nf4 nr4 hacc4, nf4, nr4, upd_same, (ra4.append (RepL.cons r4 (show RepL k W4 H4 [] [] from rfl))).aside nf4 hacc4, (((re.le l2).le l3).le l4).aside nf4 hacc4, ?_, er, ?_⟩
                              · rw [ra4.len]
                                exact lim_lt (Nat.lt_of_lt_of_le (Nat.lt_of_le_of_lt hlen hlt) hlim)
                              · rw [List.length_append]
                                show done.length + 1 ≤ i + 1
                                omega
                              · rw [hys, List.append_assoc]
                                rfl
            · have e : i = xs.length := by omega
              subst e
              rw [List.drop_length] at hl
              have hl' : (some ((.ok [] : Except Exc (List Val)), st)) = some (.ok rest, st2) := hl
              cases hl'
              rw [List.append_nil] at hys
              subst hys
              refine .inl ⟨stop, fin W1 W' H1 Hc _ D acc _ l' hD ok nf nr hacc ra env o h3 (h4.le l1)⟩
      · rw [if_neg hlim] at h3
        cases h3
theorem comp_read {mi : M (List Val)} {t : Tg} {own : List Nat} {cond : M Bool} {elt : M Val} {σ : L2.St} {H : Hp} {Q : VK} (hs : ∀ u ∈ slots t, u ∈ own) (h : tM k E (comp mi t own cond elt) σ H Q) : tLc (tMi k E mi) (gT k.K t) (tMb k E0 cond) (tM k E0 elt) own σ H Q :=
  comp_core hs (fun W W' H1 H' st D acc ys l hD ok nf nr hacc ra env o e fn => by
    cases e
    refine fn (W'.fr D) H' _ (l.frD hD) (ok.fr (by rw [hacc]; exact fun z => nomatch z) nr) ⟨D, acc, rfl, .inr rfl, hacc, ra.more (W := W') (W' := W'.fr D) (fun _ _ h => h) fun _ h => Or.inl h⟩) h
theorem mts_nil {X : Cx} : PTs X [] (tMb k E yes) := ⟨fun pins s σ H Q I h => pts_nil.run pins s σ H Q I (by
  obtain ⟨W, h⟩ := h
  exact h.ret rfl)⟩
theorem me_comp {elt tg iter : Expr} {ifs : List Expr} {scope : Scope} {own : List (Str × Nat)} {pos : Pos} {mi : M (List Val)} {t : Tg} {cond : M Bool} {m : M Val} (hs : ∀ u ∈ slots t, u ∈ own.map (·.2))
    (h : PE X (.ListComp elt [⟨tg, iter, ifs, 0⟩] scope pos) (tLc (tMi k E mi) (gT X.K t) (tMb k E0 cond) (tM k E0 m) (own.map (·.2)))) (hk : X.K = k.K := by rfl) : PE X (.ListComp elt [⟨tg, iter, ifs, 0⟩] scope pos) (tM k E (comp mi t (own.map (·.2)) cond m)) :=
  imp h fun σ H Q q => by
    rw [hk]
    exact comp_read hs q
/-- y = [..] -/
theorem ms_comp {i : Nat} {elt tg iter : Expr} {ifs : List Expr} {scope : Scope} {own : List (Str × Nat)} {st : Stmt} {mi : M (List Val)} {t : Tg} {cond : M Bool} {m : M Val} (hs : ∀ u ∈ slots t, u ∈ own.map (·.2))
    (h : PS X st (tAsg (tLc (tMi k E mi) (gT X.K t) (tMb k E0 cond) (tM k E0 m) (own.map (·.2))) (gName i))) (hk : X.K = k.K := by rfl) : PS X st (tS k E (sSet i (comp mi t (own.map (·.2)) cond m))) :=
  impS h fun D σ H q => by
    rw [hk]
    exact comp_read hs (set_read q)
end
end Mi
namespace Mi
open PySem PySem.Spec PyProof.Rows L2
/-! ### defs and their calls -/
abbrev CF := List Val → Sto → Res Val
def spM (k : Kx) (n : Nat) (c : CF) : Sp := fun vs H Q E => ∃ W us st o, us.length = n ∧ Ok k W H st ∧ RepL k W H us vs ∧ c us st = some o ∧ Fin k (RepV k) E W H Q o
def env0 (N : Nat) (us : List Val) : Env := us.map some ++ List.replicate (N - us.length) none
def callS (N : Nat) (s : S) : CF := fun us st => match s (env0 N us) st with
  | some (.ret v, _, st') => some (.ok v, st')
  | some (.next, _, st') => some (.ok .non, st')
  | some (.err x, _, st') => some (.error x, st')
  | _ => none
def callM (n : Nat) (c : CF) (ds : List Val) (ms : M (List Val)) : M Val := bnd ms fun us _ st => if (us ++ ds).length = n then c (us ++ ds) st else none
section
variable {k : Kx}
theorem RepE.of_list {W : Wd} {H : Hp} : ∀ {us : List Val} {vs : List V}, RepL k W H us vs → RepE k W H (us.map some) (vs.map some)
  | [], vs, r => by
    have e : vs = [] := r
    rw [e]
    rfl
  | x :: xs, vs, r => by
    obtain ⟨v, u, rfl, r1, r2⟩ := r
    exact ⟨some v, _, rfl, fun y hy => ⟨v, rfl, by cases hy; exact r1⟩, RepE.of_list r2⟩
theorem RepE.nones {W : Wd} {H : Hp} : ∀ n : Nat, RepE k W H (List.replicate n none) (List.replicate n none)
  | 0 => rfl
  | n + 1 => ⟨none, _, rfl, fun y hy => (by cases hy), RepE.nones n⟩
theorem RepE.append {W : Wd} {H : Hp} : ∀ {e1 e2 : Env} {s1 s2 : L2.St}, RepE k W H e1 s1 → RepE k W H e2 s2 → RepE k W H (e1 ++ e2) (s1 ++ s2)
  | [], _, _, _, h, g => by
    have e : _ = _ := h
    rw [e]
    exact g
  | x :: xs, _, _, _, h, g => by
    obtain ⟨o, r, rfl, h1, h2⟩ := h
    exact ⟨o, _, rfl, h1, RepE.append h2 g⟩
theorem RepE.begin {W : Wd} {H : Hp} {us : List Val} {vs : List V} {N : List Str} (r : RepL k W H us vs) : RepE k W H (env0 N.length us) (L2.start N vs) := by
  unfold env0 L2.start
  rw [r.len]
  exact RepE.append (RepE.of_list r) (RepE.nones _)
/-- a def keeps its mirror -/
theorem ok_def {P : Program} {w : World} {mg : Str → Option Value} {base : Heap} {x qual : Str} {st : Stmt} {f : Addr} {fd : FuncData} {N ps : List Str} {j n nN : Nat} {s : S} {c : CF} (F : Fun k.K x qual st f fd) (S : FnScope N ps (defScope st)) (hc : c = callS nN s) (hN : N.length = nN) (hn : ps.length = n)
    (body : ∀ (cdv : Value) (A : Around) (outer : List PySem.Env) (s0 : Shared) (H : Hp) (E : XK), Room j (A.deeper (envOfC qual (defScope st) s0.heap.objs.size f cdv)) →
      PSs (cxOf (L2.CX P w) P w k.K mg base N qual (defScope st) f cdv A outer s0 H E) (defBody st) (tS k (fun c d _ H' => E c d H') s)) :
    FnOk P w k.K mg base (L2.CX P w) (j + 1) f fd ps (spM k n c) := by
  subst hc hN
  refine F.okX S (fun vs H Q E h => ?_) (fun cdv A outer s0 H vs Q E hr h => ⟨_, body cdv A outer s0 H E hr, ?_⟩)
  · obtain ⟨W, us, st, o, h0, h1, h2, h3, h4⟩ := h
    rw [h2.len, h0, hn]
  · obtain ⟨W, us, st, o, h0, h1, h2, h3, h4⟩ := h
    unfold callS at h3
    cases e : s (env0 N.length us) st with
    | none =>
      rw [e] at h3
      cases h3
    | some p =>
      obtain ⟨r, env, st'⟩ := p
      rw [e] at h3
      refine ⟨W, _, st, _, h1, RepE.begin h2, e, ?_⟩
      cases r with
      | next =>
        cases h3
        exact fun W' H' σ l o r => h4 W' H' .non l o rfl
      | brk => cases h3
      | cont => cases h3
      | ret v =>
        cases h3
        exact fun W' H' u l o r => h4 W' H' u l o r
      | err x =>
        cases h3
        exact fun W' H' σ c d l o _ r => h4 W' H' c d l o r
end
section
variable {X : Cx} {k : Kx} {E : WX} {pos p : Pos} {e : Expr} {es : List Expr} {ms : M (List Val)}
theorem call_read {n : Nat} {c : CF} {ds : List Val} {dvs : List V} (hd : ∀ W H, RepL k W H ds dvs) {σ : L2.St} {H : Hp} {Q : VK} (h : tM k E (callM n c ds ms) σ H Q) : tCallSD (spM k n c) dvs (WE E) (tMa k E ms) σ H Q :=
  tG.mono (tG.bnd (R1 := RepL k) h) fun vs H1 ⟨W, us, ru, env, st, o, h1, h2, h3, h4⟩ => by
    dsimp only at h3
    split at h3
    · rename_i hl
      exact ⟨W, us ++ ds, st, o, hl, h1, ru.append (hd W H1), h3, h4⟩
    · cases h3
theorem me_call {x : Str} {j n : Nat} {f : Addr} {fd : FuncData} {ps : List Str} {c : CF} {ds : List Val} {dvs : List V} {dus : List Value} (F : FnOk X.prog X.w X.K X.mg X.base (L2.CX X.prog X.w) j f fd ps (spM k n c)) (hr : Room j X.A) (hg : Gl X x) (hm : X.mg x = some (.ref f)) (hk : PySem.W.keepIn X.K (.ref f) = true)
    (hb : Binds X.K fd ps dus) (hv : Vals dvs dus) (hd : ∀ W H, RepL k W H ds dvs) (tk : Takes X E) (ha : PA X (e :: es) (tMa k E ms)) (hdb : (x == ("__debug__" : Str)) = false := by decide)
    (he : starEach (e :: es) X.env = (false, eval e X.env) :: starEach es X.env := by rfl) (hpl : (backTo pos (starEach es X.env)).any (·.1) = false := by rfl) : PE X (.Call (.Name x p) (e :: es) [] pos) (tM k E (callM n c ds ms)) :=
  imp (pe_callSD F hr hg hm hk hb hv (fun σ => passAt tk σ) ha hdb he hpl) fun σ H Q h => call_read hd h
/-! ### isinstance -/
def tyName (st : Sto) : Val → Option String
  | .non => some "NoneType"
  | .bl _ => some "bool"
  | .int _ => some "int"
  | .str _ => some "str"
  | .tup _ => some "tuple"
  | .lst _ => some "list"
  | .rol _ => some "list"
  | .ref i => match st[i]? with
    | some (.lst _) => some "list"
    | _ => none
  | .ins _ _ _ => none
  | .exv _ _ _ => none
  | .cls _ => none
  | .tpd _ => none
/-- tb: the answer for a built-in type, own: for an instance of an own class -/
def isiV (tb : String → Option Bool) (own : Str → Option Bool) (st : Sto) (a : Val) : Option Val := match a with
  | .ins c _ _ => (own c).map .bl
  | .ref i => match st[i]? with
    | some (.ins c _ _) => (own c).map .bl
    | some (.lst _) => (tb "list").map .bl
    | _ => none
  | a => match tyName st a with
    | some n => (tb n).map .bl
    | none => none
theorem SqT.ty {K : PySem.W.Frag} {H : Hp} {p : Addr} {vs : List V} (h : SqT K H p vs) : TyX K H (.ref p) (.type "tuple") := by
  rcases h with (h | ⟨o, h⟩) | h
  · exact .base (.tup h)
  · exact .fTuple h
  · obtain ⟨o, its, n, e, c, _⟩ := h
    exact .kTuple e c
theorem RoL.ty {H : Hp} {p : Addr} {vs : List V} (h : RoL k H p vs) : TyX k.K H (.ref p) (.type "list") := by
  rcases h with ⟨o, h⟩ | (h | ⟨o, h⟩) | h
  · exact .base (.frz h)
  · cases h
  · cases h
  · obtain ⟨o, its, n, e, c, _⟩ := h
    exact .kList e c
/-! ### methods of texts -/
def m1 (f : Sto → Val → Val → Option Val) (mo ma : M Val) : M Val := bnd mo fun a => bnd (lift fun _ => strOf a) fun _ => bnd ma fun b => lift fun st => f st a b
/-! ### methods of lists of the store -/
def isLst (st : Sto) (a : Val) : Option Unit := match lstOf st a with
  | some _ => some ()
  | none => none
def lm (f : Sto → Val → List Val → Option (Val × Sto)) (mo : M Val) (ms : M (List Val)) : M Val := bnd mo fun a => bnd (lift fun st => isLst st a) fun _ => bnd ms fun as => liftS fun st => f st a as
theorem lm_read {f : Sto → Val → List Val → Option (Val × Sto)} {r : V → List V → Hp → VK → Prop} (hf : ∀ W H st a as x xs c st' Q, Ok k W H st → RepV k W H a x → RepL k W H as xs → f st a as = some (c, st') → (∀ W' H' v, Le W W' H H' → Ok k W' H' st' → RepV k W' H' c v → Q v H') → r x xs H Q)
    {mo : M Val} {ms : M (List Val)} {σ : L2.St} {H : Hp} {Q : VK} (h : tM k E (lm f mo ms) σ H Q) : tM k E mo σ H fun x H1 => tyV k.K "list" x H1 ∧ tMa k E ms σ H1 fun xs H2 => r x xs H2 Q :=
  tG.mono (tG.bnd (R1 := RepV k) h) fun x H1 ⟨W, a, ra, env, st, o, h1, h2, h3, h4⟩ => by
    unfold bnd lift at h3
    dsimp only at h3
    cases hx : isLst st a with
    | none =>
      rw [hx] at h3
      cases h3
    | some z =>
      rw [hx] at h3
      unfold isLst at hx
      cases hy : lstOf st a with
      | none =>
        rw [hy] at hx
        cases hx
      | some ys =>
        obtain ⟨p, vs, e1, s, r1⟩ := lstOf_rep h1 ra hy
        refine ⟨by rw [e1]; exact .inl ⟨rfl, vs, s⟩, ?_⟩
        have h5 : At k (RepV k) E (bnd ms fun as => liftS fun st => f st a as) W σ H1 Q := ⟨env, st, o, h1, h2, h3, h4⟩
        refine tG.mono (At.bnd (R1 := RepL k) (fun W H => RepV k W H a x) (fun l r => r.le l) ra h5) fun xs H2 ⟨W2, as, ra2, rs, h6⟩ => ?_
        obtain ⟨c, st, st', e, o, q⟩ := h6.liftS
        exact hf W2 H2 st a as x xs c st' Q o ra2 rs e q
def appendV (st : Sto) : Val → List Val → Option (Val × Sto)
  | .ref i, [a] => match st[i]? with
    | some (.lst xs) => if xs.length < LIM then some (.non, st.set i (.lst (xs ++ [a]))) else none
    | _ => none
  | _, _ => none
def popV (st : Sto) : Val → List Val → Option (Val × Sto)
  | .ref i, [] => match st[i]? with
    | some (.lst xs) => match xs[xs.length - 1]? with
      | some y => some (y, st.set i (.lst xs.dropLast))
      | none => none
    | _ => none
  | _, _ => none
theorem Ok.putLe {W : Wd} {H : Hp} {st : Sto} {i : Nat} {p : Addr} {o o' : HO} (h : Ok k W H st) (hi : W.rho[i]? = some p) (ho : H p = some o) (hm : ¬ Imm o) : Le W W H (upd H p o') := by
  have hp : p ∈ W.rho := List.mem_of_getElem? hi
  exact ⟨⟨[], by simp⟩, fun _ h => h, fun q v e m => by
    have ne : q ≠ p := fun z => by
      rw [z, ho] at e
      cases e
      exact hm m
    rw [upd_ne ne]
    exact e, fun q v e f => by
    have ne : q ≠ p := fun z => h.apart p hp (z ▸ f)
    rw [upd_ne ne]
    exact e, fun q v e f => by
    have ne : q ≠ p := fun z => f (z ▸ hp)
    rw [upd_ne ne]
    exact e, fun _ h => .inl h, fun _ h => .inl h, fun _ h => upd_dom h⟩
theorem Ok.putL {W : Wd} {H : Hp} {st : Sto} {i : Nat} {p : Addr} {xs ys : List Val} {vs us : List V} (h : Ok k W H st) (hi : W.rho[i]? = some p) (ho : H p = some (.lst vs)) (r : RepL k W H ys us) : Le W W H (upd H p (.lst us)) ∧ Ok k W (upd H p (.lst us)) (st.set i (.lst ys)) := by
  have l : Le W W H (upd H p (.lst us)) := h.putLe hi ho (fun z => z)
  exact h.put hi ho (fun z => z) ⟨us, upd_same, r.le l⟩
theorem append_hf : ∀ W H st a as x xs c st' (Q : VK), Ok k W H st → RepV k W H a x → RepL k W H as xs → appendV st a as = some (c, st') → (∀ W' H' v, Le W W' H H' → Ok k W' H' st' → RepV k W' H' c v → Q v H') → rAppend x xs H Q := by
  intro W H st a as x xs c st' Q o ra rs e q
  unfold appendV at e
  split at e
  · rename_i i b
    split at e
    · rename_i ys hys
      split at e
      · rename_i hl
        cases e
        obtain ⟨p, e1, hp⟩ := ra
        obtain ⟨vs, hv, rv⟩ := o.obj i _ p hys hp
        obtain ⟨v, rfl, rb⟩ := rep1 rs
        obtain ⟨l, o'⟩ := o.putL (xs := ys) hp hv (rv.append (RepL.cons rb (show RepL k W H [] [] from rfl)))
        exact ⟨p, vs, v, e1, rfl, hv, by rw [rv.len]; exact lim_lt hl, q W _ _ l o' rfl⟩
      · cases e
    · cases e
  · cases e
theorem RepL.dropLast {W : Wd} {H : Hp} {xs : List Val} {vs : List V} (r : RepL k W H xs vs) : RepL k W H xs.dropLast vs.dropLast := by
  rw [List.dropLast_eq_take, List.dropLast_eq_take, r.len]
  exact r.take _
theorem pop_hf : ∀ W H st a as x xs c st' (Q : VK), Ok k W H st → RepV k W H a x → RepL k W H as xs → popV st a as = some (c, st') → (∀ W' H' v, Le W W' H H' → Ok k W' H' st' → RepV k W' H' c v → Q v H') → rPop x xs H Q := by
  intro W H st a as x xs c st' Q o ra rs e q
  unfold popV at e
  split at e
  · rename_i i
    split at e
    · rename_i ys hys
      split at e
      · rename_i y hy
        cases e
        obtain ⟨p, e1, hp⟩ := ra
        obtain ⟨vs, hv, rv⟩ := o.obj i _ p hys hp
        have exs : xs = [] := rs
        subst exs
        obtain ⟨v, hv2, ry⟩ := rv.get hy
        obtain ⟨l, o'⟩ := o.putL (xs := ys) hp hv rv.dropLast
        exact ⟨p, vs, v, e1, rfl, hv, by rw [rv.len]; exact hv2, q W _ _ l o' (ry.le l)⟩
      · cases e
    · cases e
  · cases e
theorem me_append {o : Expr} {mo ma : M Val} {apos : Pos} (ho : PE X o (tM k E mo)) (ha : PA X [e] (tMa k E ms)) (h : PE X (.Call (.Attribute o "append" apos) [e] [] pos) (tBM X.K "list" rAppend (tM k E mo) (tMa k E ms))) (hk : X.K = k.K := by rfl) :
    PE X (.Call (.Attribute o "append" apos) [e] [] pos) (tM k E (lm appendV mo ms)) := imp h fun σ H Q q => by
  rw [hk]
  exact lm_read append_hf q
theorem me_pop {o : Expr} {mo : M Val} {apos : Pos} (h : PE X (.Call (.Attribute o "pop" apos) [] [] pos) (tBM0 X.K "list" rPop (tM k E mo))) (hk : X.K = k.K := by rfl) :
    PE X (.Call (.Attribute o "pop" apos) [] [] pos) (tM k E (lm popV mo nilM)) := imp h fun σ H Q q => by
  rw [hk]
  refine tG.mono (lm_read pop_hf q) fun x H1 ⟨ty, h1⟩ => ⟨ty, ?_⟩
  obtain ⟨W, h1⟩ := h1
  exact h1.ret (show RepL k W H1 [] [] from rfl)
/-! ### xs[i] = e -/
def sSub (me mo mi : M Val) : S := sBnd me fun v => sBnd mo fun a => sBnd mi fun j env st => match a, j with
  | .ref i, .int n => match st[i]? with
    | some (.lst xs) => match ixN xs.length n with
      | some l => some (.next, env, st.set i (.lst (xs.set l v)))
      | none => none
    | _ => none
  | _, _ => none
theorem AtS.bnd {α β : Type} {R : Wd → Hp → α → β → Prop} {m : M α} {f : α → S} {D : Ends} {σ : L2.St} {H : Hp} {W : Wd} (P : Wd → Hp → Prop) (mono : ∀ {W W' : Wd} {H H' : Hp}, Le W W' H H' → P W H → P W' H') (hp : P W H)
    (h : AtS k E (sBnd m f) W D σ H) : tG k R E m σ H fun x H1 => ∃ W1 a, P W1 H1 ∧ R W1 H1 a x ∧ AtS k E (f a) W1 D σ H1 := by
  obtain ⟨env, st, o, h1, h2, h3, h4⟩ := h
  unfold sBnd at h3
  cases e : m env st with
  | none =>
    rw [e] at h3
    cases h3
  | some p =>
    rw [e] at h3
    obtain ⟨r, st1⟩ := p
    cases r with
    | ok a => exact ⟨W, env, st, _, h1, h2, e, fun W' H' v l o' r' => ⟨W', a, mono l hp, r', env, st1, o, o', h2.le l, h3, h4.le l⟩⟩
    | error x =>
      cases h3
      exact ⟨W, env, st, _, h1, h2, e, fun W' H' c d l o r => h4 W' H' σ c d l o (h2.le l) r⟩
theorem ms_sub {o i : Expr} {me mo mi : M Val} (h : PS X (.Assign [.Subscript o i p] e pos) (tAsg (tM k E me) (gSub (tM k E mo) (tM k E mi) rSetL))) : PS X (.Assign [.Subscript o i p] e pos) (tS k E (sSub me mo mi)) :=
  impS h fun D σ H q => tG.mono (tS.bnd (R := RepV k) q) fun x H1 ⟨W, v, rv, h1⟩ =>
    tG.mono (AtS.bnd (R := RepV k) (fun W H => RepV k W H v x) (fun l r => r.le l) rv h1) fun y H2 ⟨W2, a, rv2, ra, h2⟩ =>
      tG.mono (AtS.bnd (R := RepV k) (fun W H => RepV k W H v x ∧ RepV k W H a y) (fun l r => ⟨r.1.le l, r.2.le l⟩) ⟨rv2, ra⟩ h2) fun z H3 ⟨W3, j, ⟨rv3, ra3⟩, rj, env, st, o, g1, g2, g3, g4⟩ => by
        cases a with
        | ref i =>
          cases j with
          | int n =>
            dsimp only at g3
            split at g3
            · rename_i ys hys
              split at g3
              · rename_i l hl
                cases g3
                obtain ⟨p, e1, hp⟩ := ra3
                obtain ⟨vs, hv, rvs⟩ := g1.obj i _ p hys hp
                obtain ⟨le, o'⟩ := g1.putL (xs := ys) hp hv (rvs.set rv3 l)
                exact ⟨p, vs, n, l, e1, rj, hv, by rw [rvs.len]; exact hl, g4 W3 _ σ le o' (g2.le le)⟩
              · cases g3
            · cases g3
          | _ => cases g3
        | _ => cases g3
end
end Mi
namespace PySem
open Sem (wp)
/-- enumerate(v), v told by how its walk begins -/
theorem mi_enumNew {v : Value} {o : Obj} {Hh : Heap → Prop} (B : Begins v o Hh) : Meets (Builtin.«enumerate.__new__» ⟨[.type "enumerate", v], []⟩) (fun _ R s => Hh s.heap ∧
    R (.ok (.ret (.ref (s.heap.push o).objs.size))) { s with heap := (s.heap.push o).push { cls := .type "enumerate", data := .fields #[.none, .bool false, .ref s.heap.objs.size, rawInt 0, .none, .none] } }) :=
  .of_wp fun prog w A R s h => by
    obtain ⟨hp, g, d, tk, os⟩ := s
    obtain ⟨h1, h⟩ := h
    have hsub := sub_enumerate
    have walk : ∀ {A' : Around} {E : Value → Shared → Prop} {Q : Value → Shared → Prop}, Q (.ref hp.objs.size) ⟨hp.push o, g, d, tk, os⟩ → wpAny (model prog w) A' (pyIter v) Q E ⟨hp, g, d, tk, os⟩ := fun q => B.iter prog w _ _ _ _ h1 q
    wp_walk using walk
    refine wpAny_stack_any fun st => wpAny_pure ?_
    split
    · rename_i c _ _ _ _ _
      cases (c == Value.type "enumerate") <;> (wp_walk using walk; exact ⟨_, rfl, h⟩)
    · wp_walk using walk
      exact ⟨_, rfl, h⟩
theorem mi_enumCall {prog : Program} {w : World} {A : Around} {E : Value → Shared → Prop} {s : Shared} {v : Value} {o : Obj} {Hh : Heap → Prop} {Q : Value → Shared → Prop} (B : Begins v o Hh) (h1 : Hh s.heap)
    (h : ∀ h', IsEnum h' (s.heap.objs.size + 1) s.heap.objs.size 0 .none → h'.get? s.heap.objs.size = some o → (∀ b u, s.heap.get? b = some u → h'.get? b = some u) → Q (.ref (s.heap.objs.size + 1)) { s with heap := h' }) :
    wpAny (model prog w) A (call (.type "enumerate") [v]) Q E s := by
  refine callType_new F.called_enumerate (by decide) (F.typeCall_enumerate_1 _) (F.newCall_enumerate_1 _) (fun obj => F.args_object_init_2 obj _) F.entry_enumerate_new (mi_enumNew B) ⟨h1, ?_⟩
  have hz : (s.heap.push o).objs.size = s.heap.objs.size + 1 := Heap.size_push ..
  show _ ∧ _
  rw [hz]
  have he : IsEnum ((s.heap.push o).push { cls := .type "enumerate", data := .fields #[.none, .bool false, .ref s.heap.objs.size, rawInt 0, .none, .none] }) (s.heap.objs.size + 1) s.heap.objs.size 0 .none := by
    have q := Heap.get?_push_size (s.heap.push o) (o := { cls := .type "enumerate", data := .fields #[.none, .bool false, .ref s.heap.objs.size, rawInt 0, .none, .none] }) rfl
    rw [hz] at q
    exact q
  exact ⟨⟨_, he, rfl⟩, h _ he (Heap.get?_push_of_some _ (Heap.get?_push_size _ B.free)) fun b u x => Heap.get?_push_of_some _ (Heap.get?_push_of_some _ x)⟩
end PySem
namespace Mi
open PySem PySem.Spec PyProof.Rows L2
/-! ### enumerate, zip: over lists and tuples, in any mix -/
inductive Sc where
  | l (a : Addr) | t (a : Addr)
def Sc.addr : Sc → Addr
  | .l a => a
  | .t a => a
def Sc.sq (K : PySem.W.Frag) (H : Hp) : Sc → List V → Prop
  | .l a, xs => SqL K H a xs
  | .t a, xs => SqT K H a xs
def Sc.it (h : Heap) (I : Addr) (i : Nat) : Sc → Prop
  | .l a => h.IsListIter I a i
  | .t a => h.IsTupleIter I a i
def Sc.is (h : Heap) (items : Array Value) : Sc → Prop
  | .l a => h.IsList a items
  | .t a => h.IsTuple a items
def Sc.first : Sc → Obj
  | .l a => { cls := .type "list_iterator", data := .fields #[.ref a, .int 0 0] }
  | .t a => { cls := .type "tuple_iterator", data := .fields #[.ref a, .int 0 0] }
theorem Sc.begins (c : Sc) (items : Array Value) : Begins (.ref c.addr) c.first fun h => c.is h items := by
  cases c with
  | l a => exact begins_list a items
  | t a => exact begins_tuple a items
theorem Sc.it_first {h : Heap} {I : Addr} {c : Sc} (e : h.get? I = some c.first) : c.it h I 0 := by
  cases c with
  | l a => exact ⟨_, e, rfl, rfl⟩
  | t a => exact ⟨_, e, rfl, rfl⟩
theorem Sc.it_obj {h : Heap} {I : Addr} {i : Nat} {c : Sc} (x : c.it h I i) : ∃ o, h.get? I = some o ∧ ∀ v, o.data ≠ .cell v := by
  cases c with
  | l a =>
    obtain ⟨o, e, _, d⟩ := x
    exact ⟨o, e, fun v q => by rw [d] at q; cases q⟩
  | t a =>
    obtain ⟨o, e, _, d⟩ := x
    exact ⟨o, e, fun v q => by rw [d] at q; cases q⟩
theorem Sc.it_at {h h' : Heap} {I : Addr} {i : Nat} {c : Sc} (x : c.it h I i) (k : ∀ o, h.get? I = some o → h'.get? I = some o) : c.it h' I i := by
  cases c with
  | l a => exact Heap.IsListIter.at x k
  | t a => exact Heap.IsTupleIter.at x k
theorem Sc.draws {prog : Program} {w : World} {A : Around} (hh : A.handled = none) (c : Sc) (I : Addr) (hne : c.addr ≠ I) (items : Array Value) :
    Draws prog w A I [I, c.addr] items.size (fun i v => items[i]? = some v) (fun i h => c.it h I i ∧ c.is h items) := by
  cases c with
  | l a => exact Draws.list hh I a hne items
  | t a => exact Draws.tuple hh I a hne items
section
variable {X : Cx} {pins : List (Addr × Obj)} {σ : L2.St} {H : Hp} {s : Shared} {c : Sc} {xs ys : List V}
theorem Sc.of (I : Inv X pins σ H s) (h : c.sq X.K H xs) : ∃ its : List Value, Vals xs its ∧ c.is s.heap its.toArray := by
  cases c with
  | l a =>
    obtain ⟨its, rv, p, _⟩ := I.list h
    exact ⟨its, rv, p.isList⟩
  | t a =>
    obtain ⟨its, rv, p, _⟩ := I.tuple h
    exact ⟨its, rv, p⟩
theorem Sc.inj (I : Inv X pins σ H s) (h : c.sq X.K H xs) (h' : c.sq X.K H ys) : xs = ys := by
  cases c with
  | l a => exact I.list_inj h h'
  | t a => exact I.tuple_inj h h'
theorem Sc.ne (I : Inv X pins σ H s) (h : c.sq X.K H xs) {b : Addr} (hf : FpOk X pins H b) : c.addr ≠ b := by
  have old : ∀ a o, X.K.lookup a = some o → a ≠ b := fun a o e z => by
    have e1 := I.ok.mod.kin a o e
    obtain ⟨_, _, _, f3, _⟩ := hf
    rcases f3 with f3 | f3
    · exact I.ok.noex a o e1 (z ▸ f3)
    · exact absurd (Nat.lt_of_lt_of_le (Heap.lt_size (I.ok.bs a o e1).1) (z ▸ f3)) (Nat.lt_irrefl _)
  cases c with
  | l a =>
    rcases h with (h | ⟨o, h⟩) | ⟨o, _, _, e, _⟩
    · exact ne_of_none h hf.1
    · exact ne_of_none h hf.1
    · exact old a o e
  | t a =>
    rcases h with (h | ⟨o, h⟩) | ⟨o, _, _, e, _⟩
    · exact ne_of_none h hf.1
    · exact ne_of_none h hf.1
    · exact old a o e
end
def IteS (K : PySem.W.Frag) (c : Sc) : It :=
  ⟨fun i H => ∃ (xs : List V) (x : V), c.sq K H xs ∧ xs[i]? = some x, fun i H v H' => ∃ T x, v = .ref T ∧ H T = none ∧ H' = upd H T (.tup [.int (i : Nat), x]) ∧ ∀ xs, c.sq K H xs → xs[i]? = some x, fun i H => ∃ xs : List V, c.sq K H xs ∧ xs.length = i⟩
theorem turnEnum {P : Program} {w : World} {K : PySem.W.Frag} {elts : List Expr} {kk : Nat} {tpos : Pos} (c : Sc) (e it : Addr) :
    Turn P w K (.Tuple elts kk tpos) (IteS K c) [e, it] e (fun i h => (∃ old, IsEnum h e it ((i : Nat) : Int) old) ∧ c.it h it i ∧ e ≠ it) where
  mem := by simp
  obj := fun i h st b hb => by
    obtain ⟨⟨old, he⟩, hit, _⟩ := st
    have e' : b = e ∨ b = it := by simpa using hb
    rcases e' with z | z
    · rw [z]
      exact ⟨_, he, fun v q => nomatch q⟩
    · rw [z]
      exact Sc.it_obj hit
  keep := fun i h h' st k => by
    obtain ⟨⟨old, he⟩, hi, hne⟩ := st
    exact ⟨⟨old, k e (by simp) _ he⟩, Sc.it_at hi fun o q => k it (by simp) o q, hne⟩
  item := by
    intro X hP hw hK hc i pins s σ H E I hf st hg
    subst hP hw hK
    obtain ⟨⟨old, he⟩, hit, hne⟩ := st
    obtain ⟨xs, x, hq, hx⟩ := hg
    obtain ⟨its, rv, p⟩ := Sc.of I hq
    obtain ⟨u, hu, ru⟩ := rv.get hx
    have hel : e < s.heap.objs.size := Heap.lt_size he
    have hil : it < s.heap.objs.size := by
      obtain ⟨_, q, _⟩ := Sc.it_obj hit
      exact Heap.lt_size q
    have hai := Sc.ne I hq (hf it (by simp))
    have hae := Sc.ne I hq (hf e (by simp))
    have hef : e ∉ [it, c.addr] := fun z => by
      rcases List.mem_cons.mp z with z | z
      · exact hne z
      · exact hae (List.mem_singleton.mp z).symm
    have hlt : i < its.toArray.size := by
      have := (List.getElem?_eq_some_iff.mp hu).1
      simpa using this
    refine wpAny_pyNext_enum_itemC (Sc.draws (A := X.A.in1) (I.ok.hd hc) c it hai its.toArray) he ⟨hit, p⟩ hlt hne hef fun x' h' tk hP ho hst' hT hsz hk => ?_
    have ex : u = x' := by
      have q : its.toArray[i]? = some x' := hP
      have q' : its[i]? = some x' := by simpa using q
      exact Option.some.inj (hu.symm.trans q')
    subst ex
    refine ⟨_, rfl, wpAny_letOwnedTupleGo_enum (s := { s with heap := h', toks := tk + 1 }) ho fun h'' he' sb => ?_⟩
    have hT2 : h''.get? s.heap.objs.size = some { cls := .type "tuple", data := .seq #[.int i tk, u] } := (sb.2 _ (Nat.ne_of_gt hel)).trans hT
    have new : ObjOk X.prog X.w (upd H s.heap.objs.size (.tup [.int (i : Nat), x])) h'' s.heap.objs.size (.tup [.int (i : Nat), x]) :=
      ⟨by show 2 ≤ sizeLine; decide, [.int i tk, u], .cons ⟨_, rfl⟩ (.cons ru .nil), ⟨_, hT2, rfl, _, rfl⟩⟩
    have I1 : Inv X pins σ (upd H s.heap.objs.size (.tup [.int (i : Nat), x])) { s with heap := h'', toks := tk + 1 } :=
      I.turnedNew (ch := [e, it]) (fun b ob hb q => (sb.2 b (fun z => hb (by simp [z]))).trans (hk b ob (fun z => hb (by simp [z])) (fun z => hb (by simp [z])) q)) hf (Nat.le_refl _) new
    refine ⟨.ref s.heap.objs.size, _, I1, rfl, ⟨_, x, rfl, I.hok.fresh (Nat.le_refl _), rfl, fun ys hy => by rw [Sc.inj I hy hq]; exact hx⟩, ⟨⟨u, ?_⟩, Sc.it_at hst'.1 fun o q => (sb.2 it (Ne.symm hne)).trans q, hne⟩, fun b hb => ?_⟩
    · have e1 : ((i + 1 : Nat) : Int) = (i : Int) + 1 := by omega
      rw [e1]
      exact he'
    · have hb' : b < s.heap.objs.size := by
        have e' : b = e ∨ b = it := by simpa using hb
        rcases e' with z | z
        · rw [z]
          exact hel
        · rw [z]
          exact hil
      rw [upd_ne (Nat.ne_of_lt hb')]
      exact (hf b hb).1
  done := by
    intro X hP hw hK hc i pins s σ H E I hf st hg
    subst hP hw hK
    obtain ⟨⟨old, he⟩, hit, hne⟩ := st
    obtain ⟨xs, hq, hx⟩ := hg
    obtain ⟨its, rv, p⟩ := Sc.of I hq
    obtain ⟨f0, f1, f2, f3, f4, f5⟩ := hf it (by simp)
    have hl := rv.length
    have hi : its.toArray.size = i := by
      rw [List.size_toArray]
      omega
    refine wpAny_pyNext_enum_endD (Sc.draws (A := X.A.in1) (I.ok.hd hc) c it (Sc.ne I hq (hf it (by simp))) its.toArray) he ⟨by rw [hi]; exact hit, p⟩ fun h' eb => ⟨rfl, I.turned (t' := s.toks) (fun b o hb q => eb b o hb q) f0 f1 f3 f4 f5⟩
  self := fun A i s Q E st h => by
    obtain ⟨⟨_, he⟩, _⟩ := st
    exact wpAny_pyIter_enum he h
theorem pi_enumS {X : Cx} {e : Expr} {ta : TA} {p pos tpos : Pos} {elts : List Expr} {kk : Nat} (hg : Gl X "enumerate") (hm : X.mg "enumerate" = none) (ha : PA X [e] ta) (hs : starEach [e] X.env = [(false, eval e X.env)] := by rfl) :
    PI X (.Tuple elts kk tpos) (.Call (.Name "enumerate" p) [e] [] pos) (fun σ H R => ta σ H fun vs H1 => ∃ c xs, vs = [.ref (Sc.addr c)] ∧ c.sq X.K H1 xs ∧ R (IteS X.K c) H1) := by
  refine ⟨fun pins s σ H R I h => ?_⟩
  refine Call_ (ld_blt I hg hm boot_enumerate (PyProof.Rows.callWith_type1 (thn (ha.run pos pins s σ H _ I h) fun us s1 ⟨vs, H1, I1, r1, q1⟩ => ?_) hs rfl))
  obtain ⟨c, xs, ec, hq, q⟩ := q1
  subst ec
  cases r1 with
  | cons r rr =>
    cases rr
    cases r
    obtain ⟨its, rv, p'⟩ := Sc.of I1 hq
    refine mi_enumCall (c.begins its.toArray) p' fun h' he hit hk => wpAny_pyIter_enum he ?_
    have I2 : Inv X pins σ H1 { s1 with heap := h' } := I1.kept (t' := s1.toks) hk
    refine ⟨s1.heap.objs.size + 1, [s1.heap.objs.size + 1, s1.heap.objs.size], _, _, H1, rfl, I2, turnEnum c (s1.heap.objs.size + 1) s1.heap.objs.size, ⟨⟨.none, he⟩, Sc.it_first hit, Nat.succ_ne_self _⟩, fun b hb => ?_, q⟩
    have e' : b = s1.heap.objs.size + 1 ∨ b = s1.heap.objs.size := by simpa using hb
    have hle : s1.heap.objs.size ≤ b := by
      rcases e' with z | z
      · rw [z]
        exact Nat.le_add_right _ _
      · rw [z]
        exact Nat.le_refl _
    exact I1.fpOk hle (I1.hok.fresh hle)
/-! ### .. in the mirror -/
def seqStill : Val → Option (List Val)
  | .lst xs => some xs
  | .rol xs => some xs
  | .tup xs => some xs
  | _ => none
section
variable {k : Kx} {W : Wd} {H : Hp} {a : Val} {x : V} {xs : List Val}
theorem seqStill_rep (r : RepV k W H a x) (e : seqStill a = some xs) : ∃ c vs, x = .ref (Sc.addr c) ∧ (∀ W' H', Le W W' H H' → c.sq k.K H' vs) ∧ RepL k W H xs vs := by
  cases a with
  | lst ys =>
    cases e
    obtain ⟨p, vs, e1, f, s, r⟩ := r
    exact ⟨.l p, vs, e1, fun W' H' l => .inl (.inl (l.keep _ _ s f)), r⟩
  | rol ys =>
    cases e
    obtain ⟨p, vs, e1, s, r⟩ := r
    refine ⟨.l p, vs, e1, fun W' H' l => ?_, r⟩
    rcases s with ⟨u, s⟩ | s
    · exact .inl (.inr ⟨u, l.imm _ _ s trivial⟩)
    · exact SqL.ro s
  | tup ys =>
    cases e
    obtain ⟨p, vs, e1, s, r⟩ := r
    exact ⟨.t p, vs, e1, fun W' H' l => l.sqT s, r⟩
  | _ => cases e
theorem walks_enum {c : Sc} {vs : List V} (hs : ∀ W' H', Le W W' H H' → c.sq k.K H' vs) (r : RepL k W H xs vs) : Walks k W H (pairs xs) (IteS k.K c) := fun W' H' st l o =>
  ⟨⟨vs, hs W' H' l, by unfold pairs; rw [r.len]; simp⟩, fun i y e => by
    unfold pairs at e
    rw [List.getElem?_map, List.getElem?_zipIdx] at e
    cases q : xs[i]? with
    | none =>
      rw [q] at e
      cases e
    | some z =>
      rw [q] at e
      cases e
      obtain ⟨v, ev, rv⟩ := r.get q
      refine ⟨⟨vs, v, hs W' H' l, ev⟩, fun u H'' y => ?_⟩
      obtain ⟨T, v', e1, hT, e2, e3⟩ := y
      have e4 : v = v' := Option.some.inj (ev.symm.trans (e3 vs (hs W' H' l)))
      subst e1 e2 e4
      refine ⟨W', Le.new hT, o.new hT, T, _, rfl, .inl (.inl upd_same), ?_⟩
      exact RepL.cons (by show V.int _ = V.int _; simp) (RepL.cons ((rv.le l).le (Le.new hT)) (show RepL k _ _ [] [] from rfl))⟩
end
def enumM (ms : M (List Val)) : M (List Val) := bnd ms fun as => lift fun _ => match as with
  | [a] => (seqStill a).map pairs
  | _ => none
section
variable {X : Cx} {k : Kx} {E : WX}
theorem mi_enum {e : Expr} {ms : M (List Val)} {p pos tpos : Pos} {elts : List Expr} {kk : Nat} (hg : Gl X "enumerate") (hm : X.mg "enumerate" = none) (ha : PA X [e] (tMa k E ms)) (hs : starEach [e] X.env = [(false, eval e X.env)] := by rfl) (hk : X.K = k.K := by rfl) :
    PI X (.Tuple elts kk tpos) (.Call (.Name "enumerate" p) [e] [] pos) (tMi k E (enumM ms)) :=
  impI (pi_enumS hg hm ha hs) fun σ H R q => tG.mono (tG.bnd (R1 := RepL k) q) fun vs H1 ⟨W, as, ra, h1⟩ => by
    rw [hk]
    obtain ⟨c, st, e, o, q⟩ := h1.lift
    split at e
    · rename_i a
      obtain ⟨v, rfl, r1⟩ := rep1 ra
      cases h : seqStill a with
      | none =>
        rw [h] at e
        cases e
      | some xs =>
        rw [h] at e
        cases e
        obtain ⟨c, us, e1, hs, r⟩ := seqStill_rep r1 h
        exact ⟨c, us, by rw [e1], hs W H1 (Le.refl _ _), q W H1 _ (Le.refl _ _) o (walks_enum hs r)⟩
    · cases e
end
/-! ### isinstance: which classes -/
def noOwn : Str → Option Bool := fun _ => none
def tyNames : List String := ["NoneType", "bool", "int", "str", "tuple", "list"]
def isiT (T : String) (n : String) : Option Bool := if n ∈ tyNames then some (n == T || (n == "bool" && T == "int")) else none
def isiT2 (T U : String) (n : String) : Option Bool := if n ∈ tyNames then some ((n == T || (n == "bool" && T == "int")) || (n == U || (n == "bool" && U == "int"))) else none
/-! ### a reversed copy that will be changed -/
def unS (f : Sto → Val → Option (Val × Sto)) (m : M Val) : M Val := bnd m fun a => liftS fun st => f st a
def revVM (st : Sto) (a : Val) : Option (Val × Sto) := (lstOf st a).map fun xs => (.ref st.length, st ++ [.lst xs.reverse])
theorem me_revM {X : Cx} {k : Kx} {E : WX} {e : Expr} {j : Nat} {p1 p2 p3 pos : Pos} {m : M Val} (he : PE X e (tM k E m)) (hk : X.K = k.K := by rfl) :
    PE X (.Subscript e (.Slice none none (some (.UnaryOp .USub (.Constant (.int 1) j p1) p2)) p3) pos) (tM k E (unS revVM m)) := by
  refine imp (pe_revL he) fun σ H Q h => ?_
  rw [hk]
  refine tG.mono (tG.bnd (R1 := RepV k) h) fun x H1 ⟨W, a, ra, h1⟩ => ?_
  obtain ⟨c, st, st', e, o, q⟩ := h1.liftS
  unfold revVM at e
  cases h : lstOf st a with
  | none =>
    rw [h] at e
    cases e
  | some xs =>
    rw [h] at e
    cases e
    obtain ⟨p, vs, e1, s, r⟩ := lstOf_rep o ra h
    exact ⟨p, vs, e1, s, fun p hp => newLstM o hp r.reverse q⟩
end Mi
namespace Mi
open PySem PySem.Spec PyProof.Rows L2
/-! ### the law's own call: its frame lies right on the caller's, and nothing is being shown (guards) -/
/-- a def's body, run around A alone -/
theorem run_at {P : Program} {w : World} {K : PySem.W.Frag} {mg : Str → Option Value} {base : Heap} {x qual : Str} {st : Stmt} {f : Addr} {fd : FuncData} {N ps : List Str} {j : Nat} {A : Around} {outer : List PySem.Env} {s0 : Shared} {H : Hp} {args : Args} {us : List Value} {vs : List V} {Q : VK} {E : XK} {t : TS}
    (F : Fun K x qual st f fd) (S : FnScope N ps (defScope st)) (hl : vs.length = ps.length) (hr : Room (j + 1) A) (e0 : Env0 P w K mg base A outer s0 H) (hb : BindsTo s0 fd args (ps.zip us)) (rv : Vals vs us)
    (body : ∀ cdv : Value, Room j (A.deeper (envOfC qual (defScope st) s0.heap.objs.size f cdv)) → PSs (cxOf (L2.CX P w) P w K mg base N qual (defScope st) f cdv A outer s0 H E) (defBody st) t)
    (ht : t { nx := fun _ H' => Q .non H', rt := Q } (L2.start N vs) H) : codeAny (model P w) A (.call (.ref f) args) (CR (L2.CX P w) outer P w H s0 Q E) s0 := by
  obtain ⟨oc, od, kV, doc, pm, an, cdv, ct, osl, rfl, lk, hcd⟩ := F.ex
  have stays : ∀ b o, base.get? b = some o → s0.heap.get? b = some o := fun b o q => (e0.bs b o q).1
  have KX : K.In s0.heap := e0.mod.kin.keeps stays
  refine codeAny_call_function hr.depth (KX _ _ lk) rfl S.co S.gen rfl (PySem.W.codeRec_of KX hcd) (hb _ _ _ _ ?_)
  refine wpAny_newFunctionEnv_cells S.kind (fun y hy => ?_) fun env he s1 ic => ?_
  · rcases S.par y.1 (List.of_mem_zip (show (y.1, y.2) ∈ ps.zip us from hy)).1 with q | q
    · exact .inl q
    · exact .inr ⟨q, PySem.W.cellsFrom_some _ _ _ (.inl q)⟩
  subst he
  refine ⟨(e0.mod.nolimit.keeps stays).keeps ic.toInCall.keep, codeAny_func ?_⟩
  have I := inv_start (CX := L2.CX P w) (E := E) S hr.hd e0 hl rv ic
  refine wpAny_mono ((body cdv (hr.deeper _)).run [] s1 _ H _ I ht) (fun fl s' hs => ?_) fun _ _ hs => hs
  cases fl with
  | ret u =>
    obtain ⟨v, σ', H', J, r, q⟩ := hs
    exact ⟨v, H', J.os, J.bare, J.base, J.hok, r, q⟩
  | next =>
    obtain ⟨σ', H', J, q⟩ := hs
    exact ⟨.non, H', J.os, J.bare, J.base, J.hok, rfl, q⟩
  | brk =>
    obtain ⟨_, _, _, q⟩ := hs
    exact q.elim
  | cont =>
    obtain ⟨_, _, _, q⟩ := hs
    exact q.elim
theorem caller_room {j : Nat} (h : j ≤ 40) : Room j callerA := by
  have r : Room 40 callerA := ⟨rfl, by decide, by decide⟩
  exact r.mono h
/-- from the call's run to the law's end -/
theorem law_at {P : Program} {w : World} {K : PySem.W.Frag} {mg mb : Str → Option Value} {fa a : Addr} {s : Shared} {vs : List Value} {ns : List Int} (KX : K.In s.heap) (hns : s.heap.Ns mainGlobals mg) (hb : s.heap.Ns builtinsNs mb) (hbb : ∀ x : Str, x ≠ "__name__" → mb x = bootBuiltins x)
    (hlim : s.heap.NoLimit) (hg : s.gens = #[]) (ha : s.heap.get? a = some { cls := .type "list", data := .seq vs.toArray }) (hi : IntsAre vs ns) (hl : ns.length ≤ sizeLine)
    (run : ∀ (base : Heap) (H : Hp), K.In base → base.Ns mainGlobals mg → Env0 P w K mg base callerA [] s H → Only H → SqL K H a (ns.map V.int) →
      codeAny (model P w) callerA (.call (.ref fa) ⟨[.ref a], []⟩) (CR (L2.CX P w) [] P w H s (fun v _ => v = .bl true) fun _ _ _ => False) s) :
    codeAny (model P w) callerA (.call (.ref fa) ⟨[.ref a], []⟩) (fun r s' => r = .ok (.ret (.bool true)) ∧ OldK s.heap s'.heap ∧ s'.os = s.os ∧ AllBare s'.gens) s := by
  -- what is tracked at the entry: nothing, or the script alone
  suffices main : ∀ H : Hp, Only H → SqL K H a (ns.map V.int) → HOk P w H s.heap → (∀ b u, H b = some u → b = a ∧ K.lookup a = none) →
      codeAny (model P w) callerA (.call (.ref fa) ⟨[.ref a], []⟩) (fun r s' => r = .ok (.ret (.bool true)) ∧ OldK s.heap s'.heap ∧ s'.os = s.os ∧ AllBare s'.gens) s by
    have rv := vals_ints hi
    have lenV := hi.length
    cases hk : K.lookup a with
    | some o =>
      have e := KX a o hk
      rw [ha] at e
      cases e
      refine main (fun _ => none) (fun _ => .inl rfl) (.inr ⟨_, vs.toArray, _, hk, rfl, rfl, rfl, ?_, ?_⟩) (fun b u z => nomatch z) fun b u z => nomatch z
      · rw [List.size_toArray, lenV]
        exact hl
      · simpa using rv
    | none =>
      have only : ∀ b, (if b = a then some (HO.frz { cls := .type "list", data := .seq vs.toArray } (.lst (ns.map V.int))) else none) = none ∨ b = a := fun b => by
        by_cases h : b = a
        · exact .inr h
        · exact .inl (if_neg h)
      refine main (fun b => if b = a then some (.frz { cls := .type "list", data := .seq vs.toArray } (.lst (ns.map V.int))) else none) (fun b => ?_) (.inl (.inr ⟨_, if_pos rfl⟩)) (fun b u z => ?_) fun b u z => ?_
      · by_cases h : b = a
        · exact .inr ⟨_, _, if_pos h⟩
        · exact .inl (if_neg h)
      · by_cases h : b = a
        · subst h
          have z' := (if_pos rfl).symm.trans z
          cases z'
          exact ⟨ha, by rw [List.length_map]; exact hl, vs, _, rv, ha⟩
        · have z' := (if_neg h).symm.trans z
          cases z'
      · by_cases h : b = a
        · exact ⟨h, hk⟩
        · have z' := (if_neg h).symm.trans z
          cases z'
  intro H hO hS hok hA
  have lay : ∀ {b : Addr} {o : Obj}, s.heap.get? b = some o → H b = none → (hidT s.heap H).get? b = some o := fun q n => hidT_get q n
  have free : ∀ {b : Addr} {m : Str → Option Value}, s.heap.Ns b m → H b = none := fun {b m} ⟨o, es, ep, q, d, _⟩ => by
    cases z : H b with
    | none => rfl
    | some u =>
      obtain ⟨e, _⟩ := hA b u z
      subst e
      rw [ha] at q
      cases q
      cases (show Data.seq vs.toArray _ = Data.dict es ep from d)
  have ns' : ∀ {b : Addr} {m : Str → Option Value}, s.heap.Ns b m → (hidT s.heap H).Ns b m := fun {b m} x => by
    have n := free x
    obtain ⟨o, es, ep, q, d⟩ := x
    exact ⟨o, es, ep, lay q n, d⟩
  have kb : K.In (hidT s.heap H) := fun b o q => lay (KX b o q) (by
    cases z : H b with
    | none => rfl
    | some u =>
      obtain ⟨e, n⟩ := hA b u z
      rw [e, n] at q
      cases q)
  obtain ⟨mc, c1, c2⟩ := hlim
  have e0 : Env0 P w K mg (hidT s.heap H) callerA [] s H := ⟨rfl, ⟨kb, ns' hns, ⟨mb, ns' hb, hbb⟩, ⟨mc, ns' c1, c2⟩⟩, fun b o q => of_hidT q, Nat.le_of_eq (hidT_size _ _), trivial, fun b m => absurd (show b ∈ ([] : List Addr) from m) (by simp), hok, .of_eq hg⟩
  refine codeAny_mono (run _ H kb (ns' hns) e0 hO hS) fun r s' h => ?_
  cases r with
  | error e =>
    obtain ⟨_, _, _, _, _, _, _, _, _, _, _, _, z⟩ := h
    exact z.elim
  | ok fl =>
    cases fl with
    | next => exact False.elim h
    | brk => exact False.elim h
    | cont => exact False.elim h
    | ret u =>
      obtain ⟨v, H', os, bare, un, hok', r, q⟩ := h
      cases (show v = .bl true from q)
      cases (show u = Value.bool true from r)
      refine ⟨rfl, OldK.of_keep fun b o q => ?_, os, bare⟩
      cases z : H b with
      | none => exact un.keep b o q z (fun m => absurd (show b ∈ ([] : List Addr) from m) (by simp)) (by simp)
      | some u =>
        rcases hO b with n | ⟨ob, xs, n⟩
        · rw [z] at n
          cases n
        · have same := (hok b _ n).1
          rw [q] at same
          cases same
          exact (hok' b _ (un.frzs b _ _ n)).1
/-- the end: the law's mirror says True -/
theorem walk_law {l : PySem.W.OpenLaw} {n j : Nat} {q : Program} {loose : List Str} {XP : (Str → Option Value) → Heap → Prop} {YP : World → Heap → Prop} {d : DefRec} {K : Params → PySem.W.Frag} {x : Str} {st : Stmt} {N : List Str} {s : S} {cl : World → Str → Addr}
    (hn : l.most = some n) (hn2 : n ≤ sizeLine) (hdf : d.params.defaults = []) (hj : j + 1 ≤ 40) (hY : ∀ (w : World) (h : Heap), YP w h → (K w.params).In h) (Sc : FnScope N [x] (defScope st))
    (F : ∀ (w : World) (mg : Str → Option Value) (fa : Addr) (h : Heap), (K w.params).In h → h.Ns mainGlobals mg → mg d.name = some (.ref fa) →
      ∃ fd : FuncData, Fun (K w.params) "law" "law" st fa fd ∧ (∀ (s : Shared) (u : Value), BindsTo s fd ⟨[u], []⟩ [(x, u)]) ∧ ∃ cl : Str → Addr, ∀ (base : Heap) (cdv : Value) (A : Around) (outer : List PySem.Env) (s0 : Shared) (H : Hp) (E : XK),
        A.guards = some [] → Room j (A.deeper (envOfC "law" (defScope st) s0.heap.objs.size fa cdv)) →
          PSs (cxOf (L2.CX l.prog w) l.prog w (K w.params) mg base N "law" (defScope st) fa cdv A outer s0 H E) (defBody st) (tS ⟨K w.params, cl, none, w⟩ (fun c d _ H' => E c d H') s))
    (hs : ∀ ns : List Int, ns.length ≤ n → (∀ i ∈ ns, Builtin.Int.intBits i ≤ 1048576) → ∃ env st', s (env0 N.length [.rol (ns.map .int)]) [] = some (.ret (.bl true), env, st')) :
    PySem.W.WalkO q loose XP YP l.row.toRowW d [] (fun f vs => PySem.call f vs) := by
  refine Att.attach_callB hn hdf fun w s₀ s₁ mg mb fa o pm cd doc a vs ns G Y ho hd hcd hmg hobj hints hlen hbits hg => ?_
  have KX := hY w _ Y
  obtain ⟨fd, FF, hb, cl, hF⟩ := F w mg fa _ KX G.T.g hmg
  refine law_at KX G.T.g G.T.b G.T.builtins G.T.nolimit hg hobj hints (Nat.le_trans hlen hn2) fun base H kb nb e0 hO hS => ?_
  obtain ⟨env, st', es⟩ := hs ns hlen hbits
  refine run_at (j := j) (ps := [x]) (vs := [.ref a]) (us := [.ref a]) FF Sc rfl (caller_room hj) e0 (hb _ _) (.cons rfl .nil) (fun cdv hr => hF base cdv callerA [] s₁ H _ rfl hr) ?_
  have hRo : RoL ⟨K w.params, cl, none, w⟩ H a (ns.map V.int) := by
    rcases hS with (h | h) | h
    · rcases hO a with z | ⟨ob, xs, z⟩
      · rw [h] at z
        cases z
      · rw [h] at z
        cases z
    · exact .inl h
    · exact .inr (.inr h)
  refine ⟨⟨[], fun _ => False⟩, _, [], _, ⟨List.nodup_nil, rfl, fun _ z => z.elim, fun _ _ z => z, fun i o p e => ?_⟩, RepE.begin (us := [.rol (ns.map .int)]) (RepL.cons ⟨a, ns.map V.int, rfl, hRo, RepL.map (f := Val.int) (g := V.int) (fun _ => rfl) _⟩ (show RepL _ _ _ [] [] from rfl)), es, ?_⟩
  · rw [List.getElem?_nil] at e
    cases e
  · exact fun W' H' u l o r => r
/-! ### repr -/
def reprV (st : Sto) : List Val → Option Val
  | [a] => match toD st a with
    | some d => if d.showable = true ∧ d.hasDict = false ∧ d.shown.length ≤ LIM ∧ d.depth ≤ 50 then some (.str d.shown) else none
    | none => none
  | _ => none
theorem leaf_repr {P : Program} {w : World} {A : Around} {E : Value → Shared → Prop} {s : Shared} {d : PyData} {v : Value} {as : List Addr} {Q : Value → Shared → Prop} (r : Reads s.heap v d as) (hs : d.showable = true) (hd : d.hasDict = false) (hg : A.guards = some []) (hu : A.units + (d.depth + 1) < cLine) (hz : d.shown.length ≤ sizeLine)
    (hQ : ∀ h' u tk, (∀ b o, s.heap.get? b = some o → h'.get? b = some o) → Q (.str d.shown u) { s with heap := h', toks := tk }) : wpAny (model P w) A (call (.builtin "repr") [v]) Q E s := by
  cases r with
  | list h1 h2 h3 h4 => exact repr_of_reads' (Reads.list h1 h2 h3 h4) hs (fun z => by rw [hd] at z; cases z) hg hu (fun _ _ h => h) hQ hz
  | tuple h1 h2 h3 h4 => exact repr_of_reads' (Reads.tuple h1 h2 h3 h4) hs (fun z => by rw [hd] at z; cases z) hg hu (fun _ _ h => h) hQ hz
  | none => exact PySem.P.repr_of_none (hQ _ _ _ fun _ _ h => h)
  | bool b => exact PySem.P.repr_of_bool (hQ _ _ _ fun _ _ h => h)
  | int i t => exact PySem.P.repr_of_int (of_decide_eq_true hs) (hQ _ _ _ fun _ _ h => h)
  | str x t => exact PySem.P.repr_of_str (hQ _ _ _ fun _ _ h => h) hz
  | dict h1 h2 h3 h4 h5 => cases hd
theorem call_reprD {X : Cx} (hG : X.A.guards = some []) (hu : X.A.units + 64 < cLine) : CallR X (.builtin "repr") (fun xs H Q => ∃ v d, xs = [v] ∧ Dp X.K H v d ∧ d.showable = true ∧ d.hasDict = false ∧ d.shown.length ≤ sizeLine ∧ d.depth ≤ 50 ∧ Q (.str d.shown) H) := by
  intro pins s σ H xs us Q I r h
  obtain ⟨v, d, rfl, hD, h1, h2, h3, h4, q⟩ := h
  obtain ⟨u, rfl, ru⟩ := vals1 r
  obtain ⟨as, rd⟩ := Dp.reads I d v u hD ru
  exact leaf_repr rd h1 h2 hG (by omega) h3 fun h' t tk k => ⟨.str d.shown, H, I.kept k, ⟨_, rfl⟩, q⟩
end Mi
namespace Mi
open PySem L2
/-! ### running the mirror -/
section
variable {α β : Type} {env e1 : Env} {st s1 : Sto} {a : α}
theorem bnd_ok {m : M α} {f : α → M β} (h : m env st = some (.ok a, s1)) : bnd m f env st = f a env s1 := by
  unfold bnd
  rw [h]
theorem sBnd_ok {m : M α} {f : α → S} (h : m env st = some (.ok a, s1)) : sBnd m f env st = f a env s1 := by
  unfold sBnd
  rw [h]
theorem sSeq_next {x y : S} (h : x env st = some (.next, e1, s1)) : sSeq x y env st = y e1 s1 := by
  unfold sSeq
  rw [h]
theorem sSeq_ret {x y : S} {v : Val} (h : x env st = some (.ret v, e1, s1)) : sSeq x y env st = some (.ret v, e1, s1) := by
  unfold sSeq
  rw [h]
theorem sSet_ok {m : M Val} {i : Nat} {v : Val} (h : m env st = some (.ok v, s1)) : sSet i m env st = some (.next, env.set i (some v), s1) := sBnd_ok h
theorem sRet_ok {m : M Val} {v : Val} (h : m env st = some (.ok v, s1)) : sRet m env st = some (.ret v, env, s1) := sBnd_ok h
theorem sExpr_ok {m : M Val} {v : Val} (h : m env st = some (.ok v, s1)) : sExpr m env st = some (.next, env, s1) := sBnd_ok h
theorem sIf_true {c : M Bool} {x y : S} (h : c env st = some (.ok true, s1)) : sIf c x y env st = x env s1 := by
  unfold sIf
  rw [sBnd_ok h]
  rfl
theorem sIf_false {c : M Bool} {x y : S} (h : c env st = some (.ok false, s1)) : sIf c x y env st = y env s1 := by
  unfold sIf
  rw [sBnd_ok h]
  rfl
theorem lift_ok {o : Sto → Option α} (h : o st = some a) : lift o env st = some (.ok a, st) := by
  unfold lift
  rw [h]
  rfl
theorem liftS_ok {o : Sto → Option (α × Sto)} (h : o st = some (a, s1)) : liftS o env st = some (.ok a, s1) := by
  unfold liftS
  rw [h]
  rfl
theorem bin_ok {f : Sto → Val → Val → Option Val} {ma mb : M Val} {x y z : Val} {s2 : Sto} (ha : ma env st = some (.ok x, s1)) (hb : mb env s1 = some (.ok y, s2)) (hf : f s2 x y = some z) : bin f ma mb env st = some (.ok z, s2) := by
  unfold bin
  rw [bnd_ok ha, bnd_ok hb]
  exact lift_ok hf
theorem un_ok {f : Sto → Val → Option Val} {ma : M Val} {x z : Val} (ha : ma env st = some (.ok x, s1)) (hf : f s1 x = some z) : un f ma env st = some (.ok z, s1) := by
  unfold un
  rw [bnd_ok ha]
  exact lift_ok hf
theorem asB_ok {m : M Val} {b : Bool} (h : m env st = some (.ok (.bl b), s1)) : asB m env st = some (.ok b, s1) := by
  unfold asB
  rw [bnd_ok h]
  rfl
theorem andB_ok {x y : M Bool} {b c : Bool} {s2 : Sto} (h : x env st = some (.ok b, s1)) (h2 : b = true → y env s1 = some (.ok c, s2)) (h3 : b = false → s2 = s1 ∧ c = false) : andB x y env st = some (.ok c, s2) := by
  unfold andB
  rw [bnd_ok h]
  cases b with
  | true => exact h2 rfl
  | false =>
    obtain ⟨e1, e2⟩ := h3 rfl
    rw [e1, e2]
    rfl
theorem orB_ff {x y : M Bool} {c : Bool} {s2 : Sto} (h : x env st = some (.ok false, s1)) (h2 : y env s1 = some (.ok c, s2)) : orB x y env st = some (.ok c, s2) := by
  unfold orB
  rw [bnd_ok h]
  exact h2
theorem notB_ok {x : M Bool} {b : Bool} (h : x env st = some (.ok b, s1)) : notB x env st = some (.ok (!b), s1) := by
  unfold notB
  rw [bnd_ok h]
  rfl
theorem consM_ok {m : M Val} {ms : M (List Val)} {v : Val} {vs : List Val} {s2 : Sto} (h : m env st = some (.ok v, s1)) (h2 : ms env s1 = some (.ok vs, s2)) : consM m ms env st = some (.ok (v :: vs), s2) := by
  unfold consM
  rw [bnd_ok h, bnd_ok h2]
  rfl
theorem nilM_ok : nilM env st = some (.ok [], st) := rfl
theorem app_ok {f : Sto → List Val → Option Val} {ms : M (List Val)} {vs : List Val} {z : Val} (h : ms env st = some (.ok vs, s1)) (hf : f s1 vs = some z) : app f ms env st = some (.ok z, s1) := by
  unfold app
  rw [bnd_ok h]
  exact lift_ok hf
theorem callM_ok {n : Nat} {c : CF} {ds : List Val} {ms : M (List Val)} {vs : List Val} {z : Val} {s2 : Sto} (h : ms env st = some (.ok vs, s1)) (hn : (vs ++ ds).length = n) (hc : c (vs ++ ds) s1 = some (.ok z, s2)) : callM n c ds ms env st = some (.ok z, s2) := by
  unfold callM
  rw [bnd_ok h]
  show (if (vs ++ ds).length = n then c (vs ++ ds) s1 else none) = _
  rw [if_pos hn]
  exact hc
theorem callS_ret {N : Nat} {s : S} {us : List Val} {v : Val} (h : s (env0 N us) st = some (.ret v, e1, s1)) : callS N s us st = some (.ok v, s1) := by
  unfold callS
  rw [h]
theorem mkLst_ok {ms : M (List Val)} {vs : List Val} (h : ms env st = some (.ok vs, s1)) (hl : vs.length ≤ LIM) : mkLst ms env st = some (.ok (.lst vs), s1) := by
  unfold mkLst
  rw [bnd_ok h]
  exact lift_ok (if_pos hl)
theorem mkLstM_ok {ms : M (List Val)} {vs : List Val} (h : ms env st = some (.ok vs, s1)) (hl : vs.length ≤ LIM) : mkLstM ms env st = some (.ok (.ref s1.length), s1 ++ [.lst vs]) := by
  unfold mkLstM
  rw [bnd_ok h]
  exact liftS_ok (if_pos hl)
theorem lm_ok {f : Sto → Val → List Val → Option (Val × Sto)} {mo : M Val} {ms : M (List Val)} {x z : Val} {xs : List Val} {vs : List Val} {s2 s3 : Sto} (ha : mo env st = some (.ok x, s1)) (hl : lstOf s1 x = some xs) (hb : ms env s1 = some (.ok vs, s2)) (hf : f s2 x vs = some (z, s3)) : lm f mo ms env st = some (.ok z, s3) := by
  unfold lm
  rw [bnd_ok ha]
  have h1 : (lift fun st => isLst st x) env s1 = some (.ok (), s1) := by
    refine lift_ok ?_
    show isLst s1 x = some ()
    unfold isLst
    rw [hl]
  rw [bnd_ok h1, bnd_ok hb]
  exact liftS_ok hf
end
/-! ### == -/
theorem toD0s_ints : ∀ ns : List Int, toD0s (ns.map Val.int) = some (ns.map PyData.int)
  | [] => rfl
  | n :: ns => by
    show (match toD0 (.int n), toD0s (ns.map Val.int) with | some d, some ds => some (d :: ds) | _, _ => none) = _
    rw [toD0s_ints ns]
    rfl
theorem canAll_ints : ∀ ns : List Int, PyData.canLayAll0 (ns.map PyData.int) = true
  | [] => rfl
  | n :: ns => by
    show (PyData.canLay0 (.int n) && PyData.canLayAll0 (ns.map PyData.int)) = true
    rw [canAll_ints ns]
    rfl
theorem depth_ints : ∀ ns : List Int, PyData.depthAll (ns.map PyData.int) ≤ 1
  | [] => Nat.zero_le _
  | n :: ns => by
    have := depth_ints ns
    show max (PyData.depth (.int n)) (PyData.depthAll (ns.map PyData.int)) ≤ 1
    simp [PyData.depth]
    omega
theorem shaped_ints (ns : List Int) : SeqAt.shaped (.list (ns.map PyData.int)) = true := by
  have h := depth_ints ns
  unfold SeqAt.shaped
  show (PyData.canLayAll0 (ns.map PyData.int) && decide (PyData.depthAll (ns.map PyData.int) + 1 ≤ 64)) = true
  rw [canAll_ints]
  simp
  omega
theorem eqV_int (st : Sto) (i j : Int) : eqV st (.int i) (.int j) = some (.bl (i == j)) := rfl
/-- deal[0] != [] -/
theorem neV_nil {st : Sto} {c : Nat} {ns : List Int} (h : st[c]? = some (.lst (ns.map .int))) : neV st (.ref c) (.lst []) = some (.bl (!ns.isEmpty)) := by
  have e1 : toD st (.ref c) = some (.list (ns.map PyData.int)) := by
    show (match st[c]? with | some (.lst xs) => (toD0s xs).map PyData.list | _ => none) = _
    rw [h]
    show (toD0s (ns.map Val.int)).map PyData.list = _
    rw [toD0s_ints]
    rfl
  show neD st (.ref c) (.lst []) = _
  unfold neD
  rw [e1]
  show (if SeqAt.shaped (.list (ns.map PyData.int)) = true ∧ SeqAt.shaped (.list []) = true then some (Val.bl (!(PyData.list (ns.map PyData.int)).eqv (.list []))) else none) = _
  rw [if_pos ⟨shaped_ints ns, rfl⟩]
  cases ns <;> rfl
/-! ### loops and comprehensions -/
theorem loop_inv {t : Tg} {body : S} (I : Nat → Env → Sto → Prop) : ∀ (xs : List Val) (n : Nat) {env : Env} {st : Sto}, I n env st →
    (∀ i x env st, xs[i]? = some x → I (n + i) env st → ∃ env1, bindT t x env = some env1 ∧ ∃ env2 st2, (body env1 st = some (.next, env2, st2) ∨ body env1 st = some (.cont, env2, st2)) ∧ I (n + i + 1) env2 st2) →
    ∃ env' st', loop t body xs env st = some (.next, env', st') ∧ I (n + xs.length) env' st'
  | [], n, env, st, h0, _ => ⟨env, st, rfl, h0⟩
  | x :: xs, n, env, st, h0, hs => by
    obtain ⟨env1, e1, env2, st2, eb, h1⟩ := hs 0 x env st rfl h0
    obtain ⟨env', st', e2, h2⟩ := loop_inv I xs (n + 1) (env := env2) (st := st2) h1 fun i y env st hy hI => by
      have hI' : I (n + (i + 1)) env st := by
        rw [show n + (i + 1) = n + 1 + i by omega]
        exact hI
      obtain ⟨a, b, c, d, e, f⟩ := hs (i + 1) y env st hy hI'
      refine ⟨a, b, c, d, e, ?_⟩
      rw [show n + 1 + i + 1 = n + (i + 1) + 1 by omega]
      exact f
    refine ⟨env', st', ?_, ?_⟩
    · unfold loop
      rw [e1]
      dsimp only
      rcases eb with eb | eb
      · rw [eb]
        exact e2
      · rw [eb]
        exact e2
    · rw [List.length_cons, show n + (xs.length + 1) = n + 1 + xs.length by omega]
      exact h2
theorem sFor_inv {mi : M (List Val)} {t : Tg} {body : S} (I : Nat → Env → Sto → Prop) {xs : List Val} {env : Env} {st s1 : Sto} (hm : mi env st = some (.ok xs, s1)) (h0 : I 0 env s1)
    (hs : ∀ i x env st, xs[i]? = some x → I i env st → ∃ env1, bindT t x env = some env1 ∧ ∃ env2 st2, (body env1 st = some (.next, env2, st2) ∨ body env1 st = some (.cont, env2, st2)) ∧ I (i + 1) env2 st2) :
    ∃ env' st', sFor mi t body env st = some (.next, env', st') ∧ I xs.length env' st' := by
  obtain ⟨e, s, h1, h2⟩ := loop_inv I xs 0 h0 fun i x env st hx hI => by
    have hI' : I i env st := by simpa using hI
    obtain ⟨a, b, c, d, e, f⟩ := hs i x env st hx hI'
    exact ⟨a, b, c, d, e, by simpa using f⟩
  refine ⟨e, s, ?_, by simpa using h2⟩
  unfold sFor
  rw [sBnd_ok hm]
  exact h1
theorem compLoop_pure {t : Tg} {own : List Nat} {cond : M Bool} {elt : M Val} {p : Val → Bool} {f : Val → Val} : ∀ {xs : List Val} {env : Env} {st : Sto},
    (∀ x ∈ xs, ∃ env1, bindT t x (wipeE env own) = some env1 ∧ cond env1 st = some (.ok (p x), st) ∧ (p x = true → elt env1 st = some (.ok (f x), st))) → compLoop t own cond elt xs env st = some (.ok ((xs.filter p).map f), st)
  | [], _, _, _ => rfl
  | x :: xs, env, st, h => by
    obtain ⟨env1, e1, e2, e3⟩ := h x List.mem_cons_self
    have ih := compLoop_pure (t := t) (own := own) (cond := cond) (elt := elt) (p := p) (f := f) (xs := xs) (env := env) (st := st) fun y hy => h y (List.mem_cons_of_mem _ hy)
    unfold compLoop
    rw [e1]
    dsimp only
    rw [e2]
    cases hp : p x with
    | true =>
      dsimp only
      rw [e3 hp]
      dsimp only
      rw [ih]
      rw [List.filter_cons_of_pos hp]
      rfl
    | false =>
      dsimp only
      rw [ih, List.filter_cons_of_neg (by rw [hp]; exact Bool.false_ne_true)]
theorem comp_pure {mi : M (List Val)} {t : Tg} {own : List Nat} {cond : M Bool} {elt : M Val} {p : Val → Bool} {f : Val → Val} {xs : List Val} {env : Env} {st s1 : Sto} (hm : mi env st = some (.ok xs, s1)) (hl : xs.length ≤ LIM)
    (h : ∀ x ∈ xs, ∃ env1, bindT t x (wipeE env own) = some env1 ∧ cond env1 s1 = some (.ok (p x), s1) ∧ (p x = true → elt env1 s1 = some (.ok (f x), s1))) : comp mi t own cond elt env st = some (.ok (.lst ((xs.filter p).map f)), s1) := by
  have e : compM mi t own cond elt env st = some (.ok ((xs.filter p).map f), s1) := by
    unfold compM
    rw [bnd_ok hm]
    show (if xs.length ≤ LIM then compLoop t own cond elt xs env s1 else none) = _
    rw [if_pos hl]
    exact compLoop_pure h
  unfold comp
  rw [bnd_ok e]
  rfl
theorem comp_map {mi : M (List Val)} {t : Tg} {own : List Nat} {elt : M Val} {f : Val → Val} {xs : List Val} {env : Env} {st s1 : Sto} (hm : mi env st = some (.ok xs, s1)) (hl : xs.length ≤ LIM)
    (h : ∀ x ∈ xs, ∃ env1, bindT t x (wipeE env own) = some env1 ∧ elt env1 s1 = some (.ok (f x), s1)) : comp mi t own yes elt env st = some (.ok (.lst (xs.map f)), s1) := by
  have q := comp_pure (p := fun _ => true) (cond := yes) (elt := elt) (t := t) (own := own) (f := f) hm hl fun x hx => by
    obtain ⟨e, h1, h2⟩ := h x hx
    exact ⟨e, h1, rfl, fun _ => h2⟩
  rw [List.filter_eq_self.mpr (fun _ _ => rfl)] at q
  exact q
/-- the turns change the store -/
theorem compLoop_inv {t : Tg} {own : List Nat} {elt : M Val} (I : List Val → Sto → Prop) : ∀ {xs done : List Val} {env : Env} {st : Sto}, I done st →
    (∀ done x st, x ∈ xs → I done st → ∃ env1, bindT t x (wipeE env own) = some env1 ∧ ∃ y st2, elt env1 st = some (.ok y, st2) ∧ I (done ++ [y]) st2) → ∃ ys st', compLoop t own yes elt xs env st = some (.ok ys, st') ∧ I (done ++ ys) st' ∧ ys.length = xs.length
  | [], done, env, st, h0, _ => ⟨[], st, rfl, by rw [List.append_nil]; exact h0, rfl⟩
  | x :: xs, done, env, st, h0, hs => by
    obtain ⟨env1, e1, y, st2, e2, h1⟩ := hs done x st List.mem_cons_self h0
    obtain ⟨ys, st', e3, h2, h3⟩ := compLoop_inv I (xs := xs) (env := env) h1 fun d z s hz hI => hs d z s (List.mem_cons_of_mem _ hz) hI
    refine ⟨y :: ys, st', ?_, ?_, by simp [h3]⟩
    · unfold compLoop
      rw [e1]
      dsimp only
      show (match elt env1 st with | some (.ok y, st2) => (match compLoop t own yes elt xs env st2 with | some (.ok ys, st3) => some ((.ok (y :: ys) : Except Exc (List Val)), st3) | _ => none) | _ => none) = _
      rw [e2]
      dsimp only
      rw [e3]
    · rw [List.append_assoc] at h2
      exact h2
theorem comp_inv {mi : M (List Val)} {t : Tg} {own : List Nat} {elt : M Val} (I : List Val → Sto → Prop) {xs : List Val} {env : Env} {st s1 : Sto} (hm : mi env st = some (.ok xs, s1)) (hl : xs.length ≤ LIM) (h0 : I [] s1)
    (hs : ∀ done x st, x ∈ xs → I done st → ∃ env1, bindT t x (wipeE env own) = some env1 ∧ ∃ y st2, elt env1 st = some (.ok y, st2) ∧ I (done ++ [y]) st2) : ∃ ys st', comp mi t own yes elt env st = some (.ok (.lst ys), st') ∧ I ys st' ∧ ys.length = xs.length := by
  obtain ⟨ys, st', e, h1, h2⟩ := compLoop_inv I (xs := xs) (env := env) (t := t) (own := own) (elt := elt) h0 hs
  refine ⟨ys, st', ?_, h1, h2⟩
  have e' : compM mi t own yes elt env st = some (.ok ys, st') := by
    unfold compM
    rw [bnd_ok hm]
    show (if xs.length ≤ LIM then compLoop t own yes elt xs env s1 else none) = _
    rw [if_pos hl]
    exact e
  unfold comp
  rw [bnd_ok e']
  rfl
theorem rng1_ok {ms : M (List Val)} {env : Env} {st s1 : Sto} {j : Int} (h : ms env st = some (.ok [.int j], s1)) (h0 : -(2 ^ 62) ≤ j) (h1 : j < 2 ^ 62) : rng1 ms env st = some (.ok ((List.range j.toNat).map fun (i : Nat) => .int (0 + i)), s1) := by
  unfold rng1
  rw [bnd_ok h]
  exact lift_ok (if_pos ⟨h0, h1⟩)
theorem itS_ok {m : M Val} {env : Env} {st s1 : Sto} {v : Val} {xs : List Val} (h : m env st = some (.ok v, s1)) (hv : stillOf v = some xs) : itS m env st = some (.ok xs, s1) := by
  unfold itS
  rw [bnd_ok h]
  exact lift_ok hv
theorem enumM_ok {ms : M (List Val)} {env : Env} {st s1 : Sto} {v : Val} {xs : List Val} (h : ms env st = some (.ok [v], s1)) (hv : seqStill v = some xs) : enumM ms env st = some (.ok (pairs xs), s1) := by
  unfold enumM
  rw [bnd_ok h]
  refine lift_ok ?_
  show (seqStill v).map pairs = _
  rw [hv]
  rfl
end Mi
namespace Mi
open PySem PySem.Spec PyProof.Rows L2
/-! ### values that speak of no store object -/
mutual
def noRef : Val → Bool
  | .non | .bl _ | .int _ | .str _ => true
  | .tup xs | .lst xs | .rol xs | .tpd xs => noRefs xs
  | .ins _ _ xs => noRefs xs
  | .ref _ => false
  | .exv _ _ _ => false
  | .cls _ => true
def noRefs : List Val → Bool
  | [] => true
  | x :: xs => noRef x && noRefs xs
end
mutual
/-- nor of a frozen list -/
def still : Val → Bool
  | .non | .bl _ | .int _ | .str _ => true
  | .tup xs | .rol xs | .tpd xs => stills xs
  | .ins _ _ xs => stills xs
  | .lst _ | .ref _ => false
  | .exv _ _ _ => false
  | .cls _ => true
def stills : List Val → Bool
  | [] => true
  | x :: xs => still x && stills xs
end
section
variable {k : Kx} {W W' : Wd} {H H' : Hp} {x : Addr → Prop}
mutual
/-- in any world that freezes as much -/
theorem RepV.other {W2 : Wd} (ef : ∀ p, W.fz p → W2.fz p) : ∀ {v : Val} {u : V}, RepV k W H v u → noRef v = true → RepV k W2 H v u
  | .non, _, h, _ => h
  | .bl _, _, h, _ => h
  | .int _, _, h, _ => h
  | .str _, _, h, _ => h
  | .tup xs, _, h, n => by
    obtain ⟨p, vs, e, s, r⟩ := h
    exact ⟨p, vs, e, s, RepL.other ef r n⟩
  | .lst xs, _, h, n => by
    obtain ⟨p, vs, e, f, s, r⟩ := h
    exact ⟨p, vs, e, ef _ f, s, RepL.other ef r n⟩
  | .rol xs, _, h, n => by
    obtain ⟨p, vs, e, s, r⟩ := h
    exact ⟨p, vs, e, s, RepL.other ef r n⟩
  | .ins c ks xs, _, h, n => by
    obtain ⟨p, dx, vs, e, f, s, n1, r⟩ := h
    exact ⟨p, dx, vs, e, ef _ f, s, n1, RepL.other ef r n⟩
  | .ref i, _, _, n => nomatch n
  | .exv _ _ _, _, _, n => nomatch n
  | .cls _, _, h, _ => h
  | .tpd xs, _, h, n => by
    obtain ⟨p, o, vs, e, s, d, r⟩ := h
    exact ⟨p, o, vs, e, s, d, RepL.other ef r n⟩
theorem RepL.other {W2 : Wd} (ef : ∀ p, W.fz p → W2.fz p) : ∀ {v : List Val} {u : List V}, RepL k W H v u → noRefs v = true → RepL k W2 H v u
  | [], _, h, _ => h
  | y :: ys, _, h, n => by
    obtain ⟨v, r, e, h1, h2⟩ := h
    have n' := Bool.and_eq_true_iff.mp n
    exact ⟨v, r, e, RepV.other ef h1 n'.1, RepL.other ef h2 n'.2⟩
end
/-- a callee's world: nothing to write at but what is new -/
def Wd.sub (W : Wd) (b : Bool) (H : Hp) (l : List Addr) : Wd := ⟨l, fun p => W.fz p ∨ (b = true ∧ p ∈ W.rho ∧ ∃ vs, H p = some (.lst vs))⟩
/-- the list that a name stands for, frozen as long as the callee runs -/
def snap (st : Sto) (a : Val) : Option Val := if noRef a then some a else match a with
  | .ref i => match st[i]? with
    | some (.lst xs) => if noRefs xs then some (.lst xs) else none
    | _ => none
  | _ => none
def snaps (st : Sto) : List Val → Option (List Val)
  | [] => some []
  | x :: xs => match snap st x, snaps st xs with
    | some y, some ys => some (y :: ys)
    | _, _ => none
theorem Ok.sub {st : Sto} {b : Bool} (o : Ok k W H st) : Ok k (W.sub b H []) H [] := by
  refine ⟨List.nodup_nil, rfl, fun p f => ?_, fun p m => ?_, fun i u q e => ?_⟩
  · rcases f with f | ⟨_, _, vs, e⟩
    · exact o.fzs p f
    · rw [e]
      exact fun z => nomatch z
  · exact nomatch m
  · rw [List.getElem?_nil] at e
    cases e
end
/-! ### calls that leave the store as it was -/
def outN (st : Sto) : Option (Except Exc Val × Sto) → Res Val
  | some (.ok v, _) => if noRef v then some (.ok v, st) else none
  | some (.error x, _) => if noRefs x.xs then some (.error x, st) else none
  | none => none
def outB (st : Sto) : Option (Except Exc Val × Sto) → Res Val
  | some (.ok v, _) => if still v then some (.ok v, st) else none
  | some (.error x, _) => if stills x.xs then some (.error x, st) else none
  | none => none
/-- us: all arguments -/
def runP (c : CF) (us : List Val) (st : Sto) : Res Val := if noRefs us then outN st (c us []) else match snaps st us with
  | some ws => outB st (c ws [])
  | none => none
def callP (n : Nat) (c : CF) (ds : List Val) (ms : M (List Val)) : M Val := bnd ms fun us _ st => if (us ++ ds).length = n then runP c (us ++ ds) st else none
end Mi
namespace Mi
open PySem PySem.Spec PyProof.Rows L2
/-! ### attributes -/
def fieldOf (f : Str) : List Str → List Val → Option Val
  | g :: ks, x :: xs => if f == g then some x else fieldOf f ks xs
  | _, _ => none
/-- a field is written: the names, the values -/
def putK (f : Str) : List Str → List Str
  | [] => [f]
  | g :: ks => if g = f then g :: ks else g :: putK f ks
def putX (f : Str) (y : Val) : List Str → List Val → List Val
  | [], _ => [y]
  | g :: ks, x :: xs => if g = f then y :: xs else x :: putX f y ks xs
  | _ :: _, [] => []
section
variable {k : Kx} {W : Wd} {H : Hp}
theorem fieldOf_rep {f : Str} : ∀ {ks : List Str} {xs : List Val} {vs : List V} {x : Val}, RepL k W H xs vs → fieldOf f ks xs = some x → ∃ v, (ks.zip vs).lookup f = some v ∧ RepV k W H x v
  | [], xs, vs, x, _, e => by cases e
  | g :: ks, [], vs, x, _, e => by cases e
  | g :: ks, y :: xs, vs, x, r, e => by
    obtain ⟨v, u, rfl, r1, r2⟩ := r
    unfold fieldOf at e
    show ∃ w, List.lookup f ((g, v) :: ks.zip u) = some w ∧ _
    rw [List.lookup_cons]
    cases q : f == g with
    | true =>
      rw [q] at e
      cases e
      exact ⟨v, rfl, r1⟩
    | false =>
      rw [q] at e
      exact fieldOf_rep r2 e
end
/-- o.f = v -/
def sFldV (own : Str → Bool) (f : Str) (mo mv : M Val) : S := sBnd mv fun y => sBnd mo fun a env st => match a with
  | .ref i => match st[i]? with
    | some (.ins c ks xs) => if own c = true ∧ ks.length < 900 then some (.next, env, st.set i (.ins c (putK f ks) (putX f y ks xs))) else none
    | _ => none
  | _ => none
section
variable {X : Cx} {k : Kx} {E : WX} {pos p : Pos} {e o : Expr} {es : List Expr} {ms : M (List Val)}
/-! ### methods -/
/-- the class of an instance, its fields' names -/
def clsAt (st : Sto) : Val → Option (Str × List Str)
  | .ins c ks _ => some (c, ks)
  | .ref i => match st[i]? with
    | some (.ins c ks _) => some (c, ks)
    | _ => none
  | _ => none
def isOf (c m : Str) (st : Sto) (a : Val) : Bool := match clsAt st a with
  | some (c', ks) => c' == c && !ks.contains m
  | none => false
/-- o.m(..): P: the store stays; M: with the store -/
def methP (c m : Str) (n : Nat) (cf : CF) (ds : List Val) (mo : M Val) (ms : M (List Val)) : M Val := bnd mo fun a => fun env st => if isOf c m st a then bnd ms (fun us _ st => if (a :: (us ++ ds)).length = n then runP cf (a :: (us ++ ds)) st else none) env st else none
def methM (c m : Str) (n : Nat) (cf : CF) (ds : List Val) (mo : M Val) (ms : M (List Val)) : M Val := bnd mo fun a => fun env st => if isOf c m st a then bnd ms (fun us _ st => if (a :: (us ++ ds)).length = n then cf (a :: (us ++ ds)) st else none) env st else none
theorem nil_read {σ : L2.St} {H : Hp} {Q : List V → Hp → Prop} (h : tMa k E nilM σ H Q) : tNil σ H Q := by
  obtain ⟨W, env, st, o, h1, h2, h3, h4⟩ := h
  cases h3
  exact h4 W H [] (Le.refl _ _) h1 rfl
/-! ### instances made -/
/-- C(..), an instance that never changes: what __init__ leaves at its store's first place -/
def outMk (c : Str) (q : List Val → Bool) (st : Sto) : Option (Except Exc Val × Sto) → Res Val
  | some (.ok .non, st') => match (st' : List SO)[0]? with
    | some (SO.ins c' ks xs) => if c' = c ∧ q xs = true then some (.ok (.ins c ks xs), st) else none
    | _ => none
  | some (.ok _, _) => none
  | some (.error x, _) => if q x.xs then some (.error x, st) else none
  | none => none
def runMk (c : Str) (cf : CF) (us : List Val) (st : Sto) : Res Val := if noRefs us then outMk c noRefs st (cf (.ref 0 :: us) [.ins c [] []]) else match snaps st us with
  | some ws => outMk c stills st (cf (.ref 0 :: ws) [.ins c [] []])
  | none => none
def makeP (c : Str) (n : Nat) (cf : CF) (ds : List Val) (ms : M (List Val)) : M Val := bnd ms fun us _ st => if (us ++ ds).length + 1 = n then runMk c cf (us ++ ds) st else none
/-- one that changes -/
def makeM (c : Str) (n : Nat) (cf : CF) (ds : List Val) (ms : M (List Val)) : M Val := bnd ms fun us _ st => if (us ++ ds).length + 1 = n then match cf (.ref st.length :: (us ++ ds)) (st ++ [.ins c [] []]) with
  | some (.ok .non, st') => some (.ok (.ref st.length), st')
  | some (.ok _, _) => none
  | some (.error x, st') => some (.error x, st')
  | none => none else none
theorem Ok.begin {c : Str} {b : Bool} {W : Wd} {H : Hp} {st : Sto} {x dx : Addr} (o : Ok k W H st) (hx : H x = none) (hd : H dx = none) (ne : dx ≠ x) : Ok k (W.sub b H [x]) (upd (upd H dx (.own x)) x (.ins (k.cl c) dx [])) [.ins c [] []] := by
  refine ⟨by simp [Wd.sub], rfl, fun p f => ?_, fun p m f => ?_, fun i u q e1 e2 => ?_⟩
  · have hn : H p ≠ none := by
      rcases f with f | ⟨_, _, vs, e⟩
      · exact o.fzs p f
      · rw [e]
        exact fun z => nomatch z
    exact upd_dom (upd_dom hn)
  · have e : p = x := List.mem_singleton.mp m
    subst e
    rcases f with f | ⟨_, _, vs, e⟩
    · exact o.fzs p f hx
    · rw [hx] at e
      cases e
  · cases i with
    | zero =>
      cases e1
      cases e2
      exact ⟨dx, [], upd_same, rfl, rfl⟩
    | succ i => simp at e1
end
end Mi
namespace Mi
open PySem PySem.Spec PyProof.Rows L2
/-! ### f-strings -/
end Mi
namespace Mi
open PySem PySem.Spec PyProof.Rows L2
/-! ### != by an own __eq__ -/
/-! ### special methods of an own class -/
end Mi
namespace Mi
open PySem PySem.Spec PyProof.Rows L2
end Mi
namespace Mi
open PySem PySem.Spec PyProof.Rows L2
/-- the statements of a class -/
def clsB (s : Stmt) : List Stmt := match s with
  | .ClassDef _ _ _ b _ _ _ _ _ _ _ => b
  | _ => []
/-! ### an expression asked over what stands now: lists of the store are read alone -/
/-! ### tables of the own classes -/
def ownL (cs : List Str) (c : Str) : Bool := cs.contains c
theorem ownL_nil {P : Str → Prop} : ∀ c, ownL [] c = true → P c := fun _ h => nomatch h
theorem ownL_cons {P : Str → Prop} {a : Str} {cs : List Str} (h : P a) (r : ∀ c, ownL cs c = true → P c) : ∀ c, ownL (a :: cs) c = true → P c := fun c hc => by
  have e : (c == a || cs.contains c) = true := by
    rw [← List.contains_cons]
    exact hc
  rcases Bool.or_eq_true_iff.mp e with e | e
  · rw [eq_of_beq e]
    exact h
  · exact r c e
def ownT {α : Type} (cs : List (Str × α)) (c : Str) : Option α := cs.lookup c
theorem ownT_nil {α : Type} {P : Str → α → Prop} : ∀ c f, ownT [] c = some f → P c f := fun _ _ h => nomatch h
theorem ownT_cons {α : Type} {P : Str → α → Prop} {a : Str} {g : α} {cs : List (Str × α)} (h : P a g) (r : ∀ c f, ownT cs c = some f → P c f) : ∀ c f, ownT ((a, g) :: cs) c = some f → P c f := fun c f hc => by
  unfold ownT at hc
  rw [List.lookup_cons] at hc
  split at hc
  · rename_i e
    rw [eq_of_beq e]
    cases hc
    exact h
  · exact r c f hc
theorem rl_nil {k : Kx} {W : Wd} {H : Hp} : RepL k W H [] [] := rfl
end Mi
namespace Mi
open PySem L2
section
variable {env : Env} {st s1 s2 s3 : Sto}
theorem lstOf_ref {i : Nat} {xs : List Val} (h : st[i]? = some (.lst xs)) : lstOf st (.ref i) = some xs := by
  show (match st[i]? with | some (.lst xs) => some xs | _ => none) = _
  rw [h]
end
end Mi
namespace Mi
open PySem PySem.W PySem.Calls PyProof.Rows Builtin Builtin.ObjectAttr
/-! ### error classes of the text: super().__init__(x); self.f = x -/
/-- the two rows of such an __init__ -/
structure SupB (x f : Str) (body : List Stmt) : Prop where
  ex : ∃ p0 p1 p2 p3 p4 p5 p6 p7 p8 p9, (∀ env : PySem.Env, ∃ pl : Sem Bool, PySem.eval (.Call (.Attribute (.Call (.Name "super" p0) [] [] p1) "__init__" p2) [.Name x p3] [] p4) env = (do
      let ov ← attributeBase (.Call (.Name "super" p0) [] [] p1) "__init__" env (PySem.eval (.Call (.Name "super" p0) [] [] p1) env)
      standAt p2.atName
      let (fu, first) ← holding [ov] (getMethod ov "__init__" pl)
      callWith p4 fu first (backTo p4 (starEach [.Name x p3] env)) [])) ∧ body = [.Expr (.Call (.Attribute (.Call (.Name "super" p0) [] [] p1) "__init__" p2) [.Name x p3] [] p4) p5, .Assign [.Attribute (.Name "self" p6) f p7] (.Name x p8) p9]
structure SupS (x : Str) (sc : Scope) : Prop where
  ks : sc.names.lookup ("super" : Str) = some .globalImplicit
  kc : sc.names.lookup ("__class__" : Str) = some .free
  k0 : sc.names.lookup ("self" : Str) = some .local
  kx : sc.names.lookup x = some .local
  nc : ∀ y ∈ sc.names, y.2 ≠ .cell
  co : sc.isCoroutine = false
  gn : sc.isGenerator = false
  kd : sc.kind = .function
/-- what the written part says of the class C whose __init__ stands at fI -/
structure SupC (prog : Program) (K : Frag) (mg : Str → Option Value) (x f : Str) (B newId i : String) (bmB : List Value) (C fI : Addr) : Prop where
  fb : ExcBaseFacts B newId i bmB
  kf : KxsFacts B i
  sf : StoreFacts B bmB "object.__setattr__" "object"
  q : excInitIn K C bmB newId = true
  ov : excOver K C bmB = true
  hd : ∃ cd, clsIn K C = some cd ∧ cd.hasDict = true
  su : ks_superIn K C C "__init__" = some (some (.builtin i))
  op : nsIn K cStatics "thirdparty.any" = some none
  sb : subIn K (.ref C) (.type B) = some true
  sc : mroIn K C (.ref C) = some true
  sa : findIn K (.ref C) "__setattr__" = some (some (.builtin "object.__setattr__"))
  no : takerIn K C f = some none
  bx : subIn K (.ref C) (.type "BaseException") = some true
  ty : typeIn K (.ref C) = some (.type "type")
  kp : keepIn K (.ref C) = true
  ic : findIn K (.ref C) "__init__" = some (some (.ref fI))
  it : typeIn K (.ref fI) = some (.type "function")
  fn : ∃ oc od osl qual params body scope dV kV doc pm an cda ct cc ccl cdd vs ccs file tf cl cld csl, K.lookup fI = some ⟨oc, od, .func (ksFn "__init__" qual params body scope dV kV doc pm an (.ref cda) ct cc), osl⟩ ∧ codeIn K (.ref cda) qual = true ∧
    SupB x f body ∧ SupS x scope ∧ (params.posonlyargs ++ params.args).head?.map (·.arg) = some ("self" : Str) ∧ (∀ a b : Value, bindArgs (ksFn "__init__" qual params body scope dV kV doc pm an (.ref cda) ct cc) ⟨[a, b], []⟩ = (pure [(("self" : Str), a), (x, b)] : Sem (List (Str × Value)))) ∧
    (∀ a b : Value, bindArgs (ksFn "__init__" qual params body scope dV kV doc pm an (.ref cda) ct cc) ⟨[a], [(x, b)]⟩ = (pure [(("self" : Str), a), (x, b)] : Sem (List (Str × Value)))) ∧
    K.lookup cda = some ⟨ccl, cdd, .fields vs, ccs⟩ ∧ vs[2]? = some (.str file tf) ∧ ((prog.main.file : Str) == file) = true ∧ K.lookup cc = some ⟨cl, cld, .cell (some (.ref C)), csl⟩
  sg : mg "super" = none
  tp : (prog.main.scope.names.lookup ("super" : Str)).isSome = false
  xs : (x == ("self" : Str)) = false
  xd : (x == ("__debug__" : Str)) = false
section
variable {prog : Program} {w : World} {A : Around} {E : Value → Shared → Prop} {R : Result → Shared → Prop} {K : Frag} {mg : Str → Option Value} {x f : Str} {B newId i : String} {bmB : List Value} {C fI : Addr}
variable {hp : Heap} {g : Array GenState} {d : Drawn} {t : Nat} {os : OsState}
/-- a field stored at an error that has no dict -/
theorem sup_store (S : SupC prog K mg x f B newId i bmB C fI) {e : Addr} {fv : Array Value} {v : Value} {Q : Unit → Shared → Prop} (X : K.In hp) (he : hp.get? e = some { cls := .ref C, data := .fields fv })
    (hq : ∀ h' tk' dx, (∀ b o, b ≠ e → hp.get? b = some o → h'.get? b = some o) → hp.objs.size ≤ dx → dx ≠ e → h'.get? e = some { cls := .ref C, dict := some dx, data := .fields fv } →
      h'.Ns1 dx (fun y => if y = f then some v else none) → Q () ⟨h', g, d, tk', os⟩) :
    wpAny (model prog w) A (setAttr (.ref e) f v) Q E ⟨hp, g, d, t, os⟩ := by
  have I : InstAt hp e { cls := .ref C, data := .fields fv } C none := ⟨he, rfl, rfl, trivial⟩
  refine set_plain X I S.sa (osa_openX S.sf X I S.ov S.no fun b => ?_)
  obtain ⟨cd, hcd, hh⟩ := S.hd
  have hxs : e ≠ hp.objs.size := Nat.ne_of_lt (Heap.lt_size he)
  have hcls : Looks (model prog w) hp (classData C) cd := looks_clsIn X hcd
  dsimp only
  obtain ⟨nm, bs, mro, ns, qn, hd, sn, sb, ab, col, del⟩ := cd
  dsimp only at hh
  subst hh
  unfold storeInOwnDict ownDictForStores
  repeat (first | with_reducible refine HandSPX.store_in_new ?_ ?_ | with_reducible refine wpAny_loadPart_at he ?_ | with_reducible refine hcls.at ?_ | wp_step)
  · exact ⟨_, #[], _, (Heap.get?_update_ne _ _ _ _ hxs.symm).trans (Heap.get?_push_at rfl rfl), rfl, fun e he => absurd he (by simp), fun _ => rfl⟩
  · intro h' tk' hn' hs
    have he1 : (hp.push { cls := .type "dict", data := .dict #[] }).get? e = some { cls := .ref C, data := .fields fv } := Heap.get?_push_of_some _ he
    refine hq h' tk' hp.objs.size (fun b o hb ho => ?_) (Nat.le_refl _) hxs.symm ?_ hn'
    · exact (hs.2 b (Nat.ne_of_lt (Heap.lt_size ho))).trans ((Heap.get?_update_ne _ _ _ _ hb).trans (Heap.get?_push_of_some _ ho))
    · exact (hs.2 e hxs).trans (Heap.get?_update_self _ he1 rfl)
/-- super().__init__(..), bound and called -/
theorem sup_call (S : SupC prog K mg x f B newId i bmB C fI) {u e t0 : Addr} {rest : List Value} {Q : Value → Shared → Prop} (X : K.In hp) (he : hp.get? e = some (excObj C t0 none .none)) (hu : hp.get? u = some (kxs_mw i e)) (hr : rest.length ≤ sizeLine)
    (hq : ∀ h' t1, (∀ b o, b ≠ e → hp.get? b = some o → h'.get? b = some o) → h'.get? e = some (excObj C t1 none .none) → Q .none ⟨h', g, d, t, os⟩) :
    wpAny (model prog w) A (call (.ref u) rest) Q E ⟨hp, g, d, t, os⟩ := by
  obtain ⟨nm, N', qn, bs, bm, hdct, sn, sub, ab, col, dd, k0, k1, k2, k3, k5, hC, hT⟩ := excInit_of X S.q
  refine wpAny_call (codeAny_of_tree ?_)
  show wpAny _ A.in1 (callAny (.ref u) ⟨rest, []⟩) _ _ _
  simp only [callAny]
  refine wpAny_bind (wpAny_load hu ?_)
  have z1 : (Value.type "method-wrapper" == Value.type "method" || Value.type "method-wrapper" == Value.type "builtin_function_or_method" || Value.type "method-wrapper" == Value.type "method-wrapper") = true := by decide
  simp only [kxs_mw, z1, if_true]
  refine KFB.if_so (by decide) ?_
  refine wpAny_bind (check_bound_init S.fb.toExcCallFacts hC he rfl ?_)
  refine wpAny_bind (wpAny_pure (wpAny_pure ?_))
  refine ⟨plainId_quiet S.fb.init.plain _, codeAny_builtin S.fb.initEntry ?_⟩
  exact exc_init_tree (cls := .ref C) (t0 := t0) (dv := none) (c2 := .none) (c3 := .none) (b4 := .bool false) he hr fun h' k e' _ => hq h' _ k e'
/-- the __init__ called: the error has a dict with its one field -/
theorem sup_initK (S : SupC prog K mg x f B newId i bmB C fI) {e t0 : Addr} {v : Value} {base : Heap} {args : Args} (hargs : args = ⟨[.ref e, v], []⟩ ∨ args = ⟨[.ref e], [(x, v)]⟩) (M : L2.Mod K mg base) (st : ∀ b o, base.get? b = some o → hp.get? b = some o) (hroom : A.depth < recursionLimit) (he : hp.get? e = some (excObj C t0 none .none)) (hbe : base.get? e = none)
    (hq : ∀ h' tk' t1 dx, (∀ b o, b ≠ e → hp.get? b = some o → h'.get? b = some o) → hp.objs.size ≤ dx → dx ≠ e → h'.get? e = some (excObj C t1 (some dx) .none) →
      h'.Ns1 dx (fun y => if y = f then some v else none) → R (.ok (.ret .none)) ⟨h', g, d, tk', os⟩) :
    codeAny (model prog w) A (.call (.ref fI) args) R ⟨hp, g, d, t, os⟩ := by
  have X : K.In hp := M.kin.keeps st
  obtain ⟨oc, od, osl, qual, params, body, scope, dV, kV, doc, pm, an, cda, ct, cc, ccl, cdd, vs, ccs, file, tf, cl, cld, csl, hf, hcd, hB, hS, hself, hbind, hbindK, hcode, hvs, hfile, hcell⟩ := S.fn
  obtain ⟨p0, p1, p2, p3, p4, p5, p6, p7, p8, p9, hev, rfl⟩ := hB.ex
  obtain ⟨pl, hev⟩ := hev (ksEnv qual scope hp.objs.size fI (.ref cda) cc)
  obtain ⟨ar, har, hnm⟩ := Option.map_eq_some_iff.mp hself
  have hxs := S.xs
  have hsx : (("self" : Str) == x) = false := by
    rw [Bool.eq_false_iff]
    intro z
    rw [(beq_iff_eq.mp z : ("self" : Str) = x)] at hxs
    simp at hxs
  refine ks_codeAny_call_defAt (s := ⟨hp, g, d, t, os⟩) (fd := ksFn "__init__" qual params _ scope dV kV doc pm an (.ref cda) ct cc) (body := _) (binds := [("self", .ref e), (x, v)]) hroom (X _ _ hf) rfl (M.nolimit.keeps st) (codeRec_of X hcd) rfl (BindsTo.of_eq (hargs.elim (fun z => z ▸ hbind _ _) fun z => z ▸ hbindK _ _)) hS.nc ?_ (fun h0 hns k0 => ?_) hS.co hS.gn hS.kd
  · intro y hy
    rcases List.mem_cons.mp hy with rfl | hy
    · exact hS.k0
    · rw [List.mem_singleton.mp hy]
      exact hS.kx
  have X0 : K.In h0 := X.keeps k0
  have m0 : (fun y : Str => List.lookup y ([(("self" : Str), Value.ref e), (x, v)] : List (Str × Value)).reverse) ("self" : Str) = some (.ref e) := by
    show List.lookup ("self" : Str) [(x, v), (("self" : Str), Value.ref e)] = _
    simp [List.lookup, hsx]
  have mx : (fun y : Str => List.lookup y ([(("self" : Str), Value.ref e), (x, v)] : List (Str × Value)).reverse) x = some v := by
    show List.lookup x [(x, v), (("self" : Str), Value.ref e)] = _
    simp [List.lookup]
  generalize (fun y : Str => List.lookup y ([(("self" : Str), Value.ref e), (x, v)] : List (Str × Value)).reverse) = m at hns m0 mx
  have hD : ∃ oD cdD, h0.get? C = some oD ∧ oD.data = .cls cdD := by
    obtain ⟨cd, hcd, _⟩ := S.hd
    unfold clsIn at hcd
    split at hcd
    · rename_i c d cd' sl ho
      exact ⟨_, _, X0 _ _ ho, rfl⟩
    · cases hcd
  obtain ⟨oD, cdD, hD1, hD2⟩ := hD
  obtain ⟨mb, hb1, hb2⟩ := M.blt
  have st0 : ∀ b o, base.get? b = some o → h0.get? b = some o := fun b o z => k0 b o (st b o z)
  have he0 := k0 _ _ he
  have eL : e ≠ hp.objs.size := Nat.ne_of_lt (Heap.lt_size he)
  have hi : interactive (ksEnv qual scope hp.objs.size fI (.ref cda) cc) = false := by simp [interactive, hS.kd]
  refine ks_wpAt_execs_cons (ks_wpAt_Expr_any (env := ksEnv qual scope hp.objs.size fI (.ref cda) cc) (ks_wpAt_MethodCall (pl := pl) (env := ksEnv qual scope hp.objs.size fI (.ref cda) cc) (ks_wpAt_super_base (env := ksEnv qual scope hp.objs.size fI (.ref cda) cc) hS.ks hS.kc (by decide) rfl (X0 _ _ hf) rfl har rfl (X0 _ _ hcode) rfl hvs hfile S.tp ?_) hev) hi)
  refine ks_loadName_global hS.kd hS.ks (loadGlobal_builtin (env := ksEnv qual scope hp.objs.size fI (.ref cda) cc) (M.glob.keeps st0) S.sg (hb1.keeps st0) ((hb2 "super" (by decide)).trans (by first | boot_by_name | rfl | kernel_rfl)) ⟨rfl, ?_⟩)
  refine wpAny_loadName_free hS.kd hS.kc rfl ⟨_, X0 _ _ hcell, rfl⟩ ?_
  rw [hnm]
  refine wpAny_loadName_local hS.kd hS.k0 hns m0 ?_
  refine ks_wpAny_isType_cls hD1 hD2 ⟨rfl, ?_⟩
  refine ks_wpAny_call_super hD1 hD2 he0 rfl (fun c z => nomatch z) (looks_mroIn X0 S.sc) (fun h1 e1 k1 => ?_)
  have X1 : K.In h1 := X0.keeps k1
  have he1 := k1 _ _ he0
  have I1 : InstAt h1 e (excObj C t0 none .none) C none := ⟨he1, rfl, rfl, trivial⟩
  obtain ⟨cd, hcd', hdd⟩ := S.hd
  have hsu := S.su
  unfold ks_superIn at hsu
  rw [hcd'] at hsu
  refine kxs_getMethod S.kf e1 (looks_opaque X1 S.op) (l₀ := cd.mro) (fun A Q E s k q => wpAny_bind ((looks_clsIn X1 hcd') A _ E s k (wpAny_pure q))) rfl X1 hsu (I1.type.andThen (looks_subIn X1 S.sb)) (ks_ne X1 I1 hcd') (by decide) ?_
  have hn1 := (hns.keeps k1).keeps (fun b o z => Heap.get?_push_of_some (h := h1) (kxs_mw i e) z)
  refine kxs_callWith (i := i) (x := e) (by rfl) (evalArgs_plain ?_)
  refine Calls.spliced_cons (wpAny_Name (wpAny_loadName_local (env := ksEnv qual scope hp.objs.size fI (.ref cda) cc) hS.kd hS.kx hn1 mx ?_) S.xd)
  refine Calls.spliced_nil ⟨Heap.get?_push_at rfl rfl, ?_⟩
  have he2 := Heap.get?_push_of_some (kxs_mw i e) he1
  have X2 := X1.keeps (fun b o z => Heap.get?_push_of_some (h := h1) (kxs_mw i e) z)
  refine sup_call S X2 he2 (Heap.get?_push_at rfl rfl) (by show 1 ≤ _; decide) fun h3 t1 k3 e3 => ?_
  have hn3 : h3.Ns hp.objs.size m := by
    obtain ⟨oL, es, ep, hL, r⟩ := hn1
    exact ⟨oL, es, ep, k3 _ _ (Ne.symm eL) hL, r⟩
  have X3 : K.In h3 := M.kin.keeps fun b o z => k3 b o (fun y => by rw [y, hbe] at z; cases z) (Heap.get?_push_of_some _ (k1 b o (st0 b o z)))
  refine wpAt_of_wpAny (wpAny_execs_cons (plainObj_wpAny_Assign_Attribute (wpAny_Name (wpAny_loadName_local (env := ksEnv qual scope hp.objs.size fI (.ref cda) cc) hS.kd hS.kx hn3 mx ?_) S.xd)))
  refine wpAny_Name (wpAny_loadName_local (env := ksEnv qual scope hp.objs.size fI (.ref cda) cc) hS.kd hS.k0 hn3 m0 ?_) (by decide)
  refine sup_store S X3 e3 fun h4 tk4 dx k4 d1 d2 e4 n4 => ?_
  refine wpAny_execs_nil (hq h4 tk4 t1 dx (fun b o hb z => k4 b o hb (k3 b o hb (Heap.get?_push_of_some _ (k1 b o (k0 b o z))))) (Nat.le_trans ?_ d1) d2 e4 n4)
  obtain ⟨oL, _, _, hL, _⟩ := hn3
  exact Nat.le_of_lt (Heap.lt_size hL)
end
end Mi
namespace Mi
open PySem L2
end Mi
namespace Mi
open PySem L2
/-! ### raise -/
section
variable {X : Cx} {k : Kx} {E : WX}
/-- what the written part says of an error class without an own __init__ -/
structure Sup0 (K : PySem.W.Frag) (B newId initId : String) (bmB : List Value) (C : Addr) : Prop where
  fb : ExcBaseFacts B newId initId bmB
  q : PySem.W.excIn K C bmB newId = true
  bx : PySem.W.subIn K (.ref C) (.type "BaseException") = some true
  ty : PySem.W.typeIn K (.ref C) = some (.type "type")
  kp : PySem.W.keepIn K (.ref C) = true
/-! ### try -/
/-- the same values, whatever is handled -/
def Kx.hd (k : Kx) (z : Option (Addr × Value × Option Addr)) : Kx := ⟨k.K, k.cl, z, k.w⟩
mutual
theorem RepV.hd {z : Option (Addr × Value × Option Addr)} {W : Wd} {H : Hp} : ∀ {v : Val} {u : V}, RepV k W H v u → noRef v = true → RepV (k.hd z) W H v u
  | .non, _, h, _ => h
  | .bl _, _, h, _ => h
  | .int _, _, h, _ => h
  | .str _, _, h, _ => h
  | .tup xs, _, h, n => by
    obtain ⟨p, vs, e, s, r⟩ := h
    exact ⟨p, vs, e, s, RepL.hd r n⟩
  | .lst xs, _, h, n => by
    obtain ⟨p, vs, e, f, s, r⟩ := h
    exact ⟨p, vs, e, f, s, RepL.hd r n⟩
  | .rol xs, _, h, n => by
    obtain ⟨p, vs, e, s, r⟩ := h
    exact ⟨p, vs, e, s, RepL.hd r n⟩
  | .ins c ks xs, _, h, n => by
    obtain ⟨p, dx, vs, e, f, s, n1, r⟩ := h
    exact ⟨p, dx, vs, e, f, s, n1, RepL.hd r n⟩
  | .ref i, _, _, n => nomatch n
  | .exv _ _ _, _, _, n => nomatch n
  | .cls _, _, h, _ => h
  | .tpd xs, _, h, n => by
    obtain ⟨p, o, vs, e, s, d, r⟩ := h
    exact ⟨p, o, vs, e, s, d, RepL.hd r n⟩
theorem RepL.hd {z : Option (Addr × Value × Option Addr)} {W : Wd} {H : Hp} : ∀ {v : List Val} {u : List V}, RepL k W H v u → noRefs v = true → RepL (k.hd z) W H v u
  | [], _, h, _ => h
  | y :: ys, _, h, n => by
    obtain ⟨v, r, e, h1, h2⟩ := h
    have n' := Bool.and_eq_true_iff.mp n
    exact ⟨v, r, e, RepV.hd h1 n'.1, RepL.hd h2 n'.2⟩
end
/-- no name: nothing of the error is asked -/
def tryN (own : Str → Option Bool) (suite : S) (x : Exc) (env : Env) (st : Sto) : Option (Out × Env × Sto) := match own x.cls with
  | some true => match suite env st with
    | some (.err _, _, _) => none
    | o => o
  | some false => some (.err x, env, st)
  | none => none
def sTryN (own : Str → Option Bool) (b suite : S) : S := fun env st => match b env st with
  | some (.err x, env1, st1) => tryN own suite x env1 st1
  | o => o
end
end Mi
namespace Mi
open PySem L2
/-! ### the handled error: its fields, its class -/
/-- what the written part says of an error class whose instances are asked in a suite -/
structure XcC (K : PySem.W.Frag) (C : Addr) : Prop where
  ga : PySem.W.findIn K (.ref C) "__getattribute__" = some (some (.builtin "BaseException.__getattribute__"))
  gg : PySem.W.findIn K (.ref C) "__getattr__" = some none
  bx : PySem.W.subIn K (.ref C) (.type "BaseException") = some true
  hd : PySem.W.hasDictIn K C = true
  ca : PySem.W.findIn K (.ref C) "__class__" = some (some (.builtin "object.__class__"))
  cn : PySem.W.specialIn K (.builtin "object.__class__") "__get__" = some (some (.builtin "getset_descriptor.__get__"))
  ct : PySem.W.takesIn K (.builtin "object.__class__") = some true
  cm : PySem.W.mroIn K C (.type "object") = some true
section
variable {X : Cx} {k : Kx} {E : WX} {a : Addr} {oe : Obj} {cls : Value} {d : Option Addr} {pn : List (Addr × Obj)}
theorem un_var {f : Sto → Val → Option Val} {i : Nat} {env : Env} {st : Sto} {o : Except Exc Val × Sto} (h : un f (var i) env st = some o) : ∃ v c, env[i]? = some (some v) ∧ f st v = some c ∧ o = (.ok c, st) := by
  unfold un bnd var at h
  cases q : env[i]? with
  | none =>
    rw [q] at h
    cases h
  | some w =>
    cases w with
    | none =>
      rw [q] at h
      cases h
    | some v =>
      rw [q] at h
      unfold lift at h
      dsimp only at h
      cases z : f st v with
      | none =>
        rw [z] at h
        cases h
      | some c =>
        rw [z] at h
        cases h
        exact ⟨v, c, rfl, z, rfl⟩
end
end Mi
namespace Mi
open PySem PySem.Spec PyProof.Rows L2
/-! ### sets of ints and texts: their members as a list without repetition -/
def kof : Value → Option Key
  | .int k _ => some (.inl k)
  | .str x _ => some (.inr x)
  | _ => none
def GoodK (w : World) (e : Int × Value) : Prop := ∃ k, kof e.2 = some k ∧ e.1 = keyH w k
def SetG (w : World) (h : Heap) (a : Addr) (ks : List Key) : Prop :=
  ∃ o es ep t, h.get? a = some o ∧ o.ExactSet ∧ o.data = .set es ep t ∧ (∀ e ∈ es.toList, GoodK w e) ∧ (es.toList.map fun e => kof e.2).Perm (ks.map some) ∧ ks.Nodup ∧ es.size < scanBound ∧ t.fits es.size = true ∧
    Ris t.place.toList ∧ (w.params.followText "set-order" = true ∨ t.led = true)
section
variable {P : Program} {w : World} {A : Around} {E : Value → Shared → Prop} {s : Shared} {a : Addr} {ks : List Key} {k : Key}
theorem SetG.at {h h' : Heap} (R : SetG w h a ks) (kp : ∀ o, h.get? a = some o → h'.get? a = some o) : SetG w h' a ks := by
  obtain ⟨o, es, ep, t, ho, r⟩ := R
  exact ⟨o, es, ep, t, kp o ho, r⟩
end
end Mi
namespace Mi
open PySem PySem.Spec PyProof.Rows L2
/-! ### sorted of a set -/
end Mi
namespace Mi
open PySem PySem.Spec PyProof.Rows L2
/-! ### the one arrangement in order -/
def insBy {α : Type} (le : α → α → Bool) (x : α) : List α → List α
  | [] => [x]
  | y :: r => if le x y then x :: y :: r else y :: insBy le x r
def sortBy {α : Type} (le : α → α → Bool) : List α → List α
  | [] => []
  | x :: r => insBy le x (sortBy le r)
def leS (a b : Str) : Bool := !ltCps b.cps.toList a.cps.toList
def sortS : List Str → List Str := sortBy leS
/-! ### len(set(e)), sorted(set(e)) -/
def keyV : Val → Option Key
  | .int i => some (.inl i)
  | .str x => some (.inr x)
  | _ => none
/-! ### the same, mirrored -/
end Mi
namespace Mi
open PySem PySem.Spec PyProof.Rows L2 ClX
/-! ### len(set(e)), sorted(set(e)), mirrored -/
/-! ### classes as values; class methods -/
end Mi
namespace Mi
open PySem PySem.Spec PyProof.Rows L2
/-! ### x(..), x a local that holds a class -/
end Mi
namespace Mi
open PySem L2
/-! ### running a mirror by rewriting: what follows a step stands unapplied, so that nothing ahead of its turn is run -/
def bK {α β : Type} : Res α → (α → M β) → Env → Res β
  | some (.ok a, s), f, env => f a env s
  | some (.error x, s), _, _ => some (.error x, s)
  | none, _, _ => none
@[simp] theorem bK_ok {α β : Type} {a : α} {s : Sto} {f : α → M β} {env : Env} : bK (some (.ok a, s)) f env = f a env s := rfl
@[simp] theorem bK_err {α β : Type} {x : Exc} {s : Sto} {f : α → M β} {env : Env} : bK (some (.error x, s)) f env = some (.error x, s) := rfl
@[simp] theorem bK_none {α β : Type} {f : α → M β} {env : Env} : bK none f env = none := rfl
def lR {α : Type} : Option α → Sto → Res α
  | some c, s => some (.ok c, s)
  | none, _ => none
@[simp] theorem lR_some {α : Type} {c : α} {s : Sto} : lR (some c) s = some (.ok c, s) := rfl
@[simp] theorem lR_none {α : Type} {s : Sto} : lR (none : Option α) s = none := rfl
def lSR {α : Type} : Option (α × Sto) → Res α
  | some (c, s) => some (.ok c, s)
  | none => none
@[simp] theorem lSR_some {α : Type} {c : α} {s : Sto} : lSR (some (c, s)) = some (.ok c, s) := rfl
def vR : Option (Option Val) → Sto → Res Val
  | some (some v), s => some (.ok v, s)
  | _, _ => none
@[simp] theorem vR_some {v : Val} {s : Sto} : vR (some (some v)) s = some (.ok v, s) := rfl
section
variable {α β : Type} {env : Env} {st : Sto}
@[simp] theorem x_ret {a : α} : ret a env st = some (.ok a, st) := rfl
@[simp] theorem x_bnd {m : M α} {f : α → M β} : bnd m f env st = bK (m env st) f env := by
  unfold bnd bK
  split <;> simp_all
@[simp] theorem x_lift {o : Sto → Option α} : lift o env st = lR (o st) st := by
  unfold lift lR
  cases o st <;> rfl
@[simp] theorem x_liftS {o : Sto → Option (α × Sto)} : liftS o env st = lSR (o st) := by
  unfold liftS lSR
  cases o st <;> rfl
@[simp] theorem x_var {i : Nat} : var i env st = vR env[i]? st := by
  unfold var vR
  split <;> simp_all
@[simp] theorem x_bin {f : Sto → Val → Val → Option Val} {ma mb : M Val} : bin f ma mb env st = bK (ma env st) (fun a => bnd mb fun b => lift fun st => f st a b) env := x_bnd
@[simp] theorem x_un {f : Sto → Val → Option Val} {ma : M Val} : un f ma env st = bK (ma env st) (fun a => lift fun st => f st a) env := x_bnd
@[simp] theorem x_asB {m : M Val} : asB m env st = bK (m env st) (fun a => lift fun _ => asBool a) env := x_bnd
@[simp] theorem asBool_bl {b : Bool} : asBool (.bl b) = some b := rfl
@[simp] theorem x_andB {a b : M Bool} : andB a b env st = bK (a env st) (fun c => if c then b else ret false) env := x_bnd
@[simp] theorem x_orB {a b : M Bool} : orB a b env st = bK (a env st) (fun c => if c then ret true else b) env := x_bnd
@[simp] theorem x_notB {a : M Bool} : notB a env st = bK (a env st) (fun c => ret (!c)) env := x_bnd
@[simp] theorem x_andV {a b : M Val} : andV a b env st = bK (asB a env st) (fun c => if c then b else ret (.bl false)) env := x_bnd
@[simp] theorem x_orV {a b : M Val} : orV a b env st = bK (asB a env st) (fun c => if c then ret (.bl true) else b) env := x_bnd
@[simp] theorem x_notV {a : M Val} : notV a env st = bK (asB a env st) (fun c => ret (.bl (!c))) env := x_bnd
@[simp] theorem x_ifV {c : M Bool} {a b : M Val} : ifV c a b env st = bK (c env st) (fun t => if t then a else b) env := x_bnd
@[simp] theorem x_chain {f g : Sto → Val → Val → Option Val} {ma mb mc : M Val} : chain f g ma mb mc env st = bK (ma env st) (fun a => bnd mb fun b => bnd (lift fun st => (f st a b).bind asBool) fun t => if t then bnd mc fun c => lift fun st => g st b c else ret (.bl false)) env := x_bnd
@[simp] theorem x_consM {m : M Val} {ms : M (List Val)} : consM m ms env st = bK (m env st) (fun a => bnd ms fun as => ret (a :: as)) env := x_bnd
@[simp] theorem x_nilM : nilM env st = some (.ok [], st) := rfl
@[simp] theorem x_app {f : Sto → List Val → Option Val} {ms : M (List Val)} : app f ms env st = bK (ms env st) (fun as => lift fun st => f st as) env := x_bnd
@[simp] theorem x_mkTup {ms : M (List Val)} : mkTup ms env st = bK (ms env st) (fun xs => lift fun _ => if xs.length ≤ LIM then some (.tup xs) else none) env := x_bnd
@[simp] theorem x_callM {n : Nat} {c : CF} {ds : List Val} {ms : M (List Val)} : callM n c ds ms env st = bK (ms env st) (fun us _ st => if (us ++ ds).length = n then c (us ++ ds) st else none) env := x_bnd
@[simp] theorem x_callP {n : Nat} {c : CF} {ds : List Val} {ms : M (List Val)} : callP n c ds ms env st = bK (ms env st) (fun us _ st => if (us ++ ds).length = n then runP c (us ++ ds) st else none) env := x_bnd
/-! statements -/
def sR : Option (Out × Env × Sto) → S → Option (Out × Env × Sto)
  | some (.next, e, s), f => f e s
  | o, _ => o
@[simp] theorem sR_next {e : Env} {s : Sto} {f : S} : sR (some (.next, e, s)) f = f e s := rfl
@[simp] theorem sR_ret {v : Val} {e : Env} {s : Sto} {f : S} : sR (some (.ret v, e, s)) f = some (.ret v, e, s) := rfl
@[simp] theorem sR_err {v : Exc} {e : Env} {s : Sto} {f : S} : sR (some (.err v, e, s)) f = some (.err v, e, s) := rfl
@[simp] theorem sR_cont {e : Env} {s : Sto} {f : S} : sR (some (.cont, e, s)) f = some (.cont, e, s) := rfl
@[simp] theorem sR_brk {e : Env} {s : Sto} {f : S} : sR (some (.brk, e, s)) f = some (.brk, e, s) := rfl
@[simp] theorem x_sSeq {a b : S} : sSeq a b env st = sR (a env st) b := by
  unfold sSeq sR
  split <;> simp_all
def eK {γ : Type} : Res γ → (γ → S) → Env → Option (Out × Env × Sto)
  | some (.ok a, s), f, e => f a e s
  | some (.error x, s), _, e => some (.err x, e, s)
  | none, _, _ => none
@[simp] theorem eK_ok {γ : Type} {a : γ} {s : Sto} {e : Env} {f : γ → S} : eK (some (.ok a, s)) f e = f a e s := rfl
@[simp] theorem eK_err {γ : Type} {x : Exc} {s : Sto} {e : Env} {f : γ → S} : eK (some (.error x, s)) f e = some (.err x, e, s) := rfl
@[simp] theorem eK_none {γ : Type} {e : Env} {f : γ → S} : eK none f e = none := rfl
@[simp] theorem x_sBnd {m : M α} {f : α → S} : sBnd m f env st = eK (m env st) f env := by
  unfold sBnd eK
  split <;> simp_all
@[simp] theorem x_sExpr {m : M Val} : sExpr m env st = eK (m env st) (fun _ => sNext) env := x_sBnd
@[simp] theorem x_sRet {m : M Val} : sRet m env st = eK (m env st) (fun v env st => some (.ret v, env, st)) env := x_sBnd
@[simp] theorem x_sSet {i : Nat} {m : M Val} : sSet i m env st = eK (m env st) (fun v env st => some (.next, env.set i (some v), st)) env := x_sBnd
@[simp] theorem x_sIf {c : M Bool} {a b : S} : sIf c a b env st = eK (c env st) (fun t => if t then a else b) env := x_sBnd
@[simp] theorem x_sNext : sNext env st = some (.next, env, st) := rfl
@[simp] theorem x_sPar {i j : Nat} {ms : M (List Val)} : sPar i j ms env st = eK (ms env st) (fun xs env st => match xs with
  | [a, b] => some (.next, (env.set i (some a)).set j (some b), st)
  | _ => none) env := x_sBnd
def oR : Option (Out × Env × Sto) → Res Val
  | some (.ret v, _, s) => some (.ok v, s)
  | some (.next, _, s) => some (.ok .non, s)
  | some (.err x, _, s) => some (.error x, s)
  | _ => none
@[simp] theorem oR_ret {v : Val} {e : Env} {s : Sto} : oR (some (.ret v, e, s)) = some (.ok v, s) := rfl
@[simp] theorem oR_next {e : Env} {s : Sto} : oR (some (.next, e, s)) = some (.ok .non, s) := rfl
@[simp] theorem oR_err {x : Exc} {e : Env} {s : Sto} : oR (some (.err x, e, s)) = some (.error x, s) := rfl
theorem x_callS {N : Nat} {s : S} {us : List Val} : callS N s us st = oR (s (env0 N us) st) := by
  unfold callS oR
  split <;> simp_all
end
end Mi
namespace Mi
open PySem L2
/-! ### running comprehensions, loops, calls over lists of coded things -/
theorem compLoop_gen {α : Type} {enc g : α → Val} {t : Tg} {own : List Nat} {elt : M Val} {env : Env} {st : Sto} : ∀ {as : List α}, (∀ a ∈ as, ∃ env1, bindT t (enc a) (wipeE env own) = some env1 ∧ elt env1 st = some (.ok (g a), st)) → compLoop t own yes elt (as.map enc) env st = some (.ok (as.map g), st)
  | [], _ => rfl
  | a :: as, h => by
    obtain ⟨e1, h1, h2⟩ := h a List.mem_cons_self
    rw [List.map_cons]
    have ih := compLoop_gen (t := t) (own := own) (elt := elt) (env := env) (st := st) (g := g) fun b hb => h b (List.mem_cons_of_mem _ hb)
    unfold compLoop
    rw [h1]
    show (match elt e1 st with | some (.ok y, st2) => (match compLoop t own yes elt (as.map enc) env st2 with | some (.ok ys, st3) => some (Except.ok (y :: ys), st3) | _ => none) | _ => none) = _
    rw [h2]
    dsimp only
    rw [ih]
    rfl
theorem comp_gen {α : Type} {enc g : α → Val} {as : List α} {mi : M (List Val)} {t : Tg} {own : List Nat} {elt : M Val} {env : Env} {st s1 : Sto} (hm : mi env st = some (.ok (as.map enc), s1)) (hl : as.length ≤ 16000000)
    (h : ∀ a ∈ as, ∃ env1, bindT t (enc a) (wipeE env own) = some env1 ∧ elt env1 s1 = some (.ok (g a), s1)) : comp mi t own yes elt env st = some (.ok (.lst (as.map g)), s1) := by
  unfold comp compM
  rw [x_bnd, x_bnd, hm, bK_ok, if_pos (by rw [List.length_map]; exact hl), compLoop_gen h]
  rfl
section
variable {env : Env} {st : Sto}
@[simp] theorem x_makeP {c : Str} {n : Nat} {cf : CF} {ds : List Val} {ms : M (List Val)} : makeP c n cf ds ms env st = bK (ms env st) (fun us _ st => if (us ++ ds).length + 1 = n then runMk c cf (us ++ ds) st else none) env := x_bnd
@[simp] theorem x_methP {c m : Str} {n : Nat} {cf : CF} {ds : List Val} {mo : M Val} {ms : M (List Val)} : methP c m n cf ds mo ms env st = bK (mo env st) (fun a env st => if isOf c m st a then bnd ms (fun us _ st => if (a :: (us ++ ds)).length = n then runP cf (a :: (us ++ ds)) st else none) env st else none) env := x_bnd
@[simp] theorem x_itS {m : M Val} : itS m env st = bK (m env st) (fun a => lift fun _ => stillOf a) env := x_bnd
@[simp] theorem x_cmpV {p : Int → Int → Bool} {i j : Int} : cmpV p st (.int i) (.int j) = some (.bl (p i j)) := rfl
@[simp] theorem x_sFldV {own : Str → Bool} {f : Str} {mo mv : M Val} : sFldV own f mo mv env st = eK (mv env st) (fun y => sBnd mo fun a env st => match a with
  | .ref i => match st[i]? with
    | some (.ins c ks xs) => if own c = true ∧ ks.length < 900 then some (.next, env, st.set i (.ins c (putK f ks) (putX f y ks xs))) else none
    | _ => none
  | _ => none) env := x_sBnd
@[simp] theorem x_part {m : M Val} : part m env st = bK (m env st) (fun a => lift fun _ => (intOf a).map some) env := x_bnd
@[simp] theorem x_nopart : nopart env st = some (.ok none, st) := rfl
@[simp] theorem x_sliceM {ma : M Val} {ml mh : M (Option Int)} : sliceM ma ml mh env st = bK (ma env st) (fun a => bnd ml fun lo => bnd mh fun hi => lift fun st => cutVal st a lo hi) env := x_bnd
@[simp] theorem intOf_int {i : Int} : intOf (.int i) = some i := rfl
@[simp] theorem addV_int {i j : Int} : addV st (.int i) (.int j) = some (.int (i + j)) := rfl
@[simp] theorem cutVal_tup {xs : List Val} {lo hi : Option Int} : cutVal st (.tup xs) lo hi = some (.tup (cutL xs lo hi)) := rfl
@[simp] theorem cutVal_lst {xs : List Val} {lo hi : Option Int} : cutVal st (.lst xs) lo hi = some (.lst (cutL xs lo hi)) := rfl
@[simp] theorem x_m1 {f : Sto → Val → Val → Option Val} {mo ma : M Val} : m1 f mo ma env st = bK (mo env st) (fun a => bnd (lift fun _ => strOf a) fun _ => bnd ma fun b => lift fun st => f st a b) env := x_bnd
@[simp] theorem strOf_str {x : Str} : strOf (.str x) = some x := rfl
@[simp] theorem x_lm {f : Sto → Val → List Val → Option (Val × Sto)} {mo : M Val} {ms : M (List Val)} : lm f mo ms env st = bK (mo env st) (fun a => bnd (lift fun st => isLst st a) fun _ => bnd ms fun as => liftS fun st => f st a as) env := x_bnd
end
end Mi
namespace Mi
open PySem PySem.Spec PyProof.Rows L2
section
variable {X : Cx} {k : Kx}
/-! ### a[i] by an own __getitem__ -/
def idxG (c : Str) (cf : CF) (ma mb : M Val) : M Val := bnd ma fun a => bnd mb fun b _ st => match clsAt st a with
  | some (c', _) => if c' = c then runP cf [a, b] st else none
  | none => match idxV st a b with
    | some z => some (.ok z, st)
    | none => none
@[simp] theorem x_idxG {c : Str} {cf : CF} {ma mb : M Val} {env : Env} {st : Sto} : idxG c cf ma mb env st = bK (ma env st) (fun a => bnd mb fun b _ st => match clsAt st a with
  | some (c', _) => if c' = c then runP cf [a, b] st else none
  | none => match idxV st a b with
    | some z => some (.ok z, st)
    | none => none) env := x_bnd
end
/-! ### xs[::0 - 1] -/
end Mi
namespace Mi
open PySem PySem.Spec PyProof.Rows L2
/-! ### text.upper() -/
end Mi
namespace L2
open PySem PySem.Spec PyProof.Rows
/-- a clause: its class, its suite -/
abbrev Cla := Value × (Addr → Value → Option Addr → TS)
inductive ClaOk (X : Cx) (n : Str) : List ExceptHandler → List Cla → Prop
  | nil : ClaOk X n [] []
  | cons {y : Str} {c : Value} {ts : Addr → Value → Option Addr → TS} {t0 : Stmt} {tl : List Stmt} {p1 p2 : Pos} {hs : List ExceptHandler} {l : List Cla}
      (hc : Names X y c)
      (hsu : ∀ (z : Addr) (ob : Obj) (cl : Value) (d : Option Addr) (pn : List (Addr × Obj)), Zc cl d ob →
        (∃ vs, ob.data = .fields vs) → PSs (X.suite z ((z, ob) :: pn)) (t0 :: tl) (ts z cl d))
      (r : ClaOk X n hs l) :
      ClaOk X n (.ExceptHandler (some (.Name y p1)) (some n) (t0 :: tl) p2 :: hs) ((c, ts) :: l)
end L2
namespace Mi
open PySem L2
section
variable {X : Cx} {k : Kx} {E : WX}
inductive ClaM (X : Cx) (k : Kx) (n : Str) : List ExceptHandler → List (Value × (Str → Option Bool) × S) → Prop
  | nil : ClaM X k n [] []
  | cons {y : Str} {c : Value} {own : Str → Option Bool} {s : S} {t0 : Stmt} {tl : List Stmt} {p1 p2 : Pos} {hs : List ExceptHandler} {l : List (Value × (Str → Option Bool) × S)}
      (hc : Names X y c) (ho : ∀ n t, own n = some t → PySem.W.exmOne X.K (.ref (k.cl n)) c = some t)
      (hsu : ∀ (z : Addr) (ob : Obj) (cl : Value) (d : Option Addr) (pn : List (Addr × Obj)), Zc cl d ob →
        (∃ vs, ob.data = .fields vs) → PSs (X.suite z ((z, ob) :: pn)) (t0 :: tl) (tS (k.hd (some (z, cl, d))) (fun _ _ _ _ => False) s))
      (r : ClaM X k n hs l) :
      ClaM X k n (.ExceptHandler (some (.Name y p1)) (some n) (t0 :: tl) p2 :: hs) ((c, own, s) :: l)
def claT (k : Kx) (q : Value × (Str → Option Bool) × S) : Cla := (q.1, fun z cl d => tS (k.hd (some (z, cl, d))) (fun _ _ _ _ => False) q.2.2)
theorem ClaM.ok {n : Str} {hs : List ExceptHandler} {l : List (Value × (Str → Option Bool) × S)} (h : ClaM X k n hs l) : ClaOk X n hs (l.map (claT k)) := by
  induction h with
  | nil => exact .nil
  | cons hc ho hsu r ih => exact .cons hc hsu ih
end
end Mi
namespace Mi
open PySem
theorem var_at {i : Nat} {v : Val} {env : Env} {st : Sto} (h : env[i]? = some (some v)) : var i env st = some (.ok v, st) := by
  rw [x_var, h]
  rfl
end Mi
namespace Mi
open PySem L2
/-- a def of which nothing is told -/
theorem fnok_none {P : Program} {w : World} {k : Kx} {mg : Str → Option Value} {base : Heap} {j n : Nat} {f : Addr} {fd : FuncData} {ps : List Str} : FnOk P w k.K mg base (L2.CX P w) j f fd ps (spM k n (fun _ _ => none)) :=
  ⟨fun vs H Q E h => (by obtain ⟨W, us, st, o, h0, h1, h2, h3, h4⟩ := h; cases h3), fun A outer s H args us vs Q E _ _ _ _ h => (by obtain ⟨W, us, st, o, h0, h1, h2, h3, h4⟩ := h; cases h3)⟩
theorem kit_ty {K : PySem.W.Frag} {C : Addr} {T : String} {b : Bool} (hm : PySem.W.kitMeta T = true) (h : PySem.W.subIn K (.ref C) (.type T) = some b) : PySem.W.kitOne K (.ref C) (.type T) = some b := by
  unfold PySem.W.kitOne
  rw [if_neg (by simp)]
  show (if PySem.W.kitMeta T = true then PySem.W.subIn K (.ref C) (.type T) else none) = _
  rw [if_pos hm, h]
end Mi
/-! arguments by their names -/
namespace Mi
open PySem PySem.Spec PyProof.Rows L2 ClX
section
variable {X : Cx} {k : Kx} {E : WX}
theorem impK {kws : List Keyword} {t u : TA} (h : PK X kws t) (i : ∀ σ H Q, u σ H Q → t σ H Q) : PK X kws u := ⟨fun pos pins s σ H Q I q => h.run pos pins s σ H Q I (i σ H Q q)⟩
theorem mk_nil : PK X [] (tMa k E nilM) := impK pk_nil fun σ H Q h => nil_read h
theorem mk_cons {nm : Option Str} {kpos : Pos} {e : Expr} {kws : List Keyword} {m : M Val} {ms : M (List Val)} (h : PE X e (tM k E m)) (t : PK X kws (tMa k E ms)) : PK X (⟨nm, e, kpos⟩ :: kws) (tMa k E (consM m ms)) :=
  impK (pk_cons h t) fun σ H Q h => tG.mono (tG.bnd (R1 := RepV k) h) fun x H1 ⟨W, a, ra, h1⟩ =>
    tG.mono (At.bnd (R1 := RepL k) (fun W H => RepV k W H a x) (fun l r => r.le l) ra h1) fun xs H2 ⟨W2, as, ra2, rs, h2⟩ => h2.ret (RepL.cons ra2 rs)
end
end Mi
namespace Mi
open PySem PySem.Spec PyProof.Rows L2
/-! ### calls over deep snapshots: all that stands in the store is read alone -/
def snapD (st : Sto) : Nat → Val → Option Val
  | 0, a => if noRef a then some a else none
  | n + 1, a => if noRef a then some a else match a with
    | .ref i => match st[i]? with
      | some (.lst xs) => (allOf (snapD st n) xs).map Val.lst
      | some (.ins c ks xs) => (allOf (snapD st n) xs).map (Val.ins c ks)
      | _ => none
    | .tup xs => (allOf (snapD st n) xs).map Val.tup
    | .lst xs => (allOf (snapD st n) xs).map Val.lst
    | .ins c ks xs => (allOf (snapD st n) xs).map (Val.ins c ks)
    | _ => none
mutual
/-- tuples and what is no object of the store's kinds -/
def plain : Val → Bool
  | .non | .bl _ | .int _ | .str _ | .cls _ => true
  | .tup xs | .rol xs => plains xs
  | _ => false
def plains : List Val → Bool
  | [] => true
  | x :: xs => plain x && plains xs
end
/-- everything frozen -/
def Wd.all (W : Wd) : Wd := ⟨[], fun p => W.fz p ∨ p ∈ W.rho⟩
section
variable {k : Kx} {W W' : Wd} {H H' : Hp} {st : Sto}
theorem allOf_rep {f : Val → Option Val} {W2 : Wd} (h : ∀ a b u, RepV k W H a u → f a = some b → RepV k W2 H b u) : ∀ {xs ys : List Val} {vs : List V}, RepL k W H xs vs → allOf f xs = some ys → RepL k W2 H ys vs
  | [], ys, vs, r, e => by
    cases e
    exact r
  | x :: xs, ys, vs, r, e => by
    obtain ⟨v, u, rfl, r1, r2⟩ := r
    unfold allOf at e
    split at e
    · rename_i a rr h1 h2
      cases e
      exact ⟨v, u, rfl, h _ _ _ r1 h1, allOf_rep h r2 h2⟩
    · cases e
theorem allOf_len {α : Type} {f : Val → Option α} : ∀ {xs : List Val} {ys : List α}, allOf f xs = some ys → ys.length = xs.length
  | [], ys, e => by
    cases e
    rfl
  | x :: xs, ys, e => by
    unfold allOf at e
    split at e
    · rename_i a rr h1 h2
      cases e
      simp [allOf_len h2]
    · cases e
theorem snapD_rep (o : Ok k W H st) : ∀ (n : Nat) (a b : Val) (u : V), RepV k W H a u → snapD st n a = some b → RepV k W.all H b u
  | 0, a, b, u, r, e => by
    unfold snapD at e
    split at e
    · rename_i hn
      cases e
      exact RepV.other (fun p f => Or.inl f) r hn
    · cases e
  | n + 1, a, b, u, r, e => by
    unfold snapD at e
    split at e
    · rename_i hn
      cases e
      exact RepV.other (fun p f => Or.inl f) r hn
    · cases a with
      | ref i =>
        dsimp only at e
        obtain ⟨p, rfl, hp⟩ := r
        have hm : p ∈ W.rho := List.mem_of_getElem? hp
        split at e
        · rename_i xs hx
          obtain ⟨vs, hv, rv⟩ := o.obj i _ p hx hp
          cases q : allOf (snapD st n) xs with
          | none =>
            rw [q] at e
            cases e
          | some ys =>
            rw [q] at e
            cases e
            exact ⟨p, vs, rfl, .inr hm, hv, allOf_rep (snapD_rep o n) rv q⟩
        · rename_i c ks xs hx
          obtain ⟨dx, vs, hv, n1, rv⟩ := o.obj i _ p hx hp
          cases q : allOf (snapD st n) xs with
          | none =>
            rw [q] at e
            cases e
          | some ys =>
            rw [q] at e
            cases e
            exact ⟨p, dx, vs, rfl, .inr hm, hv, by rw [allOf_len q]; exact n1, allOf_rep (snapD_rep o n) rv q⟩
        · cases e
      | tup xs =>
        dsimp only at e
        obtain ⟨p, vs, e1, s, rv⟩ := r
        cases q : allOf (snapD st n) xs with
        | none =>
          rw [q] at e
          cases e
        | some ys =>
          rw [q] at e
          cases e
          exact ⟨p, vs, e1, s, allOf_rep (snapD_rep o n) rv q⟩
      | lst xs =>
        dsimp only at e
        obtain ⟨p, vs, e1, f, s, rv⟩ := r
        cases q : allOf (snapD st n) xs with
        | none =>
          rw [q] at e
          cases e
        | some ys =>
          rw [q] at e
          cases e
          exact ⟨p, vs, e1, .inl f, s, allOf_rep (snapD_rep o n) rv q⟩
      | ins c ks xs =>
        dsimp only at e
        obtain ⟨p, dx, vs, e1, f, s, n1, rv⟩ := r
        cases q : allOf (snapD st n) xs with
        | none =>
          rw [q] at e
          cases e
        | some ys =>
          rw [q] at e
          cases e
          exact ⟨p, dx, vs, e1, .inl f, s, by rw [allOf_len q]; exact n1, allOf_rep (snapD_rep o n) rv q⟩
      | _ => cases e
theorem Ok.all (o : Ok k W H st) : Ok k W.all H [] := by
  refine ⟨List.nodup_nil, rfl, fun p f => ?_, fun p m => ?_, fun i u q e => ?_⟩
  · rcases f with f | f
    · exact o.fzs p f
    · exact o.there f
  · exact nomatch m
  · rw [List.getElem?_nil] at e
    cases e
mutual
theorem RepV.plain {W2 : Wd} : ∀ {v : Val} {u : V}, RepV k W H v u → plain v = true → RepV k W2 H v u
  | .non, _, h, _ => h
  | .bl _, _, h, _ => h
  | .int _, _, h, _ => h
  | .str _, _, h, _ => h
  | .cls _, _, h, _ => h
  | .tpd _, _, _, n => nomatch n
  | .tup xs, _, h, n => by
    obtain ⟨p, vs, e, s, r⟩ := h
    exact ⟨p, vs, e, s, RepL.plain r n⟩
  | .rol xs, _, h, n => by
    obtain ⟨p, vs, e, s, r⟩ := h
    exact ⟨p, vs, e, s, RepL.plain r n⟩
  | .lst _, _, _, n => nomatch n
  | .ins _ _ _, _, _, n => nomatch n
  | .ref _, _, _, n => nomatch n
  | .exv _ _ _, _, _, n => nomatch n
theorem RepL.plain {W2 : Wd} : ∀ {v : List Val} {u : List V}, RepL k W H v u → plains v = true → RepL k W2 H v u
  | [], _, h, _ => h
  | y :: ys, _, h, n => by
    obtain ⟨v, r, e, h1, h2⟩ := h
    have n' := Bool.and_eq_true_iff.mp n
    exact ⟨v, r, e, RepV.plain h1 n'.1, RepL.plain h2 n'.2⟩
end
end
end Mi
namespace Mi
open PySem PySem.Spec PyProof.Rows L2 PpSet
/-! ### set comprehensions of ints and texts -/
end Mi
namespace Mi
open PySem PySem.Spec PyProof.Rows L2 PpSet
/-! ### sorted({.. for .. in ..}) -/
end Mi
namespace Mi
open PySem PySem.Spec PyProof.Rows L2
/-! ### for at, x in enumerate(a list of the store), which the turns leave as long as it is -/
section
variable {X : Cx} {k : Kx} {E : WX}
/-! ### o.f += e, ints -/
/-! ### xs[lo:hi], a list that will be changed -/
def sliceS (ma : M Val) (ml mh : M (Option Int)) : M Val := bnd ma fun a => bnd ml fun lo => bnd mh fun hi => liftS fun st => (lstOf st a).map fun xs => (.ref st.length, st ++ [.lst (cutL xs lo hi)])
/-! ### an expression asked over deep snapshots -/
end
end Mi
namespace Mi
open PySem L2
/-! ### running: more steps -/
section
variable {env : Env} {st : Sto}
@[simp] theorem x_sSetT {t : Tg} {m : M Val} : sSetT t m env st = eK (m env st) (fun v env st => match bindT t v env with
  | some env' => some (.next, env', st)
  | none => none) env := x_sBnd
@[simp] theorem x_sSub {me mo mi : M Val} : sSub me mo mi env st = eK (me env st) (fun v => sBnd mo fun a => sBnd mi fun j env st => match a, j with
  | .ref i, .int n => match st[i]? with
    | some (.lst xs) => match ixN xs.length n with
      | some l => some (.next, env, st.set i (.lst (xs.set l v)))
      | none => none
    | _ => none
  | _, _ => none) env := x_sBnd
@[simp] theorem x_methM {c m : Str} {n : Nat} {cf : CF} {ds : List Val} {mo : M Val} {ms : M (List Val)} : methM c m n cf ds mo ms env st = bK (mo env st) (fun a env st => if isOf c m st a then bnd ms (fun us _ st => if (a :: (us ++ ds)).length = n then cf (a :: (us ++ ds)) st else none) env st else none) env := x_bnd
@[simp] theorem x_makeM {c : Str} {n : Nat} {cf : CF} {ds : List Val} {ms : M (List Val)} : makeM c n cf ds ms env st = bK (ms env st) (fun us _ st => if (us ++ ds).length + 1 = n then match cf (.ref st.length :: (us ++ ds)) (st ++ [.ins c [] []]) with
  | some (.ok .non, st') => some (.ok (.ref st.length), st')
  | some (.ok _, _) => none
  | some (.error x, st') => some (.error x, st')
  | none => none else none) env := x_bnd
@[simp] theorem x_sliceS {ma : M Val} {ml mh : M (Option Int)} : sliceS ma ml mh env st = bK (ma env st) (fun a => bnd ml fun lo => bnd mh fun hi => liftS fun st => (lstOf st a).map fun xs => (.ref st.length, st ++ [.lst (cutL xs lo hi)])) env := x_bnd
@[simp] theorem x_appS {f : Sto → List Val → Option (Val × Sto)} {ms : M (List Val)} : appS f ms env st = bK (ms env st) (fun as => liftS fun st => f st as) env := x_bnd
@[simp] theorem x_mkLstM {ms : M (List Val)} : mkLstM ms env st = bK (ms env st) (fun xs => liftS fun st => if xs.length ≤ LIM then some (.ref st.length, st ++ [.lst xs]) else none) env := x_bnd
@[simp] theorem isNV_non : isNV st .non .non = some (.bl true) := rfl
@[simp] theorem isNV_tup {xs : List Val} : isNV st (.tup xs) .non = some (.bl false) := rfl
@[simp] theorem notNV_non : notNV st .non .non = some (.bl false) := rfl
@[simp] theorem notNV_tup {xs : List Val} : notNV st (.tup xs) .non = some (.bl true) := rfl
@[simp] theorem eqV_ints {i j : Int} : eqV st (.int i) (.int j) = some (.bl (i == j)) := by first | rfl | exact eqV_int st i j
@[simp] theorem neV_ints {i j : Int} : neV st (.int i) (.int j) = some (.bl (!(i == j))) := rfl
@[simp] theorem subV_int {i j : Int} : subV st (.int i) (.int j) = some (.int (i - j)) := rfl
theorem app_ref {i : Nat} {xs : List Val} {a : Val} (h : st[i]? = some (.lst xs)) (hl : xs.length < 16000000) : appendV st (.ref i) [a] = some (.non, st.set i (.lst (xs ++ [a]))) := by
  unfold appendV
  dsimp only
  rw [h]
  dsimp only
  rw [if_pos hl]
end
theorem atI_nat {α : Type} {xs : List α} {n : Nat} : atI xs (n : Int) = xs[n]? := by
  unfold atI ixN
  by_cases h : n < xs.length
  · rw [if_pos (by omega), if_pos (by omega)]
    simp
  · rw [if_pos (by omega), if_neg (by omega)]
    simp
    omega
end Mi
namespace Mi
open PySem L2
/-! ### == and != of data without truth values -/
end Mi
namespace Mi
open PySem PySem.Spec PyProof.Rows L2 PpSet
/-! ### sum of ints, how often a text stands in a list -/
end Mi
namespace Mi
open PySem L2
/-! ### running statements to a wish -/
def Runs (o : Option (Out × Env × Sto)) (Q : Out → Env → Sto → Prop) : Prop := ∃ r e s, o = some (r, e, s) ∧ Q r e s
@[simp] theorem runs_some {r : Out} {e : Env} {s : Sto} {Q : Out → Env → Sto → Prop} : Runs (some (r, e, s)) Q ↔ Q r e s :=
  ⟨fun ⟨_, _, _, h, q⟩ => by cases h; exact q, fun q => ⟨_, _, _, rfl, q⟩⟩
theorem Runs.mono {o : Option (Out × Env × Sto)} {Q Q' : Out → Env → Sto → Prop} (h : Runs o Q) (hq : ∀ r e s, Q r e s → Q' r e s) : Runs o Q' := by
  obtain ⟨r, e, s, h, q⟩ := h
  exact ⟨r, e, s, h, hq r e s q⟩
theorem Runs.seq {a b : S} {env : Env} {st : Sto} {Q : Out → Env → Sto → Prop} (h : Runs (a env st) fun r e s => r = .next ∧ Runs (b e s) Q) : Runs (sSeq a b env st) Q := by
  obtain ⟨r, e, s, h, rfl, q⟩ := h
  rw [x_sSeq, h]
  exact q
/-- slots of a row of names -/
theorem g_ne {α : Type} {l : List α} {i j : Nat} {a : α} (h : i ≠ j) : (l.set i a)[j]? = l[j]? := List.getElem?_set_ne h
theorem g_eq {α : Type} {l : List α} {i : Nat} {a : α} (h : i < l.length) : (l.set i a)[i]? = some a := List.getElem?_set_self h
/-- a loop whose turns keep a wish -/
theorem runs_for {mi : M (List Val)} {t : Tg} {body : S} (I : Nat → Env → Sto → Prop) {xs : List Val} {env : Env} {st s1 : Sto} {Q : Out → Env → Sto → Prop} (hm : mi env st = some (.ok xs, s1)) (h0 : I 0 env s1)
    (hs : ∀ i x env st, xs[i]? = some x → I i env st → ∃ env1, bindT t x env = some env1 ∧ Runs (body env1 st) fun r e s => (r = .next ∨ r = .cont) ∧ I (i + 1) e s)
    (hq : ∀ e s, I xs.length e s → Q .next e s) : Runs (sFor mi t body env st) Q := by
  obtain ⟨e', s', h, hI⟩ := sFor_inv I hm h0 fun i x env st hx hi => by
    obtain ⟨e1, b, r, e, s, h, hr, q⟩ := hs i x env st hx hi
    refine ⟨e1, b, e, s, ?_, q⟩
    rcases hr with rfl | rfl
    · exact .inl h
    · exact .inr h
  exact ⟨_, _, _, h, hq _ _ hI⟩
/-- comprehensions over coded things, the names standing anywhere -/
theorem comp_name {α : Type} {enc g : α → Val} {as : List α} {mi : M (List Val)} {i : Nat} {elt : M Val} {env : Env} {st s1 : Sto} (hm : mi env st = some (.ok (as.map enc), s1)) (hl : as.length ≤ 16000000)
    (h : ∀ a ∈ as, elt ((env.set i none).set i (some (enc a))) s1 = some (.ok (g a), s1)) : comp mi (.name i) [i] yes elt env st = some (.ok (.lst (as.map g)), s1) :=
  comp_gen hm hl fun a ha => ⟨_, rfl, h a ha⟩
end Mi
namespace Mi
open PySem L2
/-! ### list(range(..)) -/
def rgL (i j : Int) : List Val := (List.range (j - i).toNat).map fun (n : Nat) => .int (i + n)
def lstRg (ma mb : M Val) : M Val := bnd ma fun a => bnd mb fun b => lift fun _ => match a, b with
  | .int i, .int j => if 0 ≤ i ∧ i ≤ 16000000 ∧ 0 ≤ j ∧ j ≤ 16000000 then some (.lst (rgL i j)) else none
  | _, _ => none
def lstRg1 (ma : M Val) : M Val := bnd ma fun a => lift fun _ => match a with
  | .int j => if 0 ≤ j ∧ j ≤ 16000000 then some (.lst (rgL 0 j)) else none
  | _ => none
@[simp] theorem x_lstRg {ma mb : M Val} {env : Env} {st : Sto} : lstRg ma mb env st = bK (ma env st) (fun a => bnd mb fun b => lift fun _ => match a, b with
  | .int i, .int j => if 0 ≤ i ∧ i ≤ 16000000 ∧ 0 ≤ j ∧ j ≤ 16000000 then some (.lst (rgL i j)) else none
  | _, _ => none) env := x_bnd
@[simp] theorem x_lstRg1 {ma : M Val} {env : Env} {st : Sto} : lstRg1 ma env st = bK (ma env st) (fun a => lift fun _ => match a with
  | .int j => if 0 ≤ j ∧ j ≤ 16000000 then some (.lst (rgL 0 j)) else none
  | _ => none) env := x_bnd
end Mi
namespace Mi
open PySem PySem.Spec PyProof.Rows L2
end Mi
namespace Mi
open PySem PySem.Spec PyProof.Rows L2
section
variable {X : Cx} {k : Kx} {E : WX}
/-! ### x or y, by what x is -/
def truT : Val → Option Bool
  | .non => some false
  | .bl b => some b
  | .int i => some (i != 0)
  | .tup xs => some (!xs.isEmpty)
  | _ => none
def orTV (ma mb : M Val) : M Val := bnd ma fun a => bnd (lift fun _ => truT a) fun t => if t then ret a else mb
end
@[simp] theorem x_orTV {ma mb : M Val} {env : Env} {st : Sto} : orTV ma mb env st = bK (ma env st) (fun a => bnd (lift fun _ => truT a) fun t => if t then ret a else mb) env := x_bnd
end Mi
namespace Mi
open PySem PySem.Spec PyProof.Rows L2
end Mi
namespace Mi
open PySem PySem.Spec PyProof.Rows L2
/-! ### (a, b) = a list -/
section
variable {X : Cx} {k : Kx} {E : WX} {pos : Pos}
def sSetL (ts : List Tg) (m : M Val) : S := sBnd m fun v env st => match v with
  | .lst xs => if xs.length = ts.length then match bindTs ts xs env with
    | some env' => some (.next, env', st)
    | none => none
    else none
  | _ => none
end
@[simp] theorem x_sSetL {ts : List Tg} {m : M Val} {env : Env} {st : Sto} : sSetL ts m env st = eK (m env st) (fun v env st => match v with
  | .lst xs => if xs.length = ts.length then match bindTs ts xs env with
    | some env' => some (.next, env', st)
    | none => none
    else none
  | _ => none) env := x_sBnd
end Mi
namespace Mi
open PySem PySem.Spec PyProof.Rows L2
/-! ### values as keys -/
/-- what stands at the key n -/
def atN (n : NestedKey) : List Val → List Val → Option Val
  | c :: ks, x :: xs => if tupKey c = some n then some x else atN n ks xs
  | _, _ => none
def atKx (n : Key) : List Key → List Val → Option Val
  | c :: ks, x :: xs => if c = n then some x else atKx n ks xs
  | _, _ => none
/-! ### the object of a dict of tuples -/
/-! ### rules -/
section
variable {X : Cx} {k : Kx} {E : WX} {pos : Pos}
theorem newSO {W : Wd} {H : Hp} {st : Sto} {u : SO} {Q : VK} {p : Addr} {o : HO} (ok : Ok k W H st) (hp : H p = none) (hu : RepO k (W.ob p) (upd H p o) u p) (q : ∀ W' H' v, Le W W' H H' → Ok k W' H' (st ++ [u]) → RepV k W' H' (.ref st.length) v → Q v H') : Q (.ref p) (upd H p o) := by
  obtain ⟨l, o'⟩ := ok.newOb (u := u) (o := o) hp hu
  refine q (W.ob p) _ _ l o' ⟨p, rfl, ?_⟩
  show (W.rho ++ [p])[st.length]? = some p
  rw [List.getElem?_append_right (by rw [ok.len]; exact Nat.le_refl _), ok.len, Nat.sub_self]
  rfl
/-! ### d[k] -/
def getD (st : Sto) (a b : Val) : Option Val := match a with
  | .ref i => match st[i]? with
    | some (.dk ks xs) => match keyV b with
      | some q => atKx q ks xs
      | none => none
    | some (.dn ks xs) => match tupKey b with
      | some n => atN n ks xs
      | none => none
    | _ => none
  | _ => none
/-! ### d[k] = v -/
end
end Mi
namespace Mi
open PySem PySem.Spec PyProof.Rows L2
/-! ### calls whose answer is frozen: what the callee made never changes any more -/
section
variable {k : Kx} {W W' : Wd} {H H' : Hp} {st st' : Sto}
def Wd.kept (W W' : Wd) : Wd := ⟨W.rho, fun p => W'.fz p ∨ p ∈ W'.rho⟩
theorem Ok.kept (o : Ok k W H st) (h : Le (W.sub false H []) W' H H') (o' : Ok k W' H' st') : Le W (W.kept W') H H' ∧ Ok k (W.kept W') H' st := by
  have keep : ∀ p u, H p = some u → H' p = some u := fun p u e => h.rest p u e fun m => nomatch m
  have fz : ∀ p, W'.fz p → W.fz p ∨ H p = none := fun p f => by
    rcases h.newf p f with (z | ⟨z, _⟩) | z
    · exact .inl z
    · cases z
    · exact .inr z
  have rh : ∀ p, p ∈ W'.rho → H p = none := fun p m => by
    rcases h.newr p m with z | z
    · cases z
    · exact z
  have le : Le W (W.kept W') H H' := ⟨⟨[], by simp [Wd.kept]⟩, fun p f => .inl (h.fz p (.inl f)), fun p u e _ => keep p u e, fun p u e _ => keep p u e, fun p u e _ => keep p u e, fun p m => .inl m, fun p f => by
    rcases f with f | f
    · exact fz p f
    · exact .inr (rh p f), h.dom⟩
  refine ⟨le, ⟨o.nd, o.len, fun p f => ?_, fun p m f => ?_, fun i u q e1 e2 => ?_⟩⟩
  · rcases f with f | f
    · exact o'.fzs p f
    · exact o'.there f
  · rcases f with f | f
    · rcases fz p f with z | z
      · exact o.apart p m z
      · exact o.there m z
    · exact o.there m (rh p f)
  · have hq : q ∈ W.rho := List.mem_of_getElem? e2
    refine (o.obj i u q e1 e2).le le ?_
    cases z : H q with
    | none => exact absurd z (o.there hq)
    | some y => exact keep q y z
end
/-! ### a def with defaults, called by names -/
end Mi
namespace Mi
open PySem PySem.Spec PyProof.Rows L2
/-! ### isinstance(e, (C, D)) of a handled error -/
end Mi
namespace Mi
open PySem L2
/-! ### [e for x in xs for y in (a tuple)] -/
theorem SqT.aside {k : Kx} {H : Hp} {p D : Addr} {vs : List V} {acc : List V} {o : HO} (h : SqT k.K H p vs) (hD : H D = some (.lst acc)) : SqT k.K (upd H D o) p vs := by
  have ne : ∀ u, H p = some u → Imm u → p ≠ D := fun u e i z => by
    rw [z, hD] at e
    cases e
    exact i
  rcases h with (h | ⟨u, h⟩) | h
  · exact .inl (.inl (by rw [upd_ne (ne _ h trivial)]; exact h))
  · exact .inl (.inr ⟨u, by rw [upd_ne (ne _ h trivial)]; exact h⟩)
  · exact .inr h
end Mi
namespace Mi
open PySem PySem.Spec PyProof.Rows L2
/-! ### lists of the store, added -/
/-! ### str of tuples and lists -/
/-! ### tuples in a tuple of such -/
end Mi
namespace Mi
open PySem PySem.Spec PyProof.Rows L2
/-! ### comprehensions over a list of the store that stays as it is -/
end Mi
namespace Mi
open PySem PySem.Spec PyProof.Rows L2
/-! ### {k: v, ..} with keys that are written texts -/
/-! ### [.. for x in a list of the store], kept in the store -/
/-! ### a list of any things against the empty list -/
end Mi
namespace Mi
open PySem PySem.Spec PyProof.Rows L2
/-! ### dicts of windows: made of pairs, as a list, how many -/
section
variable {X : Cx} {k : Kx} {pins : List (Addr × Obj)} {σ : L2.St} {H : Hp} {s : Shared} {W : Wd}
theorem leOb {p : Addr} {u : HO} {st : Sto} (o : Ok k W H st) (hp : H p = none) : Le W (W.ob p) H (upd H p u) :=
  ⟨⟨[p], rfl⟩, fun _ h => h, (Le.new (W := W) hp).imm, (Le.new (W := W) hp).keep, (Le.new (W := W) hp).rest, fun q m => by
    rcases List.mem_append.mp (show q ∈ W.rho ++ [p] from m) with m | m
    · exact .inl m
    · exact .inr (by rw [List.mem_singleton.mp m]; exact hp), fun _ h => .inl h, fun _ h => upd_dom h⟩
end
/-! ### None in a list of None and of tuples, whatever these hold -/
end Mi
namespace Mi
open PySem PySem.Spec PyProof.Rows L2
/-! ### d.get(k, v) of keys that are numbers, texts -/
end Mi
namespace Mi
open PySem PySem.Spec PyProof.Rows L2
/-! ### walking a dict whose keys are tuples -/
/-! the world beside a dict that is walked -/
end Mi
namespace Mi
open PySem PySem.Spec PyProof.Rows L2
/-! ### {k: v for x in ..}, the keys tuples -/
end Mi
namespace Mi
open PySem PySem.Spec PyProof.Rows L2 ClX
/-! ### str.replace of written texts: a token must be out already -/
end Mi
namespace Mi
open PySem PySem.Spec PyProof.Rows L2
/-! ### len(set(t)), t a tuple of tuples of ints -/
end Mi
namespace Mi
open PySem PySem.Spec PyProof.Rows L2
/-! ### xs[:c] = ys -/
/-! ### a list of any things is the empty list -/
end Mi
namespace Mi
open PySem PySem.Spec PyProof.Rows L2
/-! ### sorted of a list of ints -/
end Mi
namespace Mi
open PySem L2
/-! ### y = {..} where y is a cell: nothing is swapped -/
end Mi
namespace MiKw
open PySem PySem.HandSPX Builtin Builtin.ObjectAttr
/-! ### errors kept as values -/
/-! C(x = v): the class called with its one argument by name -/
section
variable {M : Model} {prog : Program} {w : World} {A : Around} {E : Value → Shared → Prop} {R : Result → Shared → Prop} {h : Heap} {g : Array GenState} {d : Drawn} {t : Nat} {os : OsState}
variable {nm q : Str} {C N : Addr} {bs bm bmB : List Value} {hdct : Bool} {sn : List Str} {sub : List Value} {ab : Bool} {col : Option Bool} {dd : Option Addr} {k0 k1 k2 k3 k5 : Option Value} {B newId initId : String} {kw : List (Str × Value)}
theorem check_newK (F : ExcBaseFacts B newId initId bmB) (hT : ∀ X : String, bm.contains (.type X) = bmB.contains (.type X)) {Q : Unit → Shared → Prop}
    (hC : h.get? C = some (excClassObj nm q C N bs bm hdct sn sub ab col dd k0 k1 k2 k3 k5 newId)) (hq : Q () ⟨h, g, d, t, os⟩) : wpAny M A (checkBuiltinCall newId ⟨[.ref C], kw⟩) Q E ⟨h, g, d, t, os⟩ := by
  have hcont : (Value.ref C :: bm).contains (.type B) = true := by rw [List.contains_cons, hT, F.hasB, Bool.or_true]
  have hstar := F.noStar
  simp only [checkBuiltinCall, F.newKind, F.newSplit, F.newRow]
  repeat (first | refine wpAny_loadPart_at hC ?_ | (refine wpAny_isSubtype_exc hC ?_; rw [hcont]) | refine wpAny_staticBase_exc hC ?_ | refine wpAny_madeBy_exc hC ?_ | simp only [bne_self_eq_false, Bool.false_eq_true, if_false] | wp_step)
  exact hq
theorem new_K (F : ExcBaseFacts B newId initId bmB) (hT : ∀ X : String, bm.contains (.type X) = bmB.contains (.type X))
    (hC : h.get? C = some (excClassObj nm q C N bs bm hdct sn sub ab col dd k0 k1 k2 k3 k5 newId))
    (hq : R (.ok (.ret (.ref (h.objs.size + 1)))) ⟨(h.push (W.kdv_tup [])).push (excO C h.objs.size), g, d, t, os⟩) :
    codeAny (model prog w) A (.builtin newId ⟨[.ref C], kw⟩) R ⟨h, g, d, t, os⟩ := by
  have hends := F.ends
  have hcB : (Value.ref C :: bm).contains (.type B) = true := by rw [List.contains_cons, hT, F.hasB, Bool.or_true]
  have hcA : (Value.ref C :: bm).contains (.type "AttributeError") = false := by rw [List.contains_cons, hT, F.noAttr]; rfl
  have hcN : (Value.ref C :: bm).contains (.type "NameError") = false := by rw [List.contains_cons, hT, F.noName]; rfl
  have hrest : ([] : List Value).length ≤ sizeLine := Nat.zero_le _
  refine codeAny_builtinAt F.entry ?_
  unfold Builtin.«BaseException.__new__»
  refine wpAt_bind ?_
  show wpAt _ _ _ (stack >>= _) _ _ _
  refine wpAt_bind (wpAt_stack fun p below => wpAt_of_wpAny ?_)
  wp_walk
  refine wpAt_of_wpAny ?_
  rw [F.owner]
  repeat (first | with_reducible refine wpAny_madeHere_exc F.canon hC ?_ | with_reducible refine wpAny_loadPart_at hC ?_ | (with_reducible refine wpAny_isSubtype_exc hC ?_; first | rw [hcB] | rw [hcA] | rw [hcN]) | wp_step)
  show R _ _
  rw [Heap.size_push]
  exact hq
theorem type_call_K (F : ExcBaseFacts B newId initId bmB) (hT : ∀ X : String, bm.contains (.type X) = bmB.contains (.type X)) {fI : Addr} {Q : Fin → Shared → Prop}
    (hC : h.get? C = some (excClassObj nm q C N bs bm hdct sn sub ab col dd k0 k1 k2 k3 k5 newId))
    (hi : W.Looks (model prog w) h (typeLookup (.ref C) "__init__") (some (.ref fI))) (hb : ∀ self, W.Looks (model prog w) h (bindSpecial (.ref fI) self) (.ref fI, [self]))
    (hq : codeAny (model prog w) A (.call (.ref fI) ⟨[.ref (h.objs.size + 1)], kw⟩)
      (fun r s' => match r with | .ok (.ret v) => v = .none ∧ Q (.done (.ret (.ref (h.objs.size + 1)))) s' | .ok _ => False | .error e => E e s')
      ⟨(h.push (W.kdv_tup [])).push (excO C h.objs.size), g, d, t, os⟩) :
    wpAny (model prog w) A (Builtin.«type.__call__» ⟨[.ref C], kw⟩) Q E ⟨h, g, d, t, os⟩ := by
  repeat (first | with_reducible refine wpAny_loadPart_at hC ?_ | with_reducible refine wpAny_madeBy_exc hC ?_ | wp_step)
  refine codeAny_call_builtin_code (Code.quiet_builtin _ F.quiet) (check_newK F hT hC ?_)
  refine new_K F hT hC ?_
  show wpAny _ _ _ _ _ _
  have k : ∀ b o, h.get? b = some o → ((h.push (W.kdv_tup [])).push (excO C h.objs.size)).get? b = some o := fun b o e => Heap.get?_push_of_some _ (Heap.get?_push_of_some _ e)
  have hC₁ := k _ _ hC
  have hget : ((h.push (W.kdv_tup [])).push (excO C h.objs.size)).get? (h.objs.size + 1) = some (excO C h.objs.size) := by heap_get
  have hcC : (Value.ref C :: bm).contains (.ref C) = true := by simp
  have i1 := hi.keeps k
  have b1 := (hb (.ref (h.objs.size + 1))).keeps k
  unfold isInstance
  repeat (first | with_reducible refine wpAny_loadPart_at hget ?_ | (with_reducible refine wpAny_isSubtype_exc hC₁ ?_; rw [hcC]) | wp_step)
  show wpAny _ _ (typeLookup (.ref C) _) _ _ _
  refine i1.at ?_
  refine wpAny_holding (wpAny_bind (b1.at ?_))
  refine wpAny_bind (wpAny_call (codeAny_mono hq fun r s' z => ?_))
  rcases r with e | (v | _ | _ | _) <;> first | exact z | exact z.elim | skip
  obtain ⟨rfl, z⟩ := z
  first
    | exact wpAny_pure (wpAny_pure z)
    | (wp_walk; exact z)
theorem call_K (F : ExcBaseFacts B newId initId bmB) (hT : ∀ X : String, bm.contains (.type X) = bmB.contains (.type X)) {fI : Addr}
    (hC : h.get? C = some (excClassObj nm q C N bs bm hdct sn sub ab col dd k0 k1 k2 k3 k5 newId))
    (hi : W.Looks (model prog w) h (typeLookup (.ref C) "__init__") (some (.ref fI))) (hb : ∀ self, W.Looks (model prog w) h (bindSpecial (.ref fI) self) (.ref fI, [self]))
    (hq : codeAny (model prog w) (A.under (.builtin "type.__call__" ⟨[.ref C], kw⟩)) (.call (.ref fI) ⟨[.ref (h.objs.size + 1)], kw⟩) (W.InitBack (h.objs.size + 1) R)
      ⟨(h.push (W.kdv_tup [])).push (excO C h.objs.size), g, d, t, os⟩) :
    codeAny (model prog w) A (.call (.ref C) ⟨[], kw⟩) R ⟨h, g, d, t, os⟩ := by
  have f1 := tc_lookup
  have f2 := tc_bind (.ref C)
  have hTy : (⟨h, g, d, t, os⟩ : Shared).TypeIs (.ref C) "type" := ⟨_, hC, rfl⟩
  refine codeAny_of_tree ?_
  show wpAny _ _ (callAny (.ref C) _) _ _ _
  repeat (any_goals (first | assumption | with_reducible refine wpAny_loadPart_at hC ?_ | wp_step))
  refine ⟨rfl, ?_⟩
  refine codeAny_call_builtin_at (Code.quiet_builtin _ (by decide +kernel)) entry_typeCall (wpAny_check_type_call_sub hC (type_call_K F hT hC hi hb ?_))
  refine codeAny_mono hq fun r s' z => ?_
  rcases r with e | (v | _ | _ | _) <;> exact z
end
end MiKw
namespace Mi
open PySem L2
theorem exv_ok {P : Program} {w : World} {H : Hp} {h : Heap} {a C : Addr} {d : Option Addr} {oe : Obj} {vs : Array Value} (e : h.get? a = some oe) (z : Zc (.ref C) d oe) (q : oe.data = .fields vs) : ObjOk P w H h a (ExV C d a) :=
  ⟨⟨oe, vs, e, z, q⟩, ⟨oe, e⟩, fun _ _ ⟨o, v, q, r⟩ k => ⟨o, v, k o q, r⟩⟩
section
variable {X : Cx} {pins : List (Addr × Obj)} {σ : L2.St} {H1 : Hp} {px f : Str} {B newId i : String} {bmB : List Value} {C fI : Addr} {hp : Heap} {g : Array GenState} {dr : Drawn} {tk : Nat} {os : OsState}
/-- the __init__ called: the error stands, with its one field -/
theorem sup_made (S : SupC X.prog X.K X.mg px f B newId i bmB C fI) {A : Around} {R : Result → Shared → Prop} {args : Args} {rest : List Value} {u : Value} {v : V} (hargs : args = ⟨[.ref (hp.objs.size + 1), u], []⟩ ∨ args = ⟨[.ref (hp.objs.size + 1)], [(px, u)]⟩)
    (I1 : L2.Inv X pins σ H1 ⟨hp, g, dr, tk, os⟩) (ru : RelV v u) (hroom : A.depth < recursionLimit)
    (hR : ∀ s' d a, H1 d = none → H1 a = none → d ≠ a → a = hp.objs.size + 1 → L2.Inv X pins σ (upd (upd H1 d (.xd [(f, v)])) a (ExV C (some d) a)) s' → R (.ok (.ret .none)) s') :
    codeAny (model X.prog X.w) A (.call (.ref fI) args) R ⟨(hp.push (PySem.W.kdv_tup rest)).push (PySem.HandSPX.excO C hp.objs.size), g, dr, tk, os⟩ := by
  have kk : ∀ b o, hp.get? b = some o → ((hp.push (PySem.W.kdv_tup rest)).push (PySem.HandSPX.excO C hp.objs.size)).get? b = some o := fun b o e => Heap.get?_push_of_some _ (Heap.get?_push_of_some _ e)
  have hget : ((hp.push (PySem.W.kdv_tup rest)).push (PySem.HandSPX.excO C hp.objs.size)).get? (hp.objs.size + 1) = some (PySem.HandSPX.excO C hp.objs.size) := by heap_get
  have hbe : X.base.get? (hp.objs.size + 1) = none := by
    cases z : X.base.get? (hp.objs.size + 1) with
    | none => rfl
    | some o => exact absurd (Heap.lt_size (I1.bk _ _ z)) (Nat.not_lt.mpr (Nat.le_succ _))
  refine sup_initK S hargs I1.mod (fun b o z => kk b o (I1.bk b o z)) hroom hget hbe fun h2 tk2 t1 dx k2 d1 d2 e2 n2 => ?_
  have dz : hp.objs.size ≤ dx := by
    rw [Heap.size_push, Heap.size_push] at d1
    omega
  obtain ⟨G, g1, g2⟩ := restrict h2 fun b => decide (b ≠ hp.objs.size + 1)
  have gk : ∀ b, b ≠ hp.objs.size + 1 → G.get? b = h2.get? b := fun b hb => g1 b (decide_eq_true hb)
  have ge : G.get? (hp.objs.size + 1) = none := g2 _ (by simp)
  have nd : ∀ {b : Addr} {o : Obj}, hp.get? b = some o → b ≠ hp.objs.size + 1 := fun {b o} z => Nat.ne_of_lt (Nat.lt_of_lt_of_le (Heap.lt_size z) (Nat.le_succ _))
  have hn1 : H1 dx = none := I1.hok.fresh dz
  have hna : H1 (hp.objs.size + 1) = none := I1.hok.fresh (Nat.le_succ _)
  have J : L2.Inv X pins σ (upd H1 dx (.xd [(f, v)])) ⟨G, g, dr, tk2, os⟩ := I1.laid (t' := tk2) (a := dx) (o := .xd [(f, v)]) (h' := G) (fun b o z => by
      rw [gk b (nd z)]
      exact k2 b o (nd z) (kk b o z)) dz ⟨_, n2.at fun o y => (gk dx d2).trans y, fun y => by
      by_cases hy : y = f
      · subst hy
        simp [List.lookup, RelO]
        exact ru
      · have hb : (y == f) = false := by simpa using hy
        simp [List.lookup, hb, hy, RelO]⟩
  have J2 : L2.Inv X pins σ (upd (upd H1 dx (.xd [(f, v)])) (hp.objs.size + 1) (ExV C (some dx) (hp.objs.size + 1))) ⟨h2, g, dr, tk2, os⟩ := J.laidN (t' := tk2) (h' := h2) (fun b o z => by
      by_cases hb : b = hp.objs.size + 1
      · rw [hb, ge] at z
        cases z
      · exact (gk b hb).symm.trans z) ge (by rw [upd_ne (Ne.symm d2)]; exact hna) (exv_ok e2 ⟨rfl, rfl⟩ rfl)
  exact hR _ dx _ hn1 hna d2 rfl J2
end
section
variable {X : Cx} {nm px f : Str} {B newId i : String} {bmB : List Value} {C fI : Addr}
/-- C(e), as a value -/
theorem pe_supV {e : Expr} {ta : TA} {p pos : Pos} (S : SupC X.prog X.K X.mg px f B newId i bmB C fI) (hr : Room 1 X.A) (hg : Gl X nm) (hm : X.mg nm = some (.ref C)) (ha : PA X [e] ta)
    (hdb : (nm == ("__debug__" : Str)) = false := by decide) (he : starEach [e] X.env = (false, PySem.eval e X.env) :: starEach [] X.env := by rfl) :
    PE X (.Call (.Name nm p) [e] [] pos) (fun σ H Q => ta σ H fun vs H1 => ∃ v, vs = [v] ∧ ∀ d a, H1 d = none → H1 a = none → d ≠ a → Q (.ref a) (upd (upd H1 d (.xd [(f, v)])) a (ExV C (some d) a))) := by
  refine ⟨fun pins s σ H Q I h => ?_⟩
  refine wpAny_Call_Name_kw (ld_glob I hg hm ?_ hdb)
  refine PySem.W.callWith_K (h₀ := X.base) I.ok.mod.kin S.kp (thn (ha.run pos pins s σ H _ I h) fun us s1 ⟨vs, H1, I1, r1, v, ev, q1⟩ => ⟨I1.kIn, ?_⟩) he rfl
  subst ev
  show wpAny _ _ (call (.ref C) us) _ _ _
  obtain ⟨hp, g, dr, tk, os⟩ := s1
  obtain ⟨u, rfl, ru⟩ : ∃ u, us = [u] ∧ RelV v u := by
    cases r1 with
    | cons a b =>
      cases b
      exact ⟨_, rfl, a⟩
  obtain ⟨nm', N', qn, bs, bm, hdct, sn, sub, ab, col, dd, k0, k1, k2, k3, k5, hC, hT⟩ := PySem.W.excInit_of I1.kIn S.q
  refine wpAny_call (PySem.HandSPX.call_own S.fb hT hC (PySem.W.looks_findIn I1.kIn S.ic) (fun self => PySem.W.bind_fn I1.kIn self S.it) (by show 1 ≤ _; decide) ?_)
  exact sup_made S (.inl rfl) I1 ru (hr.make C [u] []).depth fun s' d a h1 h2 h3 ea J => ⟨rfl, .ref a, _, J, by rw [ea]; rfl, q1 d a h1 h2 h3⟩
/-- C(x = e), as a value -/
theorem pe_supK {kws : List Keyword} {t : TA} {p pos : Pos} (S : SupC X.prog X.K X.mg px f B newId i bmB C fI) (hr : Room 1 X.A) (hg : Gl X nm) (hm : X.mg nm = some (.ref C)) (hkw : PK X kws t)
    (hall : (backToKw pos (keywordEach kws X.env)).all (·.1.isSome) = true := by rfl) (hks : (backToKw pos (keywordEach kws X.env)).filterMap (·.1) = [px] := by rfl) (hdb : (nm == ("__debug__" : Str)) = false := by decide)
    (hpl : ((backTo pos (starEach [] X.env)).any (·.1) || (backToKw pos (keywordEach kws X.env)).any (·.1.isNone)) = false := by rfl) :
    PE X (.Call (.Name nm p) [] kws pos) (fun σ H Q => t σ H fun vs H1 => ∃ v, vs = [v] ∧ ∀ d a, H1 d = none → H1 a = none → d ≠ a → Q (.ref a) (upd (upd H1 d (.xd [(f, v)])) a (ExV C (some d) a))) := by
  refine ⟨fun pins s σ H Q I h => ?_⟩
  refine wpAny_Call_Name_kw (ld_glob I hg hm ?_ hdb)
  refine PySem.W.callWith_KW0 (h₀ := X.base) I.ok.mod.kin S.kp hall ?_ hpl
  refine thn (hkw.run pos pins s σ H _ I h) fun ws s1 ⟨vs, H1, I1, r1, v, ev, q1⟩ => ⟨I1.kIn, ?_⟩
  subst ev
  rw [hks]
  obtain ⟨hp, g, dr, tk, os⟩ := s1
  obtain ⟨u, rfl, ru⟩ : ∃ u, ws = [u] ∧ RelV v u := by
    cases r1 with
    | cons a b =>
      cases b
      exact ⟨_, rfl, a⟩
  show wpAny _ _ (call (.ref C) [] [(px, u)]) _ _ _
  obtain ⟨nm', N', qn, bs, bm, hdct, sn, sub, ab, col, dd, k0, k1, k2, k3, k5, hC, hT⟩ := PySem.W.excInit_of I1.kIn S.q
  refine wpAny_call (MiKw.call_K S.fb hT hC (PySem.W.looks_findIn I1.kIn S.ic) (fun self => PySem.W.bind_fn I1.kIn self S.it) ?_)
  exact sup_made S (.inr rfl) I1 ru (hr.make C [] [(px, u)]).depth fun s' d a h1 h2 h3 ea J => ⟨rfl, .ref a, _, J, by rw [ea]; rfl, q1 d a h1 h2 h3⟩
/-- C(), of a class without an own __init__, as a value -/
theorem pe_exc0 {p pos : Pos} (S : Sup0 X.K B newId i bmB C) (hg : Gl X nm) (hm : X.mg nm = some (.ref C)) (hdb : (nm == ("__debug__" : Str)) = false := by decide) :
    PE X (.Call (.Name nm p) [] [] pos) (fun _ H Q => ∀ a, H a = none → Q (.ref a) (upd H a (ExV C none a))) := by
  refine ⟨fun pins s σ H Q I h => ?_⟩
  refine wpAny_Call_Name_kw (ld_glob I hg hm ?_ hdb)
  refine PySem.W.callWith_K0 I.kIn S.kp ?_
  show wpAny _ _ (call (.ref C) []) _ _ _
  obtain ⟨bm, N, nm, qn, bs, hdct, sn, sub, ab, col, dd, k0, k1, k2, k3, k5, mN, hC, hN, hni, T⟩ := exc_obj I.kIn S.q
  refine wpAny_call_exc_subT S.fb T hC hN hni (fun h' a hm => ?_) (by show 0 ≤ _; omega)
  have hn : H a = none := I.hok.gone hm.new
  obtain ⟨t, ht, _, _⟩ := hm.there
  exact ⟨.ref a, upd H a (ExV C none a), I.laidN hm.keeps hm.new hn (exv_ok ht ⟨rfl, rfl⟩ rfl), rfl, h a hn⟩
end
/-! ### the mirror's words for them -/
/-- c(..), an error kept: its fields ks -/
def mkX (c : Str) (ks : List Str) (ms : M (List Val)) : M Val := bnd ms fun vs => liftS fun st => if ks.length = vs.length then some (.ref st.length, st ++ [.exo c ks vs]) else none
def exoF (own : Str → Bool) (f : Str) (st : Sto) : Val → Option Val
  | .ref i => match st[i]? with
    | some (.exo c ks xs) => if own c then fieldOf f ks xs else none
    | _ => none
  | _ => none
def exoI (own : Str → Option Bool) (st : Sto) : Val → Option Val
  | .ref i => match st[i]? with
    | some (.exo c _ _) => (own c).map .bl
    | _ => none
  | _ => none
section
variable {X : Cx} {k : Kx} {E : WX}
theorem newEx {W : Wd} {H : Hp} {st : Sto} {c f : Str} {y : Val} {v : V} {Q : VK} (ok : Ok k W H st) (rv : RepV k W H y v) (q : ∀ W' H' v, Le W W' H H' → Ok k W' H' (st ++ [.exo c [f] [y]]) → RepV k W' H' (.ref st.length) v → Q v H') {d a : Addr} (hd : H d = none) (ha : H a = none) (hda : d ≠ a) :
    Q (.ref a) (upd (upd H d (.xd [(f, v)])) a (ExV (k.cl c) (some d) a)) := by
  have l : Le W W H (upd H d (.xd [(f, v)])) := Le.new hd
  have ha1 : upd H d (.xd [(f, v)]) a = none := by rw [upd_ne (Ne.symm hda)]; exact ha
  have l2 : Le W (W.ob a) (upd H d (.xd [(f, v)])) (upd (upd H d (.xd [(f, v)])) a (ExV (k.cl c) (some d) a)) := leOb (ok.new hd) ha1
  refine newSO (u := .exo c [f] [y]) (ok.new hd) ha1 ?_ fun W' H' v' l' o' r' => q W' H' v' (l.trans l') o' r'
  exact ⟨some d, upd_same, rfl, .inr ⟨d, [v], rfl, by rw [upd_ne hda]; exact upd_same, v, [], rfl, (rv.le l).le l2, rfl⟩⟩
theorem mkX_read {c f : Str} {ms : M (List Val)} {σ : L2.St} {H : Hp} {Q : VK} (h : tM k E (mkX c [f] ms) σ H Q) :
    tMa k E ms σ H fun vs H1 => ∃ v, vs = [v] ∧ ∀ d a, H1 d = none → H1 a = none → d ≠ a → Q (.ref a) (upd (upd H1 d (.xd [(f, v)])) a (ExV (k.cl c) (some d) a)) :=
  tG.mono (tG.bnd (R1 := RepL k) h) fun vs H1 ⟨W, us, ru, h1⟩ => by
    obtain ⟨x, st, st', e, o, q⟩ := h1.liftS
    split at e
    · rename_i hl
      cases e
      obtain ⟨y, rfl⟩ : ∃ y, us = [y] := by
        cases us with
        | nil => cases hl
        | cons y l =>
          cases l with
          | nil => exact ⟨y, rfl⟩
          | cons z l => simp at hl
      obtain ⟨v, r, rfl, r1, r2⟩ := ru
      obtain rfl : r = [] := r2
      exact ⟨v, rfl, fun d a hd ha hda => newEx o r1 q hd ha hda⟩
    · cases e
theorem me_mkX {c nm px f : Str} {B newId i : String} {bmB : List Value} {fI : Addr} {e : Expr} {ms : M (List Val)} {p pos : Pos} (S : SupC X.prog X.K X.mg px f B newId i bmB (k.cl c) fI) (hr : Room 1 X.A) (hg : Gl X nm) (hm : X.mg nm = some (.ref (k.cl c))) (ha : PA X [e] (tMa k E ms))
    (hdb : (nm == ("__debug__" : Str)) = false := by decide) (he : starEach [e] X.env = (false, PySem.eval e X.env) :: starEach [] X.env := by rfl) : PE X (.Call (.Name nm p) [e] [] pos) (tM k E (mkX c [f] ms)) :=
  imp (pe_supV S hr hg hm ha hdb he) fun σ H Q h => mkX_read h
theorem me_mkXK {c nm px f : Str} {B newId i : String} {bmB : List Value} {fI : Addr} {kws : List Keyword} {ms : M (List Val)} {p pos : Pos} (S : SupC X.prog X.K X.mg px f B newId i bmB (k.cl c) fI) (hr : Room 1 X.A) (hg : Gl X nm) (hm : X.mg nm = some (.ref (k.cl c))) (ha : PK X kws (tMa k E ms))
    (hall : (backToKw pos (keywordEach kws X.env)).all (·.1.isSome) = true := by rfl) (hks : (backToKw pos (keywordEach kws X.env)).filterMap (·.1) = [px] := by rfl) (hdb : (nm == ("__debug__" : Str)) = false := by decide)
    (hpl : ((backTo pos (starEach [] X.env)).any (·.1) || (backToKw pos (keywordEach kws X.env)).any (·.1.isNone)) = false := by rfl) : PE X (.Call (.Name nm p) [] kws pos) (tM k E (mkX c [f] ms)) :=
  imp (pe_supK S hr hg hm ha hall hks hdb hpl) fun σ H Q h => mkX_read h
theorem me_mkX0 {c nm : Str} {B newId i : String} {bmB : List Value} {p pos : Pos} (S : Sup0 X.K B newId i bmB (k.cl c)) (hg : Gl X nm) (hm : X.mg nm = some (.ref (k.cl c))) (hdb : (nm == ("__debug__" : Str)) = false := by decide) :
    PE X (.Call (.Name nm p) [] [] pos) (tM k E (mkX c [] nilM)) :=
  imp (pe_exc0 S hg hm hdb) fun σ H Q ⟨W, env, st, o, h1, h2, h3, h4⟩ a ha => by
    cases h3
    exact newSO (u := .exo c [] []) h1 ha ⟨none, upd_same, rfl, .inl ⟨rfl, rfl⟩⟩ h4
/-- where an error is kept -/
theorem exo_at {W : Wd} {H : Hp} {st : Sto} {i : Nat} {c : Str} {ks : List Str} {xs : List Val} {v : V} (o : Ok k W H st) (hi : st[i]? = some (.exo c ks xs)) (r : RepV k W H (.ref i) v) :
    ∃ a d, v = .ref a ∧ H a = some (ExV (k.cl c) d a) ∧ (ks = [] ∧ d = none ∨ ∃ dx vs, d = some dx ∧ H dx = some (.xd (ks.zip vs)) ∧ RepL k W H xs vs) := by
  obtain ⟨p, rfl, hp⟩ := r
  obtain ⟨d, z, n, r⟩ := o.obj i _ p hi hp
  exact ⟨p, d, rfl, z, r⟩
theorem me_of {n f : Str} {i : Nat} {own : Str → Bool} {p pos : Pos} (ho : ∀ c, own c = true → XcC X.K (k.cl c) ∧ PySem.W.findIn X.K (.ref (k.cl c)) f = some none)
    (hv : PE X (.Name n p) (tVar i)) (hb : attributeBase (.Name n p) f X.env (PySem.eval (.Name n p) X.env) = PySem.eval (.Name n p) X.env := by rfl) :
    PE X (.Attribute (.Name n p) f pos) (tM k E (un (exoF own f) (var i))) := by
  refine ⟨fun pins s σ H Q I h => ?_⟩
  obtain ⟨W, env, st, o, h1, h2, h3, h4⟩ := h
  obtain ⟨v, c, hi, hc, rfl⟩ := un_var h3
  obtain ⟨u, hu, ru⟩ := h2.get hi
  unfold exoF at hc
  split at hc
  · rename_i j
    split at hc
    · rename_i n ks xs hj
      split at hc
      · rename_i hn
        obtain ⟨a, d, rfl, hA, e5⟩ := exo_at h1 hj ru
        obtain ⟨T, hno⟩ := ho _ hn
        rcases e5 with ⟨e5, e6⟩ | ⟨dx, vs, e5, e6, e7⟩
        · subst e5
          cases hc
        obtain ⟨v, hl, rv⟩ := fieldOf_rep e7 hc
        refine attr_of hb (thn (hv.run pins s σ H (fun x H' => x = .ref a ∧ H' = H) I ⟨.ref a, hu, rfl, rfl⟩) fun u s1 hh => ?_)
        obtain ⟨x, H1, I1, rx, ex, eH⟩ := hh
        subst ex eH
        obtain rfl : u = Value.ref a := rx
        obtain ⟨⟨oe, os, hoe, hz, hd⟩, _, _⟩ := I1.hok a _ hA
        have hx : ObjOk X.prog X.w _ s1.heap dx (.xd (ks.zip vs)) := I1.hok dx _ e6
        obtain ⟨mA, hns, hr⟩ := hx
        obtain ⟨od, hod, hl2⟩ := lookIn_ns hns
        obtain ⟨u, hu2, ru2⟩ := RelO.some_of (v := v) (o := mA f) (by rw [← hl]; exact hr f)
        have J : PySem.W.InstAt s1.heap a oe (k.cl n) (some od) := ⟨hoe, hz.1, by unfold PySem.W.notCls; rw [hd] <;> rfl, by rw [hz.2, e5]; exact hod⟩
        exact PySem.HandSPX.exc_get I1.kIn J T.ga T.gg T.bx (PySem.W.findObj_own T.hd hno rfl (by rw [hl2, hu2])) (handed_of ru2) ⟨v, _, I1.tok _, ru2, h4 W _ v (Le.refl _ _) h1 rv⟩
      · cases hc
    · cases hc
  · cases hc
theorem call_isO : CallR X (.builtin "isinstance") (fun xs H Q => ∃ (a C : Addr) (d : Option Addr) (c : V) (cv : Value) (b : Bool), H a = some (ExV C d a) ∧ (d = none ∨ ∃ dx fs, d = some dx ∧ H dx = some (.xd fs)) ∧ XcC X.K C ∧ xs = [.ref a, c] ∧ (∀ u, RelV c u → u = cv) ∧ PySem.W.kitOne X.K (.ref C) cv = some b ∧ Q (.bl b) H) := by
  intro pins s σ H xs us Q I r h
  obtain ⟨a, D, d, c, cv, b, hA, hd, C, rfl, hcv, e, q⟩ := h
  obtain ⟨u1, u2, rfl, r1, r2⟩ := vals2 r
  obtain rfl : u1 = Value.ref a := r1
  have ec := hcv _ r2
  subst ec
  obtain ⟨⟨oe, vs, hget, hz, hv⟩, _, _⟩ := I.hok a _ hA
  have hcl : (PySem.W.clsIn X.K D).isSome = true := by
    obtain ⟨cd, hc, _⟩ := PySem.W.any_some C.hd
    rw [hc]
    rfl
  have J : ∃ od, PySem.W.InstAt s.heap a oe D od := by
    obtain ⟨oc, od, oda, osl⟩ := oe
    obtain ⟨h1, h2⟩ := hz
    dsimp only at h1 h2 hv
    subst h1 h2 hv
    rcases hd with hd | ⟨dx, fs, hd, hH⟩
    · subst hd
      exact ⟨none, hget, rfl, rfl, trivial⟩
    · subst hd
      have hx : ObjOk X.prog X.w H s.heap dx (.xd fs) := I.hok dx _ hH
      obtain ⟨mA, ⟨od, _, _, ho, _⟩, _⟩ := hx
      exact ⟨some od, hget, rfl, rfl, ho⟩
  obtain ⟨od, J⟩ := J
  exact PySem.W.kia_one (PySem.W.kitx_exc hcl C.ga C.gg C.bx C.ca C.cn C.ct C.cm) I.kIn J e (fun z => nomatch z) fun tk => ⟨.bl b, H, I.kept (t' := tk) fun _ _ z => z, rfl, q⟩
theorem me_oi {n : Str} {i : Nat} {own : Str → Option Bool} {c : Expr} {cv : V} {u : Value} {p p2 pos : Pos} (hcv : ClsV cv u) (ho : ∀ c b, own c = some b → XcC X.K (k.cl c) ∧ PySem.W.kitOne X.K (.ref (k.cl c)) u = some b)
    (hg : Gl X "isinstance") (hm : X.mg "isinstance" = none) (hv : PE X (.Name n p) (tVar i)) (hcl : PE X c (tC cv))
    (hs1 : starEach [.Name n p, c] X.env = (false, PySem.eval (.Name n p) X.env) :: starEach [c] X.env := by rfl) (hs2 : starEach [c] X.env = (false, PySem.eval c X.env) :: starEach [] X.env := by rfl) (hpl : (backTo pos (starEach [c] X.env)).any (·.1) = false := by rfl) :
    PE X (.Call (.Name "isinstance" p2) [.Name n p, c] [] pos) (tM k E (un (exoI own) (var i))) := by
  refine ⟨fun pins s σ H Q I h => ?_⟩
  obtain ⟨W, env, st, o, h1, h2, h3, h4⟩ := h
  obtain ⟨v, c', hi, hc, rfl⟩ := un_var h3
  obtain ⟨w, hu, ru⟩ := h2.get hi
  unfold exoI at hc
  split at hc
  · rename_i j
    split at hc
    · rename_i n ks xs hj
      cases q : own n with
      | none =>
        rw [q] at hc
        cases hc
      | some b =>
        rw [q] at hc
        cases hc
        obtain ⟨a, d, rfl, hA, e5⟩ := exo_at h1 hj ru
        obtain ⟨T, hk⟩ := ho _ _ q
        refine (pe_callB call_isO hg hm PyProof.Rows.boot_isinstance (pa_cons hv (pa_cons hcl pa_nil hs2) hs1) (by decide) (by decide) hs1 hpl).run pins s σ H Q I ?_
        refine ⟨.ref a, hu, a, k.cl n, d, cv, u, b, hA, ?_, T, rfl, fun z hz => hcv.eq hz, hk, h4 W H _ (Le.refl _ _) h1 rfl⟩
        rcases e5 with ⟨_, e5⟩ | ⟨dx, vs, e5, e6, _⟩
        · exact .inl e5
        · exact .inr ⟨dx, _, e5, e6⟩
    · cases hc
  · cases hc
end
/-! ### repr of things in which lists of the store stand -/
def reprDV (st : Sto) : List Val → Option Val
  | [a] => match snapD st 9 a with
    | some b => reprV [] [b]
    | none => none
  | _ => none
theorem cu_reprD {X : Cx} {k : Kx} {n : Nat} (hG : X.A.guards = some []) (hr : Room n X.A) (hk : X.K = k.K := by rfl) : CallU X k (.builtin "repr") reprDV := by
  refine ⟨_, ?_, call_reprD hG hr.units⟩
  intro W H st as xs c Q o r e q
  unfold reprDV at e
  split at e
  · rename_i a
    obtain ⟨v, rfl, r1⟩ := rep1 r
    split at e
    · rename_i b hb
      have r2 := snapD_rep o 9 a b v r1 hb
      unfold reprV at e
      dsimp only at e
      split at e
      · rename_i d hd
        split at e
        · rename_i hs
          cases e
          rw [hk]
          exact ⟨v, d, rfl, toD_rep o.all r2 hd, hs.1, hs.2.1, lim_le hs.2.2.1, hs.2.2.2, q W H _ (Le.refl _ _) o rfl⟩
        · cases e
      · cases e
    · cases e
  · cases e
end Mi
namespace Pg
open PySem PySem.Spec PyProof.Rows L2 Mi
def s_is_sequence : S :=
  (sRet (un (isiV (isiT2 "list" "tuple") noOwn) (var 0)))
def c_is_sequence : CF := callS 1 s_is_sequence
def s_is_name : S :=
  (sSeq (sIf (orB (notB (asB (un (isiV (isiT "str") noOwn) (var 0)))) (notB (asB (chain (cmpV fun i j => decide (i < j)) (cmpV fun i j => decide (i ≤ j)) (ret (.int 0)) (app lenV (consM (var 0) nilM)) (ret (.int 4)))))) (sRet (ret (.bl false))) sNext)
    (sRet (app allV (consM (comp (itS (var 0)) (.name 1) [1] yes (bin inVal (var 1) (ret (.str "abcdefghijklmnopqrstuvwxyz")))) nilM))))
def c_is_name : CF := callS 2 s_is_name
end Pg
namespace Pg
open PySem PySem.Spec PyProof.Rows L2 Mi
end Pg
namespace Pg
open PySem PySem.Spec PyProof.Rows L2 Mi
end Pg
namespace Pg
open PySem PySem.Spec PyProof.Rows L2 Mi
end Pg
namespace Pg
open PySem PySem.Spec PyProof.Rows L2 Mi
end Pg
namespace Pg
open PySem PySem.Spec PyProof.Rows L2 Mi
end Pg
namespace Pg
open PySem PySem.Spec PyProof.Rows L2 Mi
end Pg
namespace Pg
open PySem PySem.Spec PyProof.Rows L2 Mi
end Pg
namespace Pg
open PySem PySem.Spec PyProof.Rows L2 Mi
end Pg
namespace Pg
open PySem PySem.Spec PyProof.Rows L2 Mi
end Pg
namespace LwA
open PySem PySem.Spec PyProof.Rows L2 Mi Pg
def s_l_deal : S :=
  (sSeq (sSet 2 (comp (itS (sliceM (var 0) (part (var 1)) (part (ret (.int 62))))) (.name 4) [4] yes (app absV' (consM (app intV (consM (var 4) nilM)) nilM))))
    (sSeq (sSet 3 (bin addV (ret (.int 86028121)) (bin mulV (ret (.int 29)) (var 1))))
    (sSeq (sFor (itS (var 2)) (.name 4) (sSet 3 (bin modV (app intV (consM (bin addV (bin addV (bin mulV (var 3) (ret (.int 39373))) (bin modV (app intV (consM (var 4) nilM)) (ret (.int 2147483587)))) (ret (.int 11))) nilM)) (ret (.int 2147483647)))))
    (sRet (mkLstM (consM (unS revVM (comp (itS (var 2)) (.name 4) [4] (asB (bin (cmpV fun i j => decide (j ≤ i)) (var 4) (bin powV (ret (.int 10)) (ret (.int 18))))) (var 4))) (consM (var 3) nilM)))))))
def c_l_deal : CF := callS 5 s_l_deal
def s_l_draw : S :=
  (sSeq (sWhile (andB (asB (bin neV (bin idxV (var 0) (ret (.int 0))) (mkLst nilM))) (asB (bin eqV (bin idxV (bin idxV (var 0) (ret (.int 0))) (un (fun _ a => (intOf a).map fun i => .int (-i)) (ret (.int 1)))) (ret (.int 0))))) (sExpr (lm popV (bin idxV (var 0) (ret (.int 0))) nilM)) 100)
    (sSeq (sIf (asB (bin neV (bin idxV (var 0) (ret (.int 0))) (mkLst nilM))) (sSeq (sSet 2 (lm popV (bin idxV (var 0) (ret (.int 0))) nilM))
    (sSeq (sExpr (lm appendV (bin idxV (var 0) (ret (.int 0))) (consM (bin fdivV (var 2) (var 1)) nilM)))
    (sRet (bin modV (app intV (consM (var 2) nilM)) (var 1))))) sNext)
    (sSeq (sSub (bin modV (app intV (consM (bin addV (bin mulV (bin idxV (var 0) (ret (.int 1))) (ret (.int 39373))) (ret (.int 23))) nilM)) (ret (.int 2147483647))) (var 0) (ret (.int 1)))
    (sRet (bin modV (app intV (consM (bin fdivV (bin idxV (var 0) (ret (.int 1))) (ret (.int 16))) nilM)) (var 1))))))
def c_l_draw : CF := callS 3 s_l_draw
def s_l_pick : S :=
  (sRet (bin idxV (var 1) (callM 2 c_l_draw [] (consM (var 0) (consM (app lenV (consM (var 1) nilM)) nilM)))))
def c_l_pick : CF := callS 2 s_l_pick
end LwA
namespace LwA
open PySem PySem.Spec PyProof.Rows L2 Mi Pg
end LwA
namespace LwA
open PySem PySem.Spec PyProof.Rows L2 Mi Pg
end LwA
namespace LwA
open PySem PySem.Spec PyProof.Rows L2 Mi Pg
end LwA
namespace LwA
open PySem PySem.Spec PyProof.Rows L2 Mi Pg
end LwA
namespace K01
open PySem PySem.Spec PyProof.Rows L2 Mi Pg LwA
def topS (i : Nat) : Stmt := PySem.Challenge.pw_turncalls_k01_errors_and_what_they_keep.main.body.getD i (.Pass ⟨0, 0, 0, 0⟩)
abbrev st_l_classes : Stmt := topS 19
theorem sc_l_classes : FnScope ["_law_made", "_law_found"] ["_law_made"] (defScope st_l_classes) := ⟨rfl, rfl, rfl, by decide +kernel, rfl, by decide +kernel, by decide +kernel⟩
abbrev st_l_are_own : Stmt := topS 20
theorem sc_l_are_own : FnScope ["_law_made", "_law_first", "_law_step", "_law_one", "_law_is_base", "_law_spot"] ["_law_made", "_law_first"] (defScope st_l_are_own) := ⟨rfl, rfl, rfl, by decide +kernel, rfl, by decide +kernel, by decide +kernel⟩
abbrev st_l_deal : Stmt := topS 13
theorem sc_l_deal : FnScope ["_law_script", "_law_base", "_law_cells", "_law_mixed_here", "_law_cell"] ["_law_script", "_law_base"] (defScope st_l_deal) := ⟨rfl, rfl, rfl, by decide +kernel, rfl, by decide +kernel, by decide +kernel⟩
abbrev st_l_draw : Stmt := topS 14
theorem sc_l_draw : FnScope ["_law_deal_here", "_law_many", "_law_left"] ["_law_deal_here", "_law_many"] (defScope st_l_draw) := ⟨rfl, rfl, rfl, by decide +kernel, rfl, by decide +kernel, by decide +kernel⟩
abbrev st_l_pick : Stmt := topS 15
theorem sc_l_pick : FnScope ["_law_deal_here", "_law_some"] ["_law_deal_here", "_law_some"] (defScope st_l_pick) := ⟨rfl, rfl, rfl, by decide +kernel, rfl, by decide +kernel, by decide +kernel⟩
abbrev st_l_thing : Stmt := topS 17
theorem sc_l_thing : FnScope ["_law_deal_here", "_law_deep", "_law_some", "_law_inner", "_law_turn"] ["_law_deal_here", "_law_deep"] (defScope st_l_thing) := ⟨rfl, rfl, rfl, by decide +kernel, rfl, by decide +kernel, by decide +kernel⟩
abbrev st_law : Stmt := topS 21
theorem sc_law : FnScope ["_law_script", "_law_spot", "_law_deal_here", "_law_numbers", "_law_more", "_law_gone", "_law_kept", "_law_other", "_law_told", "_law_named", "_law_one"] ["_law_script"] (defScope st_law) := ⟨rfl, rfl, rfl, by decide +kernel, rfl, by decide +kernel, by decide +kernel⟩
abbrev st_InvalidVoice_init : Stmt := (clsB (topS 3)).getD 0 (.Pass ⟨0, 0, 0, 0⟩)
theorem sb_InvalidVoice : SupB "word" "word" (defBody st_InvalidVoice_init) := ⟨⟨_, _, _, _, _, _, _, _, _, _, fun env => ⟨_, rfl⟩, rfl⟩⟩
theorem ss_InvalidVoice : SupS "word" (defScope st_InvalidVoice_init) := ⟨rfl, rfl, rfl, rfl, by decide +kernel, rfl, rfl, rfl⟩
abbrev st_InvalidCall_init : Stmt := (clsB (topS 2)).getD 0 (.Pass ⟨0, 0, 0, 0⟩)
theorem sb_InvalidCall : SupB "word" "word" (defBody st_InvalidCall_init) := ⟨⟨_, _, _, _, _, _, _, _, _, _, fun env => ⟨_, rfl⟩, rfl⟩⟩
theorem ss_InvalidCall : SupS "word" (defScope st_InvalidCall_init) := ⟨rfl, rfl, rfl, rfl, by decide +kernel, rfl, rfl, rfl⟩
abbrev st_Refused_init : Stmt := (clsB (topS 10)).getD 0 (.Pass ⟨0, 0, 0, 0⟩)
theorem sb_Refused : SupB "at" "at" (defBody st_Refused_init) := ⟨⟨_, _, _, _, _, _, _, _, _, _, fun env => ⟨_, rfl⟩, rfl⟩⟩
theorem ss_Refused : SupS "at" (defScope st_Refused_init) := ⟨rfl, rfl, rfl, rfl, by decide +kernel, rfl, rfl, rfl⟩
abbrev st_InvalidHeard_init : Stmt := (clsB (topS 7)).getD 0 (.Pass ⟨0, 0, 0, 0⟩)
theorem sb_InvalidHeard : SupB "at" "at" (defBody st_InvalidHeard_init) := ⟨⟨_, _, _, _, _, _, _, _, _, _, fun env => ⟨_, rfl⟩, rfl⟩⟩
theorem ss_InvalidHeard : SupS "at" (defScope st_InvalidHeard_init) := ⟨rfl, rfl, rfl, rfl, by decide +kernel, rfl, rfl, rfl⟩
abbrev st_InvalidGoing_init : Stmt := (clsB (topS 6)).getD 0 (.Pass ⟨0, 0, 0, 0⟩)
theorem sb_InvalidGoing : SupB "at" "at" (defBody st_InvalidGoing_init) := ⟨⟨_, _, _, _, _, _, _, _, _, _, fun env => ⟨_, rfl⟩, rfl⟩⟩
theorem ss_InvalidGoing : SupS "at" (defScope st_InvalidGoing_init) := ⟨rfl, rfl, rfl, rfl, by decide +kernel, rfl, rfl, rfl⟩
abbrev st_InvalidRoad_init : Stmt := (clsB (topS 5)).getD 0 (.Pass ⟨0, 0, 0, 0⟩)
theorem sb_InvalidRoad : SupB "at" "at" (defBody st_InvalidRoad_init) := ⟨⟨_, _, _, _, _, _, _, _, _, _, fun env => ⟨_, rfl⟩, rfl⟩⟩
theorem ss_InvalidRoad : SupS "at" (defScope st_InvalidRoad_init) := ⟨rfl, rfl, rfl, rfl, by decide +kernel, rfl, rfl, rfl⟩
abbrev st_InvalidText_init : Stmt := (clsB (topS 4)).getD 0 (.Pass ⟨0, 0, 0, 0⟩)
theorem sb_InvalidText : SupB "at" "at" (defBody st_InvalidText_init) := ⟨⟨_, _, _, _, _, _, _, _, _, _, fun env => ⟨_, rfl⟩, rfl⟩⟩
theorem ss_InvalidText : SupS "at" (defScope st_InvalidText_init) := ⟨rfl, rfl, rfl, rfl, by decide +kernel, rfl, rfl, rfl⟩
abbrev st_NoCall_init : Stmt := (clsB (topS 11)).getD 0 (.Pass ⟨0, 0, 0, 0⟩)
theorem sb_NoCall : SupB "at" "at" (defBody st_NoCall_init) := ⟨⟨_, _, _, _, _, _, _, _, _, _, fun env => ⟨_, rfl⟩, rfl⟩⟩
theorem ss_NoCall : SupS "at" (defScope st_NoCall_init) := ⟨rfl, rfl, rfl, rfl, by decide +kernel, rfl, rfl, rfl⟩
structure Ad where
  f_l_classes : Addr
  d_l_classes : FuncData
  f_l_are_own : Addr
  d_l_are_own : FuncData
  f_l_deal : Addr
  d_l_deal : FuncData
  f_l_draw : Addr
  d_l_draw : FuncData
  f_l_pick : Addr
  d_l_pick : FuncData
  f_l_thing : Addr
  d_l_thing : FuncData
  f_law : Addr
  d_law : FuncData
structure Tx (P : Program) (k : Kx) (mg : Str → Option Value) (a : Ad) : Prop where
  F_l_classes : Fun k.K "_law_classes" "_law_classes" st_l_classes a.f_l_classes a.d_l_classes
  b_l_classes : Binds k.K a.d_l_classes ["_law_made"] []
  g_l_classes : mg "_law_classes" = some (.ref a.f_l_classes)
  F_l_are_own : Fun k.K "_law_are_own" "_law_are_own" st_l_are_own a.f_l_are_own a.d_l_are_own
  b_l_are_own : Binds k.K a.d_l_are_own ["_law_made", "_law_first"] []
  g_l_are_own : mg "_law_are_own" = some (.ref a.f_l_are_own)
  F_l_deal : Fun k.K "_law_deal" "_law_deal" st_l_deal a.f_l_deal a.d_l_deal
  b_l_deal : Binds k.K a.d_l_deal ["_law_script", "_law_base"] []
  g_l_deal : mg "_law_deal" = some (.ref a.f_l_deal)
  F_l_draw : Fun k.K "_law_draw" "_law_draw" st_l_draw a.f_l_draw a.d_l_draw
  b_l_draw : Binds k.K a.d_l_draw ["_law_deal_here", "_law_many"] []
  g_l_draw : mg "_law_draw" = some (.ref a.f_l_draw)
  F_l_pick : Fun k.K "_law_pick" "_law_pick" st_l_pick a.f_l_pick a.d_l_pick
  b_l_pick : Binds k.K a.d_l_pick ["_law_deal_here", "_law_some"] []
  g_l_pick : mg "_law_pick" = some (.ref a.f_l_pick)
  F_l_thing : Fun k.K "_law_thing" "_law_thing" st_l_thing a.f_l_thing a.d_l_thing
  b_l_thing : Binds k.K a.d_l_thing ["_law_deal_here", "_law_deep"] []
  g_l_thing : mg "_law_thing" = some (.ref a.f_l_thing)
  F_law : Fun k.K "law" "law" st_law a.f_law a.d_law
  b_law : Binds k.K a.d_law ["_law_script"] []
  g_law : mg "law" = some (.ref a.f_law)
  g_InvalidVoice : mg "InvalidVoice" = some (.ref (k.cl "InvalidVoice"))
  g_InvalidCall : mg "InvalidCall" = some (.ref (k.cl "InvalidCall"))
  g_Refused : mg "Refused" = some (.ref (k.cl "Refused"))
  g_InvalidHeard : mg "InvalidHeard" = some (.ref (k.cl "InvalidHeard"))
  g_InvalidGoing : mg "InvalidGoing" = some (.ref (k.cl "InvalidGoing"))
  g_InvalidRoad : mg "InvalidRoad" = some (.ref (k.cl "InvalidRoad"))
  g_InvalidText : mg "InvalidText" = some (.ref (k.cl "InvalidText"))
  g_NoCall : mg "NoCall" = some (.ref (k.cl "NoCall"))
  g_InvalidCommand : mg "InvalidCommand" = some (.ref (k.cl "InvalidCommand"))
  g_InvalidFault : mg "InvalidFault" = some (.ref (k.cl "InvalidFault"))
  g_RoadError : mg "RoadError" = some (.ref (k.cl "RoadError"))
  R_InvalidVoice : ∃ fI : Addr, SupC P k.K mg "word" "word" "ValueError" "ValueError.__new__" "ValueError.__init__" [.type "ValueError", .type "Exception", .type "BaseException", .type "object"] (k.cl "InvalidVoice") fI
  R_InvalidCall : ∃ fI : Addr, SupC P k.K mg "word" "word" "ValueError" "ValueError.__new__" "ValueError.__init__" [.type "ValueError", .type "Exception", .type "BaseException", .type "object"] (k.cl "InvalidCall") fI
  R_Refused : ∃ fI : Addr, SupC P k.K mg "at" "at" "ValueError" "ValueError.__new__" "ValueError.__init__" [.type "ValueError", .type "Exception", .type "BaseException", .type "object"] (k.cl "Refused") fI
  R_InvalidHeard : ∃ fI : Addr, SupC P k.K mg "at" "at" "ValueError" "ValueError.__new__" "ValueError.__init__" [.type "ValueError", .type "Exception", .type "BaseException", .type "object"] (k.cl "InvalidHeard") fI
  R_InvalidGoing : ∃ fI : Addr, SupC P k.K mg "at" "at" "ValueError" "ValueError.__new__" "ValueError.__init__" [.type "ValueError", .type "Exception", .type "BaseException", .type "object"] (k.cl "InvalidGoing") fI
  R_InvalidRoad : ∃ fI : Addr, SupC P k.K mg "at" "at" "ValueError" "ValueError.__new__" "ValueError.__init__" [.type "ValueError", .type "Exception", .type "BaseException", .type "object"] (k.cl "InvalidRoad") fI
  R_InvalidText : ∃ fI : Addr, SupC P k.K mg "at" "at" "ValueError" "ValueError.__new__" "ValueError.__init__" [.type "ValueError", .type "Exception", .type "BaseException", .type "object"] (k.cl "InvalidText") fI
  R_NoCall : ∃ fI : Addr, SupC P k.K mg "at" "at" "IndexError" "IndexError.__new__" "IndexError.__init__" [.type "IndexError", .type "LookupError", .type "Exception", .type "BaseException", .type "object"] (k.cl "NoCall") fI
  R_InvalidCommand : Sup0 k.K "ValueError" "ValueError.__new__" "ValueError.__init__" [.type "ValueError", .type "Exception", .type "BaseException", .type "object"] (k.cl "InvalidCommand")
  R_InvalidFault : Sup0 k.K "ValueError" "ValueError.__new__" "ValueError.__init__" [.type "ValueError", .type "Exception", .type "BaseException", .type "object"] (k.cl "InvalidFault")
  xc_InvalidVoice : XcC k.K (k.cl "InvalidVoice")
  xc_InvalidCall : XcC k.K (k.cl "InvalidCall")
  xc_NoCall : XcC k.K (k.cl "NoCall")
  xc_Refused : XcC k.K (k.cl "Refused")
  xc_InvalidHeard : XcC k.K (k.cl "InvalidHeard")
  xc_InvalidGoing : XcC k.K (k.cl "InvalidGoing")
  xc_InvalidRoad : XcC k.K (k.cl "InvalidRoad")
  xc_InvalidText : XcC k.K (k.cl "InvalidText")
  xc_InvalidCommand : XcC k.K (k.cl "InvalidCommand")
  xc_InvalidFault : XcC k.K (k.cl "InvalidFault")
  xn_InvalidCall_word : PySem.W.findIn k.K (.ref (k.cl "InvalidCall")) "word" = some none
  xn_InvalidGoing_at : PySem.W.findIn k.K (.ref (k.cl "InvalidGoing")) "at" = some none
  xn_InvalidHeard_at : PySem.W.findIn k.K (.ref (k.cl "InvalidHeard")) "at" = some none
  xn_InvalidRoad_at : PySem.W.findIn k.K (.ref (k.cl "InvalidRoad")) "at" = some none
  xn_InvalidText_at : PySem.W.findIn k.K (.ref (k.cl "InvalidText")) "at" = some none
  xn_InvalidVoice_word : PySem.W.findIn k.K (.ref (k.cl "InvalidVoice")) "word" = some none
  xn_NoCall_at : PySem.W.findIn k.K (.ref (k.cl "NoCall")) "at" = some none
  xn_Refused_at : PySem.W.findIn k.K (.ref (k.cl "Refused")) "at" = some none
  xk_NoCall_InvalidText : PySem.W.kitOne k.K (.ref (k.cl "NoCall")) (.ref (k.cl "InvalidText")) = some false
  xk_Refused_InvalidText : PySem.W.kitOne k.K (.ref (k.cl "Refused")) (.ref (k.cl "InvalidText")) = some false
  xk_InvalidCommand_InvalidText : PySem.W.kitOne k.K (.ref (k.cl "InvalidCommand")) (.ref (k.cl "InvalidText")) = some false
  xk_InvalidFault_InvalidText : PySem.W.kitOne k.K (.ref (k.cl "InvalidFault")) (.ref (k.cl "InvalidText")) = some false
  xk_InvalidHeard_InvalidText : PySem.W.kitOne k.K (.ref (k.cl "InvalidHeard")) (.ref (k.cl "InvalidText")) = some false
  xk_InvalidGoing_InvalidText : PySem.W.kitOne k.K (.ref (k.cl "InvalidGoing")) (.ref (k.cl "InvalidText")) = some false
  xk_InvalidRoad_InvalidText : PySem.W.kitOne k.K (.ref (k.cl "InvalidRoad")) (.ref (k.cl "InvalidText")) = some false
  xk_InvalidText_InvalidText : PySem.W.kitOne k.K (.ref (k.cl "InvalidText")) (.ref (k.cl "InvalidText")) = some true
  xk_InvalidVoice_InvalidText : PySem.W.kitOne k.K (.ref (k.cl "InvalidVoice")) (.ref (k.cl "InvalidText")) = some false
  xk_InvalidCall_InvalidText : PySem.W.kitOne k.K (.ref (k.cl "InvalidCall")) (.ref (k.cl "InvalidText")) = some false
  xk_NoCall_InvalidVoice : PySem.W.kitOne k.K (.ref (k.cl "NoCall")) (.ref (k.cl "InvalidVoice")) = some false
  xk_Refused_InvalidVoice : PySem.W.kitOne k.K (.ref (k.cl "Refused")) (.ref (k.cl "InvalidVoice")) = some false
  xk_InvalidCommand_InvalidVoice : PySem.W.kitOne k.K (.ref (k.cl "InvalidCommand")) (.ref (k.cl "InvalidVoice")) = some false
  xk_InvalidFault_InvalidVoice : PySem.W.kitOne k.K (.ref (k.cl "InvalidFault")) (.ref (k.cl "InvalidVoice")) = some false
  xk_InvalidHeard_InvalidVoice : PySem.W.kitOne k.K (.ref (k.cl "InvalidHeard")) (.ref (k.cl "InvalidVoice")) = some false
  xk_InvalidGoing_InvalidVoice : PySem.W.kitOne k.K (.ref (k.cl "InvalidGoing")) (.ref (k.cl "InvalidVoice")) = some false
  xk_InvalidRoad_InvalidVoice : PySem.W.kitOne k.K (.ref (k.cl "InvalidRoad")) (.ref (k.cl "InvalidVoice")) = some false
  xk_InvalidText_InvalidVoice : PySem.W.kitOne k.K (.ref (k.cl "InvalidText")) (.ref (k.cl "InvalidVoice")) = some false
  xk_InvalidVoice_InvalidVoice : PySem.W.kitOne k.K (.ref (k.cl "InvalidVoice")) (.ref (k.cl "InvalidVoice")) = some true
  xk_InvalidCall_InvalidVoice : PySem.W.kitOne k.K (.ref (k.cl "InvalidCall")) (.ref (k.cl "InvalidVoice")) = some false
  xk_NoCall_InvalidCall : PySem.W.kitOne k.K (.ref (k.cl "NoCall")) (.ref (k.cl "InvalidCall")) = some false
  xk_Refused_InvalidCall : PySem.W.kitOne k.K (.ref (k.cl "Refused")) (.ref (k.cl "InvalidCall")) = some false
  xk_InvalidCommand_InvalidCall : PySem.W.kitOne k.K (.ref (k.cl "InvalidCommand")) (.ref (k.cl "InvalidCall")) = some false
  xk_InvalidFault_InvalidCall : PySem.W.kitOne k.K (.ref (k.cl "InvalidFault")) (.ref (k.cl "InvalidCall")) = some false
  xk_InvalidHeard_InvalidCall : PySem.W.kitOne k.K (.ref (k.cl "InvalidHeard")) (.ref (k.cl "InvalidCall")) = some false
  xk_InvalidGoing_InvalidCall : PySem.W.kitOne k.K (.ref (k.cl "InvalidGoing")) (.ref (k.cl "InvalidCall")) = some false
  xk_InvalidRoad_InvalidCall : PySem.W.kitOne k.K (.ref (k.cl "InvalidRoad")) (.ref (k.cl "InvalidCall")) = some false
  xk_InvalidText_InvalidCall : PySem.W.kitOne k.K (.ref (k.cl "InvalidText")) (.ref (k.cl "InvalidCall")) = some false
  xk_InvalidVoice_InvalidCall : PySem.W.kitOne k.K (.ref (k.cl "InvalidVoice")) (.ref (k.cl "InvalidCall")) = some false
  xk_InvalidCall_InvalidCall : PySem.W.kitOne k.K (.ref (k.cl "InvalidCall")) (.ref (k.cl "InvalidCall")) = some true
  xk_NoCall_InvalidHeard : PySem.W.kitOne k.K (.ref (k.cl "NoCall")) (.ref (k.cl "InvalidHeard")) = some false
  xk_Refused_InvalidHeard : PySem.W.kitOne k.K (.ref (k.cl "Refused")) (.ref (k.cl "InvalidHeard")) = some false
  xk_InvalidCommand_InvalidHeard : PySem.W.kitOne k.K (.ref (k.cl "InvalidCommand")) (.ref (k.cl "InvalidHeard")) = some false
  xk_InvalidFault_InvalidHeard : PySem.W.kitOne k.K (.ref (k.cl "InvalidFault")) (.ref (k.cl "InvalidHeard")) = some false
  xk_InvalidHeard_InvalidHeard : PySem.W.kitOne k.K (.ref (k.cl "InvalidHeard")) (.ref (k.cl "InvalidHeard")) = some true
  xk_InvalidGoing_InvalidHeard : PySem.W.kitOne k.K (.ref (k.cl "InvalidGoing")) (.ref (k.cl "InvalidHeard")) = some false
  xk_InvalidRoad_InvalidHeard : PySem.W.kitOne k.K (.ref (k.cl "InvalidRoad")) (.ref (k.cl "InvalidHeard")) = some false
  xk_InvalidText_InvalidHeard : PySem.W.kitOne k.K (.ref (k.cl "InvalidText")) (.ref (k.cl "InvalidHeard")) = some false
  xk_InvalidVoice_InvalidHeard : PySem.W.kitOne k.K (.ref (k.cl "InvalidVoice")) (.ref (k.cl "InvalidHeard")) = some false
  xk_InvalidCall_InvalidHeard : PySem.W.kitOne k.K (.ref (k.cl "InvalidCall")) (.ref (k.cl "InvalidHeard")) = some false
  xk_NoCall_InvalidGoing : PySem.W.kitOne k.K (.ref (k.cl "NoCall")) (.ref (k.cl "InvalidGoing")) = some false
  xk_Refused_InvalidGoing : PySem.W.kitOne k.K (.ref (k.cl "Refused")) (.ref (k.cl "InvalidGoing")) = some false
  xk_InvalidCommand_InvalidGoing : PySem.W.kitOne k.K (.ref (k.cl "InvalidCommand")) (.ref (k.cl "InvalidGoing")) = some false
  xk_InvalidFault_InvalidGoing : PySem.W.kitOne k.K (.ref (k.cl "InvalidFault")) (.ref (k.cl "InvalidGoing")) = some false
  xk_InvalidHeard_InvalidGoing : PySem.W.kitOne k.K (.ref (k.cl "InvalidHeard")) (.ref (k.cl "InvalidGoing")) = some false
  xk_InvalidGoing_InvalidGoing : PySem.W.kitOne k.K (.ref (k.cl "InvalidGoing")) (.ref (k.cl "InvalidGoing")) = some true
  xk_InvalidRoad_InvalidGoing : PySem.W.kitOne k.K (.ref (k.cl "InvalidRoad")) (.ref (k.cl "InvalidGoing")) = some false
  xk_InvalidText_InvalidGoing : PySem.W.kitOne k.K (.ref (k.cl "InvalidText")) (.ref (k.cl "InvalidGoing")) = some false
  xk_InvalidVoice_InvalidGoing : PySem.W.kitOne k.K (.ref (k.cl "InvalidVoice")) (.ref (k.cl "InvalidGoing")) = some false
  xk_InvalidCall_InvalidGoing : PySem.W.kitOne k.K (.ref (k.cl "InvalidCall")) (.ref (k.cl "InvalidGoing")) = some false
  xk_NoCall_InvalidRoad : PySem.W.kitOne k.K (.ref (k.cl "NoCall")) (.ref (k.cl "InvalidRoad")) = some false
  xk_Refused_InvalidRoad : PySem.W.kitOne k.K (.ref (k.cl "Refused")) (.ref (k.cl "InvalidRoad")) = some false
  xk_InvalidCommand_InvalidRoad : PySem.W.kitOne k.K (.ref (k.cl "InvalidCommand")) (.ref (k.cl "InvalidRoad")) = some false
  xk_InvalidFault_InvalidRoad : PySem.W.kitOne k.K (.ref (k.cl "InvalidFault")) (.ref (k.cl "InvalidRoad")) = some false
  xk_InvalidHeard_InvalidRoad : PySem.W.kitOne k.K (.ref (k.cl "InvalidHeard")) (.ref (k.cl "InvalidRoad")) = some false
  xk_InvalidGoing_InvalidRoad : PySem.W.kitOne k.K (.ref (k.cl "InvalidGoing")) (.ref (k.cl "InvalidRoad")) = some false
  xk_InvalidRoad_InvalidRoad : PySem.W.kitOne k.K (.ref (k.cl "InvalidRoad")) (.ref (k.cl "InvalidRoad")) = some true
  xk_InvalidText_InvalidRoad : PySem.W.kitOne k.K (.ref (k.cl "InvalidText")) (.ref (k.cl "InvalidRoad")) = some false
  xk_InvalidVoice_InvalidRoad : PySem.W.kitOne k.K (.ref (k.cl "InvalidVoice")) (.ref (k.cl "InvalidRoad")) = some false
  xk_InvalidCall_InvalidRoad : PySem.W.kitOne k.K (.ref (k.cl "InvalidCall")) (.ref (k.cl "InvalidRoad")) = some false
  xk_NoCall_InvalidCommand : PySem.W.kitOne k.K (.ref (k.cl "NoCall")) (.ref (k.cl "InvalidCommand")) = some false
  xk_Refused_InvalidCommand : PySem.W.kitOne k.K (.ref (k.cl "Refused")) (.ref (k.cl "InvalidCommand")) = some false
  xk_InvalidCommand_InvalidCommand : PySem.W.kitOne k.K (.ref (k.cl "InvalidCommand")) (.ref (k.cl "InvalidCommand")) = some true
  xk_InvalidFault_InvalidCommand : PySem.W.kitOne k.K (.ref (k.cl "InvalidFault")) (.ref (k.cl "InvalidCommand")) = some false
  xk_InvalidHeard_InvalidCommand : PySem.W.kitOne k.K (.ref (k.cl "InvalidHeard")) (.ref (k.cl "InvalidCommand")) = some false
  xk_InvalidGoing_InvalidCommand : PySem.W.kitOne k.K (.ref (k.cl "InvalidGoing")) (.ref (k.cl "InvalidCommand")) = some false
  xk_InvalidRoad_InvalidCommand : PySem.W.kitOne k.K (.ref (k.cl "InvalidRoad")) (.ref (k.cl "InvalidCommand")) = some false
  xk_InvalidText_InvalidCommand : PySem.W.kitOne k.K (.ref (k.cl "InvalidText")) (.ref (k.cl "InvalidCommand")) = some false
  xk_InvalidVoice_InvalidCommand : PySem.W.kitOne k.K (.ref (k.cl "InvalidVoice")) (.ref (k.cl "InvalidCommand")) = some false
  xk_InvalidCall_InvalidCommand : PySem.W.kitOne k.K (.ref (k.cl "InvalidCall")) (.ref (k.cl "InvalidCommand")) = some false
  xk_NoCall_InvalidFault : PySem.W.kitOne k.K (.ref (k.cl "NoCall")) (.ref (k.cl "InvalidFault")) = some false
  xk_Refused_InvalidFault : PySem.W.kitOne k.K (.ref (k.cl "Refused")) (.ref (k.cl "InvalidFault")) = some false
  xk_InvalidCommand_InvalidFault : PySem.W.kitOne k.K (.ref (k.cl "InvalidCommand")) (.ref (k.cl "InvalidFault")) = some false
  xk_InvalidFault_InvalidFault : PySem.W.kitOne k.K (.ref (k.cl "InvalidFault")) (.ref (k.cl "InvalidFault")) = some true
  xk_InvalidHeard_InvalidFault : PySem.W.kitOne k.K (.ref (k.cl "InvalidHeard")) (.ref (k.cl "InvalidFault")) = some false
  xk_InvalidGoing_InvalidFault : PySem.W.kitOne k.K (.ref (k.cl "InvalidGoing")) (.ref (k.cl "InvalidFault")) = some false
  xk_InvalidRoad_InvalidFault : PySem.W.kitOne k.K (.ref (k.cl "InvalidRoad")) (.ref (k.cl "InvalidFault")) = some false
  xk_InvalidText_InvalidFault : PySem.W.kitOne k.K (.ref (k.cl "InvalidText")) (.ref (k.cl "InvalidFault")) = some false
  xk_InvalidVoice_InvalidFault : PySem.W.kitOne k.K (.ref (k.cl "InvalidVoice")) (.ref (k.cl "InvalidFault")) = some false
  xk_InvalidCall_InvalidFault : PySem.W.kitOne k.K (.ref (k.cl "InvalidCall")) (.ref (k.cl "InvalidFault")) = some false
  xk_NoCall_Refused : PySem.W.kitOne k.K (.ref (k.cl "NoCall")) (.ref (k.cl "Refused")) = some false
  xk_Refused_Refused : PySem.W.kitOne k.K (.ref (k.cl "Refused")) (.ref (k.cl "Refused")) = some true
  xk_InvalidCommand_Refused : PySem.W.kitOne k.K (.ref (k.cl "InvalidCommand")) (.ref (k.cl "Refused")) = some false
  xk_InvalidFault_Refused : PySem.W.kitOne k.K (.ref (k.cl "InvalidFault")) (.ref (k.cl "Refused")) = some false
  xk_InvalidHeard_Refused : PySem.W.kitOne k.K (.ref (k.cl "InvalidHeard")) (.ref (k.cl "Refused")) = some false
  xk_InvalidGoing_Refused : PySem.W.kitOne k.K (.ref (k.cl "InvalidGoing")) (.ref (k.cl "Refused")) = some false
  xk_InvalidRoad_Refused : PySem.W.kitOne k.K (.ref (k.cl "InvalidRoad")) (.ref (k.cl "Refused")) = some false
  xk_InvalidText_Refused : PySem.W.kitOne k.K (.ref (k.cl "InvalidText")) (.ref (k.cl "Refused")) = some false
  xk_InvalidVoice_Refused : PySem.W.kitOne k.K (.ref (k.cl "InvalidVoice")) (.ref (k.cl "Refused")) = some false
  xk_InvalidCall_Refused : PySem.W.kitOne k.K (.ref (k.cl "InvalidCall")) (.ref (k.cl "Refused")) = some false
  xk_NoCall_NoCall : PySem.W.kitOne k.K (.ref (k.cl "NoCall")) (.ref (k.cl "NoCall")) = some true
  xk_Refused_NoCall : PySem.W.kitOne k.K (.ref (k.cl "Refused")) (.ref (k.cl "NoCall")) = some false
  xk_InvalidCommand_NoCall : PySem.W.kitOne k.K (.ref (k.cl "InvalidCommand")) (.ref (k.cl "NoCall")) = some false
  xk_InvalidFault_NoCall : PySem.W.kitOne k.K (.ref (k.cl "InvalidFault")) (.ref (k.cl "NoCall")) = some false
  xk_InvalidHeard_NoCall : PySem.W.kitOne k.K (.ref (k.cl "InvalidHeard")) (.ref (k.cl "NoCall")) = some false
  xk_InvalidGoing_NoCall : PySem.W.kitOne k.K (.ref (k.cl "InvalidGoing")) (.ref (k.cl "NoCall")) = some false
  xk_InvalidRoad_NoCall : PySem.W.kitOne k.K (.ref (k.cl "InvalidRoad")) (.ref (k.cl "NoCall")) = some false
  xk_InvalidText_NoCall : PySem.W.kitOne k.K (.ref (k.cl "InvalidText")) (.ref (k.cl "NoCall")) = some false
  xk_InvalidVoice_NoCall : PySem.W.kitOne k.K (.ref (k.cl "InvalidVoice")) (.ref (k.cl "NoCall")) = some false
  xk_InvalidCall_NoCall : PySem.W.kitOne k.K (.ref (k.cl "InvalidCall")) (.ref (k.cl "NoCall")) = some false
  xk_NoCall_RoadError : PySem.W.kitOne k.K (.ref (k.cl "NoCall")) (.ref (k.cl "RoadError")) = some false
  xk_Refused_RoadError : PySem.W.kitOne k.K (.ref (k.cl "Refused")) (.ref (k.cl "RoadError")) = some true
  xk_InvalidCommand_RoadError : PySem.W.kitOne k.K (.ref (k.cl "InvalidCommand")) (.ref (k.cl "RoadError")) = some true
  xk_InvalidFault_RoadError : PySem.W.kitOne k.K (.ref (k.cl "InvalidFault")) (.ref (k.cl "RoadError")) = some true
  xk_InvalidHeard_RoadError : PySem.W.kitOne k.K (.ref (k.cl "InvalidHeard")) (.ref (k.cl "RoadError")) = some true
  xk_InvalidGoing_RoadError : PySem.W.kitOne k.K (.ref (k.cl "InvalidGoing")) (.ref (k.cl "RoadError")) = some true
  xk_InvalidRoad_RoadError : PySem.W.kitOne k.K (.ref (k.cl "InvalidRoad")) (.ref (k.cl "RoadError")) = some true
  xk_InvalidText_RoadError : PySem.W.kitOne k.K (.ref (k.cl "InvalidText")) (.ref (k.cl "RoadError")) = some true
  xk_InvalidVoice_RoadError : PySem.W.kitOne k.K (.ref (k.cl "InvalidVoice")) (.ref (k.cl "RoadError")) = some true
  xk_InvalidCall_RoadError : PySem.W.kitOne k.K (.ref (k.cl "InvalidCall")) (.ref (k.cl "RoadError")) = some true
  xb_NoCall_ValueError : PySem.W.kitOne k.K (.ref (k.cl "NoCall")) (.type "ValueError") = some false
  xb_Refused_ValueError : PySem.W.kitOne k.K (.ref (k.cl "Refused")) (.type "ValueError") = some true
  xb_InvalidCommand_ValueError : PySem.W.kitOne k.K (.ref (k.cl "InvalidCommand")) (.type "ValueError") = some true
  xb_InvalidFault_ValueError : PySem.W.kitOne k.K (.ref (k.cl "InvalidFault")) (.type "ValueError") = some true
  xb_InvalidHeard_ValueError : PySem.W.kitOne k.K (.ref (k.cl "InvalidHeard")) (.type "ValueError") = some true
  xb_InvalidGoing_ValueError : PySem.W.kitOne k.K (.ref (k.cl "InvalidGoing")) (.type "ValueError") = some true
  xb_InvalidRoad_ValueError : PySem.W.kitOne k.K (.ref (k.cl "InvalidRoad")) (.type "ValueError") = some true
  xb_InvalidText_ValueError : PySem.W.kitOne k.K (.ref (k.cl "InvalidText")) (.type "ValueError") = some true
  xb_InvalidVoice_ValueError : PySem.W.kitOne k.K (.ref (k.cl "InvalidVoice")) (.type "ValueError") = some true
  xb_InvalidCall_ValueError : PySem.W.kitOne k.K (.ref (k.cl "InvalidCall")) (.type "ValueError") = some true
  xb_NoCall_IndexError : PySem.W.kitOne k.K (.ref (k.cl "NoCall")) (.type "IndexError") = some true
  xb_Refused_IndexError : PySem.W.kitOne k.K (.ref (k.cl "Refused")) (.type "IndexError") = some false
  xb_InvalidCommand_IndexError : PySem.W.kitOne k.K (.ref (k.cl "InvalidCommand")) (.type "IndexError") = some false
  xb_InvalidFault_IndexError : PySem.W.kitOne k.K (.ref (k.cl "InvalidFault")) (.type "IndexError") = some false
  xb_InvalidHeard_IndexError : PySem.W.kitOne k.K (.ref (k.cl "InvalidHeard")) (.type "IndexError") = some false
  xb_InvalidGoing_IndexError : PySem.W.kitOne k.K (.ref (k.cl "InvalidGoing")) (.type "IndexError") = some false
  xb_InvalidRoad_IndexError : PySem.W.kitOne k.K (.ref (k.cl "InvalidRoad")) (.type "IndexError") = some false
  xb_InvalidText_IndexError : PySem.W.kitOne k.K (.ref (k.cl "InvalidText")) (.type "IndexError") = some false
  xb_InvalidVoice_IndexError : PySem.W.kitOne k.K (.ref (k.cl "InvalidVoice")) (.type "IndexError") = some false
  xb_InvalidCall_IndexError : PySem.W.kitOne k.K (.ref (k.cl "InvalidCall")) (.type "IndexError") = some false
  z_int : mg "int" = none
  z_abs : mg "abs" = none
  z_len : mg "len" = none
  z_range : mg "range" = none
  z_tuple : mg "tuple" = none
  z_repr : mg "repr" = none
  z_isinstance : mg "isinstance" = none
  z_ValueError : mg "ValueError" = none
  z_IndexError : mg "IndexError" = none
  z_enumerate : mg "enumerate" = none
  z_min : mg "min" = none
  z_max : mg "max" = none
def s_l_classes : S :=
  (sSeq (sSet 1 (mkLst (consM (un (exoI (ownT [("InvalidCall", true), ("InvalidVoice", false), ("InvalidText", false), ("InvalidRoad", false), ("InvalidGoing", false), ("InvalidHeard", false), ("InvalidFault", false), ("InvalidCommand", false), ("Refused", false), ("NoCall", false)])) (var 0)) (consM (un (exoI (ownT [("InvalidCall", false), ("InvalidVoice", true), ("InvalidText", false), ("InvalidRoad", false), ("InvalidGoing", false), ("InvalidHeard", false), ("InvalidFault", false), ("InvalidCommand", false), ("Refused", false), ("NoCall", false)])) (var 0)) (consM (un (exoI (ownT [("InvalidCall", false), ("InvalidVoice", false), ("InvalidText", true), ("InvalidRoad", false), ("InvalidGoing", false), ("InvalidHeard", false), ("InvalidFault", false), ("InvalidCommand", false), ("Refused", false), ("NoCall", false)])) (var 0)) nilM)))))
    (sSeq (sSet 1 (bin addV (var 1) (mkLst (consM (un (exoI (ownT [("InvalidCall", false), ("InvalidVoice", false), ("InvalidText", false), ("InvalidRoad", true), ("InvalidGoing", false), ("InvalidHeard", false), ("InvalidFault", false), ("InvalidCommand", false), ("Refused", false), ("NoCall", false)])) (var 0)) (consM (un (exoI (ownT [("InvalidCall", false), ("InvalidVoice", false), ("InvalidText", false), ("InvalidRoad", false), ("InvalidGoing", true), ("InvalidHeard", false), ("InvalidFault", false), ("InvalidCommand", false), ("Refused", false), ("NoCall", false)])) (var 0)) (consM (un (exoI (ownT [("InvalidCall", false), ("InvalidVoice", false), ("InvalidText", false), ("InvalidRoad", false), ("InvalidGoing", false), ("InvalidHeard", true), ("InvalidFault", false), ("InvalidCommand", false), ("Refused", false), ("NoCall", false)])) (var 0)) nilM))))))
    (sSeq (sSet 1 (bin addV (var 1) (mkLst (consM (un (exoI (ownT [("InvalidCall", false), ("InvalidVoice", false), ("InvalidText", false), ("InvalidRoad", false), ("InvalidGoing", false), ("InvalidHeard", false), ("InvalidFault", false), ("InvalidCommand", false), ("Refused", true), ("NoCall", false)])) (var 0)) (consM (un (exoI (ownT [("InvalidCall", false), ("InvalidVoice", false), ("InvalidText", false), ("InvalidRoad", false), ("InvalidGoing", false), ("InvalidHeard", false), ("InvalidFault", true), ("InvalidCommand", false), ("Refused", false), ("NoCall", false)])) (var 0)) (consM (un (exoI (ownT [("InvalidCall", false), ("InvalidVoice", false), ("InvalidText", false), ("InvalidRoad", false), ("InvalidGoing", false), ("InvalidHeard", false), ("InvalidFault", false), ("InvalidCommand", true), ("Refused", false), ("NoCall", false)])) (var 0)) nilM))))))
    (sRet (bin addV (var 1) (mkLst (consM (un (exoI (ownT [("InvalidCall", false), ("InvalidVoice", false), ("InvalidText", false), ("InvalidRoad", false), ("InvalidGoing", false), ("InvalidHeard", false), ("InvalidFault", false), ("InvalidCommand", false), ("Refused", false), ("NoCall", true)])) (var 0)) nilM)))))))
def c_l_classes : CF := callS 2 s_l_classes
def s_l_are_own : S :=
  (sSeq (sFor (enumM (consM (var 0) nilM)) (.tup [.name 2, .name 3]) (sSeq (sIf (asB (bin neV (callM 1 c_l_classes [] (consM (var 3) nilM)) (comp (rng1 (consM (ret (.int 10)) nilM)) (.name 5) [5] yes (bin eqV (bin addV (var 1) (var 2)) (var 5))))) (sRet (ret (.bl false))) sNext)
    (sSeq (sSet 4 (bin (cmpV fun i j => decide (i < j)) (bin addV (var 1) (var 2)) (ret (.int 9))))
    (sSeq (sIf (orB (asB (bin neV (un (exoI (ownT [("InvalidCall", true), ("InvalidVoice", true), ("InvalidText", true), ("InvalidRoad", true), ("InvalidGoing", true), ("InvalidHeard", true), ("InvalidFault", true), ("InvalidCommand", true), ("Refused", true), ("NoCall", false)])) (var 3)) (var 4))) (asB (bin neV (un (exoI (ownT [("InvalidCall", true), ("InvalidVoice", true), ("InvalidText", true), ("InvalidRoad", true), ("InvalidGoing", true), ("InvalidHeard", true), ("InvalidFault", true), ("InvalidCommand", true), ("Refused", true), ("NoCall", false)])) (var 3)) (var 4)))) (sRet (ret (.bl false))) sNext)
    (sIf (asB (bin eqV (un (exoI (ownT [("InvalidCall", false), ("InvalidVoice", false), ("InvalidText", false), ("InvalidRoad", false), ("InvalidGoing", false), ("InvalidHeard", false), ("InvalidFault", false), ("InvalidCommand", false), ("Refused", false), ("NoCall", true)])) (var 3)) (var 4))) (sRet (ret (.bl false))) sNext)))))
    (sRet (ret (.bl true))))
def c_l_are_own : CF := callS 6 s_l_are_own
def s_l_thing (r : CF) : S :=
  (sSeq (sSet 2 (mkLst (consM (ret .non) (consM (ret (.bl true)) (consM (ret (.bl false)) (consM (ret (.int 0)) (consM (ret (.int 1)) (consM (bin subV (ret (.int 0)) (ret (.int 1))) (consM (ret (.int 5)) (consM (bin powV (ret (.int 10)) (ret (.int 20))) (consM (ret (.str "")) (consM (ret (.str "a")) (consM (ret (.str "wait")) (consM (ret (.str "abcde")) (consM (ret (.str "A")) (consM (ret (.str "a b")) (consM (ret (.str "1")) (consM (mkTup nilM) (consM (mkLst nilM) (consM (mkTup (consM (ret (.str "a")) (consM (ret (.int 1)) nilM))) nilM))))))))))))))))))))
    (sSeq (sIf (orB (asB (bin eqV (var 1) (ret (.int 0)))) (asB (bin eqV (callM 2 c_l_draw [] (consM (var 0) (consM (ret (.int 3)) nilM))) (ret (.int 0))))) (sRet (callM 2 c_l_pick [] (consM (var 0) (consM (var 2) nilM)))) sNext)
    (sSeq (sSet 3 (comp (rng1 (consM (callM 2 c_l_draw [] (consM (var 0) (consM (ret (.int 4)) nilM))) nilM)) (.name 4) [4] yes (callM 2 r [] (consM (var 0) (consM (bin subV (var 1) (ret (.int 1))) nilM)))))
    (sRet (ifV (asB (bin eqV (callM 2 c_l_draw [] (consM (var 0) (consM (ret (.int 3)) nilM))) (ret (.int 0)))) (var 3) (app tupleV (consM (var 3) nilM)))))))
def cr_l_thing : Nat → CF
  | 0 => fun _ _ => none
  | n + 1 => callS 5 (s_l_thing (cr_l_thing n))
def c_l_thing : CF := cr_l_thing 6
def s_law : S :=
  (sSeq (sFor (rng1 (consM (app max2V (consM (ret (.int 2)) (consM (app min2V (consM (ret (.int 5)) (consM (app lenV (consM (var 0) nilM)) nilM))) nilM))) nilM)) (.name 1) (sSeq (sSet 2 (callM 2 c_l_deal [] (consM (var 0) (consM (var 1) nilM))))
    (sSeq (sPar 6 7 (consM (mkLstM (consM (callM 2 c_l_thing [] (consM (var 2) (consM (ret (.int 3)) nilM))) (consM (ret (.str "x")) nilM))) (consM (mkLstM (consM (callM 2 c_l_thing [] (consM (var 2) (consM (ret (.int 2)) nilM))) nilM)) nilM)))
    (sSeq (sPar 8 9 (consM (mkLst (consM (mkX "InvalidCall" ["word"] (consM (var 6) nilM)) (consM (mkX "InvalidVoice" ["word"] (consM (var 6) nilM)) nilM))) (consM (mkLst (consM (mkX "InvalidCall" ["word"] (consM (var 7) nilM)) (consM (mkX "InvalidVoice" ["word"] (consM (var 7) nilM)) nilM))) nilM)))
    (sSeq (sSet 3 (mkLst (consM (mkX "InvalidText" ["at"] (consM (var 6) nilM)) (consM (mkX "InvalidRoad" ["at"] (consM (var 6) nilM)) (consM (mkX "InvalidGoing" ["at"] (consM (var 6) nilM)) (consM (mkX "InvalidHeard" ["at"] (consM (var 6) nilM)) (consM (mkX "Refused" ["at"] (consM (var 6) nilM)) nilM)))))))
    (sSeq (sSet 4 (mkLst (consM (mkX "InvalidText" ["at"] (consM (var 7) nilM)) (consM (mkX "InvalidRoad" ["at"] (consM (var 7) nilM)) (consM (mkX "InvalidGoing" ["at"] (consM (var 7) nilM)) (consM (mkX "InvalidHeard" ["at"] (consM (var 7) nilM)) nilM))))))
    (sSeq (sSet 5 (mkLst (consM (mkX "NoCall" ["at"] (consM (var 6) nilM)) (consM (mkX "NoCall" ["at"] (consM (var 7) nilM)) (consM (mkX "Refused" ["at"] (consM (var 7) nilM)) nilM)))))
    (sSeq (sExpr (lm appendV (var 6) (consM (ret (.int 1)) nilM)))
    (sSeq (sExpr (lm appendV (var 7) (consM (ret (.str "y")) nilM)))
    (sSeq (sIf (asB (bin neV (app reprDV (consM (comp (itS (bin addV (var 8) (var 9))) (.name 10) [10] yes (un (exoF (ownL ["InvalidCall", "InvalidVoice"]) "word") (var 10))) nilM)) (app reprDV (consM (mkLst (consM (var 6) (consM (var 6) (consM (var 7) (consM (var 7) nilM))))) nilM)))) (sRet (ret (.bl false))) sNext)
    (sSeq (sIf (asB (bin neV (app reprDV (consM (comp (itS (bin addV (var 3) (var 4))) (.name 10) [10] yes (un (exoF (ownL ["InvalidText", "InvalidRoad", "InvalidGoing", "InvalidHeard", "Refused", "NoCall"]) "at") (var 10))) nilM)) (app reprDV (consM (bin addV (bin mulV (mkLst (consM (var 6) nilM)) (ret (.int 5))) (bin mulV (mkLst (consM (var 7) nilM)) (ret (.int 4)))) nilM)))) (sRet (ret (.bl false))) sNext)
    (sSeq (sIf (asB (bin neV (app reprDV (consM (comp (itS (var 5)) (.name 10) [10] yes (un (exoF (ownL ["InvalidText", "InvalidRoad", "InvalidGoing", "InvalidHeard", "Refused", "NoCall"]) "at") (var 10))) nilM)) (app reprDV (consM (mkLst (consM (var 6) (consM (var 7) (consM (var 7) nilM)))) nilM)))) (sRet (ret (.bl false))) sNext)
    (sSeq (sIf (orB (notB (asB (callM 2 c_l_are_own [] (consM (var 8) (consM (ret (.int 0)) nilM))))) (orB (notB (asB (callM 2 c_l_are_own [] (consM (bin addV (var 9) (var 4)) (consM (ret (.int 0)) nilM))))) (notB (asB (callM 2 c_l_are_own [] (consM (var 3) (consM (ret (.int 2)) nilM))))))) (sRet (ret (.bl false))) sNext)
    (sIf (orB (notB (asB (callM 2 c_l_are_own [] (consM (mkLst (consM (bin idxV (var 5) (ret (.int 2))) (consM (mkX "InvalidFault" [] nilM) (consM (mkX "InvalidCommand" [] nilM) (consM (bin idxV (var 5) (ret (.int 0))) nilM))))) (consM (ret (.int 6)) nilM))))) (notB (asB (callM 2 c_l_are_own [] (consM (mkLst (consM (bin idxV (var 5) (ret (.int 1))) nilM)) (consM (ret (.int 9)) nilM)))))) (sRet (ret (.bl false))) sNext))))))))))))))
    (sRet (ret (.bl true))))
section
variable {P : Program} {k : Kx} {mg : Str → Option Value} {base : Heap} {a : Ad}
theorem ok_l_classes (T : Tx P k mg a) : FnOk P k.w k.K mg base (L2.CX P k.w) 1 a.f_l_classes a.d_l_classes ["_law_made"] (spM k 1 c_l_classes) :=
  ok_def (j := 0) (s := s_l_classes) T.F_l_classes sc_l_classes (show c_l_classes = callS 2 s_l_classes from rfl) rfl rfl fun cdv A outer s0 H E hr => by
    have tk : Takes (cxOf (L2.CX P k.w) P k.w k.K mg base ["_law_made", "_law_found"] "_law_classes" (defScope st_l_classes) a.f_l_classes cdv A outer s0 H E) (fun c d _ H' => E c d H') := takes_of rfl rfl rfl rfl
    exact (ms_cons (ms_set (i := 1) sc_l_classes.nd rfl (by first | exact Or.inl rfl | exact Or.inr rfl) (me_lst (ma_cons (me_oi (k := k) (.own (k.cl "InvalidCall")) (ownT_cons ⟨T.xc_InvalidCall, T.xk_InvalidCall_InvalidCall⟩ (ownT_cons ⟨T.xc_InvalidVoice, T.xk_InvalidVoice_InvalidCall⟩ (ownT_cons ⟨T.xc_InvalidText, T.xk_InvalidText_InvalidCall⟩ (ownT_cons ⟨T.xc_InvalidRoad, T.xk_InvalidRoad_InvalidCall⟩ (ownT_cons ⟨T.xc_InvalidGoing, T.xk_InvalidGoing_InvalidCall⟩ (ownT_cons ⟨T.xc_InvalidHeard, T.xk_InvalidHeard_InvalidCall⟩ (ownT_cons ⟨T.xc_InvalidFault, T.xk_InvalidFault_InvalidCall⟩ (ownT_cons ⟨T.xc_InvalidCommand, T.xk_InvalidCommand_InvalidCall⟩ (ownT_cons ⟨T.xc_Refused, T.xk_Refused_InvalidCall⟩ (ownT_cons ⟨T.xc_NoCall, T.xk_NoCall_InvalidCall⟩ ownT_nil)))))))))) (by rfl) T.z_isinstance (pv 0) (pe_glob (by rfl) T.g_InvalidCall (show RelV (.ref (k.cl "InvalidCall")) (.ref (k.cl "InvalidCall")) from rfl))) (ma_cons (me_oi (k := k) (.own (k.cl "InvalidVoice")) (ownT_cons ⟨T.xc_InvalidCall, T.xk_InvalidCall_InvalidVoice⟩ (ownT_cons ⟨T.xc_InvalidVoice, T.xk_InvalidVoice_InvalidVoice⟩ (ownT_cons ⟨T.xc_InvalidText, T.xk_InvalidText_InvalidVoice⟩ (ownT_cons ⟨T.xc_InvalidRoad, T.xk_InvalidRoad_InvalidVoice⟩ (ownT_cons ⟨T.xc_InvalidGoing, T.xk_InvalidGoing_InvalidVoice⟩ (ownT_cons ⟨T.xc_InvalidHeard, T.xk_InvalidHeard_InvalidVoice⟩ (ownT_cons ⟨T.xc_InvalidFault, T.xk_InvalidFault_InvalidVoice⟩ (ownT_cons ⟨T.xc_InvalidCommand, T.xk_InvalidCommand_InvalidVoice⟩ (ownT_cons ⟨T.xc_Refused, T.xk_Refused_InvalidVoice⟩ (ownT_cons ⟨T.xc_NoCall, T.xk_NoCall_InvalidVoice⟩ ownT_nil)))))))))) (by rfl) T.z_isinstance (pv 0) (pe_glob (by rfl) T.g_InvalidVoice (show RelV (.ref (k.cl "InvalidVoice")) (.ref (k.cl "InvalidVoice")) from rfl))) (ma_cons (me_oi (k := k) (.own (k.cl "InvalidText")) (ownT_cons ⟨T.xc_InvalidCall, T.xk_InvalidCall_InvalidText⟩ (ownT_cons ⟨T.xc_InvalidVoice, T.xk_InvalidVoice_InvalidText⟩ (ownT_cons ⟨T.xc_InvalidText, T.xk_InvalidText_InvalidText⟩ (ownT_cons ⟨T.xc_InvalidRoad, T.xk_InvalidRoad_InvalidText⟩ (ownT_cons ⟨T.xc_InvalidGoing, T.xk_InvalidGoing_InvalidText⟩ (ownT_cons ⟨T.xc_InvalidHeard, T.xk_InvalidHeard_InvalidText⟩ (ownT_cons ⟨T.xc_InvalidFault, T.xk_InvalidFault_InvalidText⟩ (ownT_cons ⟨T.xc_InvalidCommand, T.xk_InvalidCommand_InvalidText⟩ (ownT_cons ⟨T.xc_Refused, T.xk_Refused_InvalidText⟩ (ownT_cons ⟨T.xc_NoCall, T.xk_NoCall_InvalidText⟩ ownT_nil)))))))))) (by rfl) T.z_isinstance (pv 0) (pe_glob (by rfl) T.g_InvalidText (show RelV (.ref (k.cl "InvalidText")) (.ref (k.cl "InvalidText")) from rfl))) ma_nil)))))
      (ms_cons (ms_set (i := 1) sc_l_classes.nd rfl (by first | exact Or.inl rfl | exact Or.inr rfl) (me_add (me_var 1 (pv 1)) (me_lst (ma_cons (me_oi (k := k) (.own (k.cl "InvalidRoad")) (ownT_cons ⟨T.xc_InvalidCall, T.xk_InvalidCall_InvalidRoad⟩ (ownT_cons ⟨T.xc_InvalidVoice, T.xk_InvalidVoice_InvalidRoad⟩ (ownT_cons ⟨T.xc_InvalidText, T.xk_InvalidText_InvalidRoad⟩ (ownT_cons ⟨T.xc_InvalidRoad, T.xk_InvalidRoad_InvalidRoad⟩ (ownT_cons ⟨T.xc_InvalidGoing, T.xk_InvalidGoing_InvalidRoad⟩ (ownT_cons ⟨T.xc_InvalidHeard, T.xk_InvalidHeard_InvalidRoad⟩ (ownT_cons ⟨T.xc_InvalidFault, T.xk_InvalidFault_InvalidRoad⟩ (ownT_cons ⟨T.xc_InvalidCommand, T.xk_InvalidCommand_InvalidRoad⟩ (ownT_cons ⟨T.xc_Refused, T.xk_Refused_InvalidRoad⟩ (ownT_cons ⟨T.xc_NoCall, T.xk_NoCall_InvalidRoad⟩ ownT_nil)))))))))) (by rfl) T.z_isinstance (pv 0) (pe_glob (by rfl) T.g_InvalidRoad (show RelV (.ref (k.cl "InvalidRoad")) (.ref (k.cl "InvalidRoad")) from rfl))) (ma_cons (me_oi (k := k) (.own (k.cl "InvalidGoing")) (ownT_cons ⟨T.xc_InvalidCall, T.xk_InvalidCall_InvalidGoing⟩ (ownT_cons ⟨T.xc_InvalidVoice, T.xk_InvalidVoice_InvalidGoing⟩ (ownT_cons ⟨T.xc_InvalidText, T.xk_InvalidText_InvalidGoing⟩ (ownT_cons ⟨T.xc_InvalidRoad, T.xk_InvalidRoad_InvalidGoing⟩ (ownT_cons ⟨T.xc_InvalidGoing, T.xk_InvalidGoing_InvalidGoing⟩ (ownT_cons ⟨T.xc_InvalidHeard, T.xk_InvalidHeard_InvalidGoing⟩ (ownT_cons ⟨T.xc_InvalidFault, T.xk_InvalidFault_InvalidGoing⟩ (ownT_cons ⟨T.xc_InvalidCommand, T.xk_InvalidCommand_InvalidGoing⟩ (ownT_cons ⟨T.xc_Refused, T.xk_Refused_InvalidGoing⟩ (ownT_cons ⟨T.xc_NoCall, T.xk_NoCall_InvalidGoing⟩ ownT_nil)))))))))) (by rfl) T.z_isinstance (pv 0) (pe_glob (by rfl) T.g_InvalidGoing (show RelV (.ref (k.cl "InvalidGoing")) (.ref (k.cl "InvalidGoing")) from rfl))) (ma_cons (me_oi (k := k) (.own (k.cl "InvalidHeard")) (ownT_cons ⟨T.xc_InvalidCall, T.xk_InvalidCall_InvalidHeard⟩ (ownT_cons ⟨T.xc_InvalidVoice, T.xk_InvalidVoice_InvalidHeard⟩ (ownT_cons ⟨T.xc_InvalidText, T.xk_InvalidText_InvalidHeard⟩ (ownT_cons ⟨T.xc_InvalidRoad, T.xk_InvalidRoad_InvalidHeard⟩ (ownT_cons ⟨T.xc_InvalidGoing, T.xk_InvalidGoing_InvalidHeard⟩ (ownT_cons ⟨T.xc_InvalidHeard, T.xk_InvalidHeard_InvalidHeard⟩ (ownT_cons ⟨T.xc_InvalidFault, T.xk_InvalidFault_InvalidHeard⟩ (ownT_cons ⟨T.xc_InvalidCommand, T.xk_InvalidCommand_InvalidHeard⟩ (ownT_cons ⟨T.xc_Refused, T.xk_Refused_InvalidHeard⟩ (ownT_cons ⟨T.xc_NoCall, T.xk_NoCall_InvalidHeard⟩ ownT_nil)))))))))) (by rfl) T.z_isinstance (pv 0) (pe_glob (by rfl) T.g_InvalidHeard (show RelV (.ref (k.cl "InvalidHeard")) (.ref (k.cl "InvalidHeard")) from rfl))) ma_nil))))))
      (ms_cons (ms_set (i := 1) sc_l_classes.nd rfl (by first | exact Or.inl rfl | exact Or.inr rfl) (me_add (me_var 1 (pv 1)) (me_lst (ma_cons (me_oi (k := k) (.own (k.cl "Refused")) (ownT_cons ⟨T.xc_InvalidCall, T.xk_InvalidCall_Refused⟩ (ownT_cons ⟨T.xc_InvalidVoice, T.xk_InvalidVoice_Refused⟩ (ownT_cons ⟨T.xc_InvalidText, T.xk_InvalidText_Refused⟩ (ownT_cons ⟨T.xc_InvalidRoad, T.xk_InvalidRoad_Refused⟩ (ownT_cons ⟨T.xc_InvalidGoing, T.xk_InvalidGoing_Refused⟩ (ownT_cons ⟨T.xc_InvalidHeard, T.xk_InvalidHeard_Refused⟩ (ownT_cons ⟨T.xc_InvalidFault, T.xk_InvalidFault_Refused⟩ (ownT_cons ⟨T.xc_InvalidCommand, T.xk_InvalidCommand_Refused⟩ (ownT_cons ⟨T.xc_Refused, T.xk_Refused_Refused⟩ (ownT_cons ⟨T.xc_NoCall, T.xk_NoCall_Refused⟩ ownT_nil)))))))))) (by rfl) T.z_isinstance (pv 0) (pe_glob (by rfl) T.g_Refused (show RelV (.ref (k.cl "Refused")) (.ref (k.cl "Refused")) from rfl))) (ma_cons (me_oi (k := k) (.own (k.cl "InvalidFault")) (ownT_cons ⟨T.xc_InvalidCall, T.xk_InvalidCall_InvalidFault⟩ (ownT_cons ⟨T.xc_InvalidVoice, T.xk_InvalidVoice_InvalidFault⟩ (ownT_cons ⟨T.xc_InvalidText, T.xk_InvalidText_InvalidFault⟩ (ownT_cons ⟨T.xc_InvalidRoad, T.xk_InvalidRoad_InvalidFault⟩ (ownT_cons ⟨T.xc_InvalidGoing, T.xk_InvalidGoing_InvalidFault⟩ (ownT_cons ⟨T.xc_InvalidHeard, T.xk_InvalidHeard_InvalidFault⟩ (ownT_cons ⟨T.xc_InvalidFault, T.xk_InvalidFault_InvalidFault⟩ (ownT_cons ⟨T.xc_InvalidCommand, T.xk_InvalidCommand_InvalidFault⟩ (ownT_cons ⟨T.xc_Refused, T.xk_Refused_InvalidFault⟩ (ownT_cons ⟨T.xc_NoCall, T.xk_NoCall_InvalidFault⟩ ownT_nil)))))))))) (by rfl) T.z_isinstance (pv 0) (pe_glob (by rfl) T.g_InvalidFault (show RelV (.ref (k.cl "InvalidFault")) (.ref (k.cl "InvalidFault")) from rfl))) (ma_cons (me_oi (k := k) (.own (k.cl "InvalidCommand")) (ownT_cons ⟨T.xc_InvalidCall, T.xk_InvalidCall_InvalidCommand⟩ (ownT_cons ⟨T.xc_InvalidVoice, T.xk_InvalidVoice_InvalidCommand⟩ (ownT_cons ⟨T.xc_InvalidText, T.xk_InvalidText_InvalidCommand⟩ (ownT_cons ⟨T.xc_InvalidRoad, T.xk_InvalidRoad_InvalidCommand⟩ (ownT_cons ⟨T.xc_InvalidGoing, T.xk_InvalidGoing_InvalidCommand⟩ (ownT_cons ⟨T.xc_InvalidHeard, T.xk_InvalidHeard_InvalidCommand⟩ (ownT_cons ⟨T.xc_InvalidFault, T.xk_InvalidFault_InvalidCommand⟩ (ownT_cons ⟨T.xc_InvalidCommand, T.xk_InvalidCommand_InvalidCommand⟩ (ownT_cons ⟨T.xc_Refused, T.xk_Refused_InvalidCommand⟩ (ownT_cons ⟨T.xc_NoCall, T.xk_NoCall_InvalidCommand⟩ ownT_nil)))))))))) (by rfl) T.z_isinstance (pv 0) (pe_glob (by rfl) T.g_InvalidCommand (show RelV (.ref (k.cl "InvalidCommand")) (.ref (k.cl "InvalidCommand")) from rfl))) ma_nil))))))
      (ms_one (ms_ret (me_add (me_var 1 (pv 1)) (me_lst (ma_cons (me_oi (k := k) (.own (k.cl "NoCall")) (ownT_cons ⟨T.xc_InvalidCall, T.xk_InvalidCall_NoCall⟩ (ownT_cons ⟨T.xc_InvalidVoice, T.xk_InvalidVoice_NoCall⟩ (ownT_cons ⟨T.xc_InvalidText, T.xk_InvalidText_NoCall⟩ (ownT_cons ⟨T.xc_InvalidRoad, T.xk_InvalidRoad_NoCall⟩ (ownT_cons ⟨T.xc_InvalidGoing, T.xk_InvalidGoing_NoCall⟩ (ownT_cons ⟨T.xc_InvalidHeard, T.xk_InvalidHeard_NoCall⟩ (ownT_cons ⟨T.xc_InvalidFault, T.xk_InvalidFault_NoCall⟩ (ownT_cons ⟨T.xc_InvalidCommand, T.xk_InvalidCommand_NoCall⟩ (ownT_cons ⟨T.xc_Refused, T.xk_Refused_NoCall⟩ (ownT_cons ⟨T.xc_NoCall, T.xk_NoCall_NoCall⟩ ownT_nil)))))))))) (by rfl) T.z_isinstance (pv 0) (pe_glob (by rfl) T.g_NoCall (show RelV (.ref (k.cl "NoCall")) (.ref (k.cl "NoCall")) from rfl))) ma_nil))))))))
theorem ok_l_are_own (T : Tx P k mg a) : FnOk P k.w k.K mg base (L2.CX P k.w) 2 a.f_l_are_own a.d_l_are_own ["_law_made", "_law_first"] (spM k 2 c_l_are_own) :=
  ok_def (j := 1) (s := s_l_are_own) T.F_l_are_own sc_l_are_own (show c_l_are_own = callS 6 s_l_are_own from rfl) rfl rfl fun cdv A outer s0 H E hr => by
    have tk : Takes (cxOf (L2.CX P k.w) P k.w k.K mg base ["_law_made", "_law_first", "_law_step", "_law_one", "_law_is_base", "_law_spot"] "_law_are_own" (defScope st_l_are_own) a.f_l_are_own cdv A outer s0 H E) (fun c d _ H' => E c d H') := takes_of rfl rfl rfl rfl
    exact (ms_cons (ms_for (t := (.tup [.name 2, .name 3])) (passes_of rfl) rfl (mi_enum (by rfl) T.z_enumerate (ma_cons (me_var 0 (pv 0)) ma_nil)) (pg_tup rfl (pgs_cons (pg_name (i := 2) sc_l_are_own.nd rfl (by first | exact Or.inl rfl | exact Or.inr rfl)) (pgs_cons (pg_name (i := 3) sc_l_are_own.nd rfl (by first | exact Or.inl rfl | exact Or.inr rfl)) pgs_nil))) (ms_cons (ms_if (mt_cu (cu_ne hr) (me_call (ok_l_classes T) (hr.mono (by decide)) (by rfl) T.g_l_classes T.F_l_classes.kp T.b_l_classes .nil (fun _ _ => rl_nil) tk (ma_cons (me_var 3 (pv 3)) ma_nil)) (me_comp (t := (.name 5)) (own := [("_law_spot", 5)]) (by decide) (pe_lc (own := [("_law_spot", 5)]) (g := gT _ (.name 5)) rfl sc_l_are_own.nd (mi_range1 (pi_range1 (by rfl) T.z_range (ma_cons me_int ma_nil))) (blkOk_by (own := [("_law_spot", 5)]) (N := ["_law_made", "_law_first", "_law_step", "_law_one", "_law_is_base", "_law_spot"]) (sc := defScope st_l_are_own) (by decide +kernel)) (fun _ _ _ _ _ => (pg_name (i := 5) sc_l_are_own.nd rfl (by first | exact Or.inl rfl | exact Or.inr rfl))) (fun _ _ _ _ _ => mts_nil) (fun _ _ _ _ _ => (me_cu (cu_eq hr) (me_add (me_var 1 (pv 1)) (me_var 2 (pv 2))) (me_var 5 (pv 5))))))) (ms_one (ms_ret me_bl)) ms_nil)
      (ms_cons (ms_set (i := 4) sc_l_are_own.nd rfl (by first | exact Or.inl rfl | exact Or.inr rfl) (me_cu (cu_lt) (me_add (me_var 1 (pv 1)) (me_var 2 (pv 2))) me_int))
      (ms_cons (ms_if (PW.pt (mw_or (mt_cu (cu_ne hr) (me_oi (k := k) (.own (k.cl "RoadError")) (ownT_cons ⟨T.xc_InvalidCall, T.xk_InvalidCall_RoadError⟩ (ownT_cons ⟨T.xc_InvalidVoice, T.xk_InvalidVoice_RoadError⟩ (ownT_cons ⟨T.xc_InvalidText, T.xk_InvalidText_RoadError⟩ (ownT_cons ⟨T.xc_InvalidRoad, T.xk_InvalidRoad_RoadError⟩ (ownT_cons ⟨T.xc_InvalidGoing, T.xk_InvalidGoing_RoadError⟩ (ownT_cons ⟨T.xc_InvalidHeard, T.xk_InvalidHeard_RoadError⟩ (ownT_cons ⟨T.xc_InvalidFault, T.xk_InvalidFault_RoadError⟩ (ownT_cons ⟨T.xc_InvalidCommand, T.xk_InvalidCommand_RoadError⟩ (ownT_cons ⟨T.xc_Refused, T.xk_Refused_RoadError⟩ (ownT_cons ⟨T.xc_NoCall, T.xk_NoCall_RoadError⟩ ownT_nil)))))))))) (by rfl) T.z_isinstance (pv 3) (pe_glob (by rfl) T.g_RoadError (show RelV (.ref (k.cl "RoadError")) (.ref (k.cl "RoadError")) from rfl))) (me_var 4 (pv 4))) (mw_or1 (mt_cu (cu_ne hr) (me_oi (k := k) (.ty "ValueError") (ownT_cons ⟨T.xc_InvalidCall, T.xb_InvalidCall_ValueError⟩ (ownT_cons ⟨T.xc_InvalidVoice, T.xb_InvalidVoice_ValueError⟩ (ownT_cons ⟨T.xc_InvalidText, T.xb_InvalidText_ValueError⟩ (ownT_cons ⟨T.xc_InvalidRoad, T.xb_InvalidRoad_ValueError⟩ (ownT_cons ⟨T.xc_InvalidGoing, T.xb_InvalidGoing_ValueError⟩ (ownT_cons ⟨T.xc_InvalidHeard, T.xb_InvalidHeard_ValueError⟩ (ownT_cons ⟨T.xc_InvalidFault, T.xb_InvalidFault_ValueError⟩ (ownT_cons ⟨T.xc_InvalidCommand, T.xb_InvalidCommand_ValueError⟩ (ownT_cons ⟨T.xc_Refused, T.xb_Refused_ValueError⟩ (ownT_cons ⟨T.xc_NoCall, T.xb_NoCall_ValueError⟩ ownT_nil)))))))))) (by rfl) T.z_isinstance (pv 3) (pe_bltn (by rfl) T.z_ValueError (by decide +kernel) rfl)) (me_var 4 (pv 4)))))) (ms_one (ms_ret me_bl)) ms_nil)
      (ms_one (ms_if (mt_cu (cu_eq hr) (me_oi (k := k) (.ty "IndexError") (ownT_cons ⟨T.xc_InvalidCall, T.xb_InvalidCall_IndexError⟩ (ownT_cons ⟨T.xc_InvalidVoice, T.xb_InvalidVoice_IndexError⟩ (ownT_cons ⟨T.xc_InvalidText, T.xb_InvalidText_IndexError⟩ (ownT_cons ⟨T.xc_InvalidRoad, T.xb_InvalidRoad_IndexError⟩ (ownT_cons ⟨T.xc_InvalidGoing, T.xb_InvalidGoing_IndexError⟩ (ownT_cons ⟨T.xc_InvalidHeard, T.xb_InvalidHeard_IndexError⟩ (ownT_cons ⟨T.xc_InvalidFault, T.xb_InvalidFault_IndexError⟩ (ownT_cons ⟨T.xc_InvalidCommand, T.xb_InvalidCommand_IndexError⟩ (ownT_cons ⟨T.xc_Refused, T.xb_Refused_IndexError⟩ (ownT_cons ⟨T.xc_NoCall, T.xb_NoCall_IndexError⟩ ownT_nil)))))))))) (by rfl) T.z_isinstance (pv 3) (pe_bltn (by rfl) T.z_IndexError (by decide +kernel) rfl)) (me_var 4 (pv 4))) (ms_one (ms_ret me_bl)) ms_nil))))))
      (ms_one (ms_ret me_bl)))
theorem ok_l_deal (T : Tx P k mg a) : FnOk P k.w k.K mg base (L2.CX P k.w) 1 a.f_l_deal a.d_l_deal ["_law_script", "_law_base"] (spM k 2 c_l_deal) :=
  ok_def (j := 0) (s := s_l_deal) T.F_l_deal sc_l_deal (show c_l_deal = callS 5 s_l_deal from rfl) rfl rfl fun cdv A outer s0 H E hr => by
    have tk : Takes (cxOf (L2.CX P k.w) P k.w k.K mg base ["_law_script", "_law_base", "_law_cells", "_law_mixed_here", "_law_cell"] "_law_deal" (defScope st_l_deal) a.f_l_deal cdv A outer s0 H E) (fun c d _ H' => E c d H') := takes_of rfl rfl rfl rfl
    exact (ms_cons (ms_comp (i := 2) (elt := .Constant .none 0 ⟨0,0,0,0⟩) (tg := .Constant .none 0 ⟨0,0,0,0⟩) (iter := .Constant .none 0 ⟨0,0,0,0⟩) (ifs := []) (scope := defScope st_l_deal) (t := (.name 4)) (own := [("_law_cell", 4)]) (by decide) (ps_setLc (i := 2) (own := [("_law_cell", 4)]) (g := gT _ (.name 4)) rfl sc_l_deal.nd rfl rfl (sw_true rfl rfl rfl (by decide +kernel)) (mi_still (me_slice (me_var 0 (pv 0)) (mo_some (me_var 1 (pv 1))) (mo_some me_int))) (blkOk_by (own := [("_law_cell", 4)]) (N := ["_law_script", "_law_base", "_law_cells", "_law_mixed_here", "_law_cell"]) (sc := defScope st_l_deal) (by decide +kernel)) (fun _ _ _ _ _ => (pg_name (i := 4) sc_l_deal.nd rfl (by first | exact Or.inl rfl | exact Or.inr rfl))) (fun _ _ _ _ _ => mts_nil) (fun _ _ _ _ _ => (me_cb (cu_abs) (by rfl) T.z_abs PyProof.Rows.boot_abs (ma_cons (me_ct (cu_int) (by rfl) T.z_int (by decide +kernel) (ma_cons (me_var 4 (pv 4)) ma_nil)) ma_nil)))))
      (ms_cons (ms_set (i := 3) sc_l_deal.nd rfl (by first | exact Or.inl rfl | exact Or.inr rfl) (me_add me_int (me_mul me_int (me_var 1 (pv 1)))))
      (ms_cons (ms_for (t := (.name 4)) (passes_of rfl) rfl (mi_still (me_var 2 (pv 2))) (pg_name (i := 4) sc_l_deal.nd rfl (by first | exact Or.inl rfl | exact Or.inr rfl)) (ms_one (ms_set (i := 3) sc_l_deal.nd rfl (by first | exact Or.inl rfl | exact Or.inr rfl) (me_mod (me_ct (cu_int) (by rfl) T.z_int (by decide +kernel) (ma_cons (me_add (me_add (me_mul (me_var 3 (pv 3)) me_int) (me_mod (me_ct (cu_int) (by rfl) T.z_int (by decide +kernel) (ma_cons (me_var 4 (pv 4)) ma_nil)) me_int)) me_int) ma_nil)) me_int))))
      (ms_one (ms_ret (me_lstM (ma_cons (me_revM (me_comp (t := (.name 4)) (own := [("_law_cell", 4)]) (by decide) (pe_lc (own := [("_law_cell", 4)]) (g := gT _ (.name 4)) rfl sc_l_deal.nd (mi_still (me_var 2 (pv 2))) (blkOk_by (own := [("_law_cell", 4)]) (N := ["_law_script", "_law_base", "_law_cells", "_law_mixed_here", "_law_cell"]) (sc := defScope st_l_deal) (by decide +kernel)) (fun _ _ _ _ _ => (pg_name (i := 4) sc_l_deal.nd rfl (by first | exact Or.inl rfl | exact Or.inr rfl))) (fun _ _ _ _ _ => pts_one (mt_cu (cu_ge) (me_var 4 (pv 4)) (me_pow me_int me_int))) (fun _ _ _ _ _ => (me_var 4 (pv 4)))))) (ma_cons (me_var 3 (pv 3)) ma_nil))))))))
theorem ok_l_draw (T : Tx P k mg a) : FnOk P k.w k.K mg base (L2.CX P k.w) 1 a.f_l_draw a.d_l_draw ["_law_deal_here", "_law_many"] (spM k 2 c_l_draw) :=
  ok_def (j := 0) (s := s_l_draw) T.F_l_draw sc_l_draw (show c_l_draw = callS 3 s_l_draw from rfl) rfl rfl fun cdv A outer s0 H E hr => by
    have tk : Takes (cxOf (L2.CX P k.w) P k.w k.K mg base ["_law_deal_here", "_law_many", "_law_left"] "_law_draw" (defScope st_l_draw) a.f_l_draw cdv A outer s0 H E) (fun c d _ H' => E c d H') := takes_of rfl rfl rfl rfl
    exact (ms_cons (ms_while 100 (passes_of rfl) (PW.pt (mw_and (mt_cu (cu_ne hr) (me_idx (me_var 0 (pv 0)) me_int (fun _ _ => rfl)) (me_lst ma_nil)) (mw_and1 (mt_cu (cu_eq hr) (me_idx (me_idx (me_var 0 (pv 0)) me_int (fun _ _ => rfl)) (me_neg me_int) (fun _ _ => rfl)) me_int)))) (ms_one (ms_expr (me_pop (pe_bm0 PySem.F.plainAttrs_list PySem.F.slot_list_pop PySem.F.type_list_pop mt_pop (me_idx (me_var 0 (pv 0)) me_int (fun _ _ => rfl)))))))
      (ms_cons (ms_if (mt_cu (cu_ne hr) (me_idx (me_var 0 (pv 0)) me_int (fun _ _ => rfl)) (me_lst ma_nil)) (ms_cons (ms_set (i := 2) sc_l_draw.nd rfl (by first | exact Or.inl rfl | exact Or.inr rfl) (me_pop (pe_bm0 PySem.F.plainAttrs_list PySem.F.slot_list_pop PySem.F.type_list_pop mt_pop (me_idx (me_var 0 (pv 0)) me_int (fun _ _ => rfl)))))
      (ms_cons (ms_expr (me_append (ma := stuck) (me_idx (me_var 0 (pv 0)) me_int (fun _ _ => rfl)) (ma_cons (me_fdiv (me_var 2 (pv 2)) (me_var 1 (pv 1))) ma_nil) (pe_bm PySem.F.plainAttrs_list PySem.F.slot_list_append PySem.F.type_list_append mt_append (me_idx (me_var 0 (pv 0)) me_int (fun _ _ => rfl)) (ma_cons (me_fdiv (me_var 2 (pv 2)) (me_var 1 (pv 1))) ma_nil))))
      (ms_one (ms_ret (me_mod (me_ct (cu_int) (by rfl) T.z_int (by decide +kernel) (ma_cons (me_var 2 (pv 2)) ma_nil)) (me_var 1 (pv 1))))))) ms_nil)
      (ms_cons (ms_sub (ps_asg (me_mod (me_ct (cu_int) (by rfl) T.z_int (by decide +kernel) (ma_cons (me_add (me_mul (me_idx (me_var 0 (pv 0)) me_int (fun _ _ => rfl)) me_int) me_int) ma_nil)) me_int) (pg_sub (me_var 0 (pv 0)) me_int set_list)))
      (ms_one (ms_ret (me_mod (me_ct (cu_int) (by rfl) T.z_int (by decide +kernel) (ma_cons (me_fdiv (me_idx (me_var 0 (pv 0)) me_int (fun _ _ => rfl)) me_int) ma_nil)) (me_var 1 (pv 1))))))))
theorem ok_l_pick (T : Tx P k mg a) : FnOk P k.w k.K mg base (L2.CX P k.w) 2 a.f_l_pick a.d_l_pick ["_law_deal_here", "_law_some"] (spM k 2 c_l_pick) :=
  ok_def (j := 1) (s := s_l_pick) T.F_l_pick sc_l_pick (show c_l_pick = callS 2 s_l_pick from rfl) rfl rfl fun cdv A outer s0 H E hr => by
    have tk : Takes (cxOf (L2.CX P k.w) P k.w k.K mg base ["_law_deal_here", "_law_some"] "_law_pick" (defScope st_l_pick) a.f_l_pick cdv A outer s0 H E) (fun c d _ H' => E c d H') := takes_of rfl rfl rfl rfl
    exact (ms_one (ms_ret (me_idx (me_var 1 (pv 1)) (me_call (ok_l_draw T) (hr.mono (by decide)) (by rfl) T.g_l_draw T.F_l_draw.kp T.b_l_draw .nil (fun _ _ => rl_nil) tk (ma_cons (me_var 0 (pv 0)) (ma_cons (me_cb (cu_len) (by rfl) T.z_len PySem.boot_len (ma_cons (me_var 1 (pv 1)) ma_nil)) ma_nil))) (fun _ _ => rfl))))
theorem okr_l_thing (T : Tx P k mg a) : ∀ n : Nat, FnOk P k.w k.K mg base (L2.CX P k.w) (2 + n) a.f_l_thing a.d_l_thing ["_law_deal_here", "_law_deep"] (spM k 2 (cr_l_thing n))
  | 0 => fnok_none
  | n + 1 => ok_def (j := 2 + n) (s := s_l_thing (cr_l_thing n)) T.F_l_thing sc_l_thing (show cr_l_thing (n + 1) = callS 5 (s_l_thing (cr_l_thing n)) from rfl) rfl rfl fun cdv A outer s0 H E hr => by
    have tk : Takes (cxOf (L2.CX P k.w) P k.w k.K mg base ["_law_deal_here", "_law_deep", "_law_some", "_law_inner", "_law_turn"] "_law_thing" (defScope st_l_thing) a.f_l_thing cdv A outer s0 H E) (fun c d _ H' => E c d H') := takes_of rfl rfl rfl rfl
    exact (ms_cons (ms_set (i := 2) sc_l_thing.nd rfl (by first | exact Or.inl rfl | exact Or.inr rfl) (me_lst (ma_cons me_non (ma_cons me_bl (ma_cons me_bl (ma_cons me_int (ma_cons me_int (ma_cons (me_sub me_int me_int) (ma_cons me_int (ma_cons (me_pow me_int me_int) (ma_cons me_str (ma_cons me_str (ma_cons me_str (ma_cons me_str (ma_cons me_str (ma_cons me_str (ma_cons me_str (ma_cons (me_tup ma_nil) (ma_cons (me_lst ma_nil) (ma_cons (me_tup (ma_cons me_str (ma_cons me_int ma_nil))) ma_nil))))))))))))))))))))
      (ms_cons (ms_if (PW.pt (mw_or (mt_cu (cu_eq hr) (me_var 1 (pv 1)) me_int) (mw_or1 (mt_cu (cu_eq hr) (me_call (ok_l_draw T) (hr.mono (by omega)) (by rfl) T.g_l_draw T.F_l_draw.kp T.b_l_draw .nil (fun _ _ => rl_nil) tk (ma_cons (me_var 0 (pv 0)) (ma_cons me_int ma_nil))) me_int)))) (ms_one (ms_ret (me_call (ok_l_pick T) (hr.mono (by omega)) (by rfl) T.g_l_pick T.F_l_pick.kp T.b_l_pick .nil (fun _ _ => rl_nil) tk (ma_cons (me_var 0 (pv 0)) (ma_cons (me_var 2 (pv 2)) ma_nil))))) ms_nil)
      (ms_cons (ms_comp (i := 3) (elt := .Constant .none 0 ⟨0,0,0,0⟩) (tg := .Constant .none 0 ⟨0,0,0,0⟩) (iter := .Constant .none 0 ⟨0,0,0,0⟩) (ifs := []) (scope := defScope st_l_thing) (t := (.name 4)) (own := [("_law_turn", 4)]) (by decide) (ps_setLc (i := 3) (own := [("_law_turn", 4)]) (g := gT _ (.name 4)) rfl sc_l_thing.nd rfl rfl (sw_true rfl rfl rfl (by decide +kernel)) (mi_range1 (pi_range1 (by rfl) T.z_range (ma_cons (me_call (ok_l_draw T) (hr.mono (by omega)) (by rfl) T.g_l_draw T.F_l_draw.kp T.b_l_draw .nil (fun _ _ => rl_nil) tk (ma_cons (me_var 0 (pv 0)) (ma_cons me_int ma_nil))) ma_nil))) (blkOk_by (own := [("_law_turn", 4)]) (N := ["_law_deal_here", "_law_deep", "_law_some", "_law_inner", "_law_turn"]) (sc := defScope st_l_thing) (by decide +kernel)) (fun _ _ _ _ _ => (pg_name (i := 4) sc_l_thing.nd rfl (by first | exact Or.inl rfl | exact Or.inr rfl))) (fun _ _ _ _ _ => mts_nil) (fun _ _ _ _ _ => (me_call (okr_l_thing T n) (hr.mono (by omega)) (by rfl) T.g_l_thing T.F_l_thing.kp T.b_l_thing .nil (fun _ _ => rl_nil) takes0 (ma_cons (me_var 0 (pv 0)) (ma_cons (me_sub (me_var 1 (pv 1)) me_int) ma_nil))))))
      (ms_one (ms_ret (me_if (mt_cu (cu_eq hr) (me_call (ok_l_draw T) (hr.mono (by omega)) (by rfl) T.g_l_draw T.F_l_draw.kp T.b_l_draw .nil (fun _ _ => rl_nil) tk (ma_cons (me_var 0 (pv 0)) (ma_cons me_int ma_nil))) me_int) (me_var 3 (pv 3)) (me_ct (cu_tuple) (by rfl) T.z_tuple (by decide +kernel) (ma_cons (me_var 3 (pv 3)) ma_nil))))))))
theorem ok_l_thing (T : Tx P k mg a) : FnOk P k.w k.K mg base (L2.CX P k.w) 9 a.f_l_thing a.d_l_thing ["_law_deal_here", "_law_deep"] (spM k 2 c_l_thing) := (okr_l_thing T 6).mono (by decide)
theorem law_body (T : Tx P k mg a) (base : Heap) (cdv : Value) (A : Around) (outer : List PySem.Env) (s0 : Shared) (H : Hp) (E : XK) (hA : A.guards = some []) (hr : Room 9 (A.deeper (envOfC "law" (defScope st_law) s0.heap.objs.size a.f_law cdv))) :
    PSs (cxOf (L2.CX P k.w) P k.w k.K mg base ["_law_script", "_law_spot", "_law_deal_here", "_law_numbers", "_law_more", "_law_gone", "_law_kept", "_law_other", "_law_told", "_law_named", "_law_one"] "law" (defScope st_law) a.f_law cdv A outer s0 H E) (defBody st_law) (tS k (fun c d _ H' => E c d H') s_law) := by
    have tk : Takes (cxOf (L2.CX P k.w) P k.w k.K mg base ["_law_script", "_law_spot", "_law_deal_here", "_law_numbers", "_law_more", "_law_gone", "_law_kept", "_law_other", "_law_told", "_law_named", "_law_one"] "law" (defScope st_law) a.f_law cdv A outer s0 H E) (fun c d _ H' => E c d H') := takes_of rfl rfl rfl rfl
    have hG : (cxOf (L2.CX P k.w) P k.w k.K mg base ["_law_script", "_law_spot", "_law_deal_here", "_law_numbers", "_law_more", "_law_gone", "_law_kept", "_law_other", "_law_told", "_law_named", "_law_one"] "law" (defScope st_law) a.f_law cdv A outer s0 H E).A.guards = some [] := hA
    exact (ms_cons (ms_for (t := (.name 1)) (passes_of rfl) rfl (mi_range1 (pi_range1 (by rfl) T.z_range (ma_cons (me_cb (cu_max2 rfl) (by rfl) T.z_max (by decide +kernel) (ma_cons me_int (ma_cons (me_cb (cu_min2 rfl) (by rfl) T.z_min (by decide +kernel) (ma_cons me_int (ma_cons (me_cb (cu_len) (by rfl) T.z_len PySem.boot_len (ma_cons (me_var 0 (pv 0)) ma_nil)) ma_nil))) ma_nil))) ma_nil))) (pg_name (i := 1) sc_law.nd rfl (by first | exact Or.inl rfl | exact Or.inr rfl)) (ms_cons (ms_set (i := 2) sc_law.nd rfl (by first | exact Or.inl rfl | exact Or.inr rfl) (me_call (ok_l_deal T) (hr.mono (by decide)) (by rfl) T.g_l_deal T.F_l_deal.kp T.b_l_deal .nil (fun _ _ => rl_nil) tk (ma_cons (me_var 0 (pv 0)) (ma_cons (me_var 1 (pv 1)) ma_nil))))
      (ms_cons (impS (ps_par (i := 6) (j := 7) rfl sc_law.nd rfl rfl (by decide) rfl rfl (ma_cons (me_lstM (ma_cons (me_call (ok_l_thing T) (hr.mono (by decide)) (by rfl) T.g_l_thing T.F_l_thing.kp T.b_l_thing .nil (fun _ _ => rl_nil) tk (ma_cons (me_var 2 (pv 2)) (ma_cons me_int ma_nil))) (ma_cons me_str ma_nil))) (ma_cons (me_lstM (ma_cons (me_call (ok_l_thing T) (hr.mono (by decide)) (by rfl) T.g_l_thing T.F_l_thing.kp T.b_l_thing .nil (fun _ _ => rl_nil) tk (ma_cons (me_var 2 (pv 2)) (ma_cons me_int ma_nil))) ma_nil)) ma_nil)) (by first | rfl | kernel_rfl)) fun _ _ _ h => par_read h)
      (ms_cons (impS (ps_par (i := 8) (j := 9) rfl sc_law.nd rfl rfl (by decide) rfl rfl (ma_cons (me_lst (ma_cons (T.R_InvalidCall |> fun ⟨_, hR⟩ => me_mkX (c := "InvalidCall") hR (hr.mono (by decide)) (by rfl) T.g_InvalidCall (ma_cons (me_var 6 (pv 6)) ma_nil)) (ma_cons (T.R_InvalidVoice |> fun ⟨_, hR⟩ => me_mkX (c := "InvalidVoice") hR (hr.mono (by decide)) (by rfl) T.g_InvalidVoice (ma_cons (me_var 6 (pv 6)) ma_nil)) ma_nil))) (ma_cons (me_lst (ma_cons (T.R_InvalidCall |> fun ⟨_, hR⟩ => me_mkXK (c := "InvalidCall") hR (hr.mono (by decide)) (by rfl) T.g_InvalidCall (mk_cons (me_var 7 (pv 7)) mk_nil)) (ma_cons (T.R_InvalidVoice |> fun ⟨_, hR⟩ => me_mkXK (c := "InvalidVoice") hR (hr.mono (by decide)) (by rfl) T.g_InvalidVoice (mk_cons (me_var 7 (pv 7)) mk_nil)) ma_nil))) ma_nil)) (by first | rfl | kernel_rfl)) fun _ _ _ h => par_read h)
      (ms_cons (ms_set (i := 3) sc_law.nd rfl (by first | exact Or.inl rfl | exact Or.inr rfl) (me_lst (ma_cons (T.R_InvalidText |> fun ⟨_, hR⟩ => me_mkX (c := "InvalidText") hR (hr.mono (by decide)) (by rfl) T.g_InvalidText (ma_cons (me_var 6 (pv 6)) ma_nil)) (ma_cons (T.R_InvalidRoad |> fun ⟨_, hR⟩ => me_mkX (c := "InvalidRoad") hR (hr.mono (by decide)) (by rfl) T.g_InvalidRoad (ma_cons (me_var 6 (pv 6)) ma_nil)) (ma_cons (T.R_InvalidGoing |> fun ⟨_, hR⟩ => me_mkX (c := "InvalidGoing") hR (hr.mono (by decide)) (by rfl) T.g_InvalidGoing (ma_cons (me_var 6 (pv 6)) ma_nil)) (ma_cons (T.R_InvalidHeard |> fun ⟨_, hR⟩ => me_mkX (c := "InvalidHeard") hR (hr.mono (by decide)) (by rfl) T.g_InvalidHeard (ma_cons (me_var 6 (pv 6)) ma_nil)) (ma_cons (T.R_Refused |> fun ⟨_, hR⟩ => me_mkX (c := "Refused") hR (hr.mono (by decide)) (by rfl) T.g_Refused (ma_cons (me_var 6 (pv 6)) ma_nil)) ma_nil)))))))
      (ms_cons (ms_set (i := 4) sc_law.nd rfl (by first | exact Or.inl rfl | exact Or.inr rfl) (me_lst (ma_cons (T.R_InvalidText |> fun ⟨_, hR⟩ => me_mkXK (c := "InvalidText") hR (hr.mono (by decide)) (by rfl) T.g_InvalidText (mk_cons (me_var 7 (pv 7)) mk_nil)) (ma_cons (T.R_InvalidRoad |> fun ⟨_, hR⟩ => me_mkXK (c := "InvalidRoad") hR (hr.mono (by decide)) (by rfl) T.g_InvalidRoad (mk_cons (me_var 7 (pv 7)) mk_nil)) (ma_cons (T.R_InvalidGoing |> fun ⟨_, hR⟩ => me_mkXK (c := "InvalidGoing") hR (hr.mono (by decide)) (by rfl) T.g_InvalidGoing (mk_cons (me_var 7 (pv 7)) mk_nil)) (ma_cons (T.R_InvalidHeard |> fun ⟨_, hR⟩ => me_mkXK (c := "InvalidHeard") hR (hr.mono (by decide)) (by rfl) T.g_InvalidHeard (mk_cons (me_var 7 (pv 7)) mk_nil)) ma_nil))))))
      (ms_cons (ms_set (i := 5) sc_law.nd rfl (by first | exact Or.inl rfl | exact Or.inr rfl) (me_lst (ma_cons (T.R_NoCall |> fun ⟨_, hR⟩ => me_mkX (c := "NoCall") hR (hr.mono (by decide)) (by rfl) T.g_NoCall (ma_cons (me_var 6 (pv 6)) ma_nil)) (ma_cons (T.R_NoCall |> fun ⟨_, hR⟩ => me_mkXK (c := "NoCall") hR (hr.mono (by decide)) (by rfl) T.g_NoCall (mk_cons (me_var 7 (pv 7)) mk_nil)) (ma_cons (T.R_Refused |> fun ⟨_, hR⟩ => me_mkXK (c := "Refused") hR (hr.mono (by decide)) (by rfl) T.g_Refused (mk_cons (me_var 7 (pv 7)) mk_nil)) ma_nil)))))
      (ms_cons (ms_expr (me_append (ma := stuck) (me_var 6 (pv 6)) (ma_cons me_int ma_nil) (pe_bm PySem.F.plainAttrs_list PySem.F.slot_list_append PySem.F.type_list_append mt_append (me_var 6 (pv 6)) (ma_cons me_int ma_nil))))
      (ms_cons (ms_expr (me_append (ma := stuck) (me_var 7 (pv 7)) (ma_cons me_str ma_nil) (pe_bm PySem.F.plainAttrs_list PySem.F.slot_list_append PySem.F.type_list_append mt_append (me_var 7 (pv 7)) (ma_cons me_str ma_nil))))
      (ms_cons (ms_if (mt_cu (cu_ne hr) (me_cb (cu_reprD hG hr) (by rfl) T.z_repr (by decide +kernel) (ma_cons (me_comp (t := (.name 10)) (own := [("_law_one", 10)]) (by decide) (pe_lc (own := [("_law_one", 10)]) (g := gT _ (.name 10)) rfl sc_law.nd (mi_still (me_add (me_var 8 (pv 8)) (me_var 9 (pv 9)))) (blkOk_by (own := [("_law_one", 10)]) (N := ["_law_script", "_law_spot", "_law_deal_here", "_law_numbers", "_law_more", "_law_gone", "_law_kept", "_law_other", "_law_told", "_law_named", "_law_one"]) (sc := defScope st_law) (by decide +kernel)) (fun _ _ _ _ _ => (pg_name (i := 10) sc_law.nd rfl (by first | exact Or.inl rfl | exact Or.inr rfl))) (fun _ _ _ _ _ => mts_nil) (fun _ _ _ _ _ => (me_of (k := k) (ownL_cons ⟨T.xc_InvalidCall, T.xn_InvalidCall_word⟩ (ownL_cons ⟨T.xc_InvalidVoice, T.xn_InvalidVoice_word⟩ ownL_nil)) (pv 10))))) ma_nil)) (me_cb (cu_reprD hG hr) (by rfl) T.z_repr (by decide +kernel) (ma_cons (me_lst (ma_cons (me_var 6 (pv 6)) (ma_cons (me_var 6 (pv 6)) (ma_cons (me_var 7 (pv 7)) (ma_cons (me_var 7 (pv 7)) ma_nil))))) ma_nil))) (ms_one (ms_ret me_bl)) ms_nil)
      (ms_cons (ms_if (mt_cu (cu_ne hr) (me_cb (cu_reprD hG hr) (by rfl) T.z_repr (by decide +kernel) (ma_cons (me_comp (t := (.name 10)) (own := [("_law_one", 10)]) (by decide) (pe_lc (own := [("_law_one", 10)]) (g := gT _ (.name 10)) rfl sc_law.nd (mi_still (me_add (me_var 3 (pv 3)) (me_var 4 (pv 4)))) (blkOk_by (own := [("_law_one", 10)]) (N := ["_law_script", "_law_spot", "_law_deal_here", "_law_numbers", "_law_more", "_law_gone", "_law_kept", "_law_other", "_law_told", "_law_named", "_law_one"]) (sc := defScope st_law) (by decide +kernel)) (fun _ _ _ _ _ => (pg_name (i := 10) sc_law.nd rfl (by first | exact Or.inl rfl | exact Or.inr rfl))) (fun _ _ _ _ _ => mts_nil) (fun _ _ _ _ _ => (me_of (k := k) (ownL_cons ⟨T.xc_InvalidText, T.xn_InvalidText_at⟩ (ownL_cons ⟨T.xc_InvalidRoad, T.xn_InvalidRoad_at⟩ (ownL_cons ⟨T.xc_InvalidGoing, T.xn_InvalidGoing_at⟩ (ownL_cons ⟨T.xc_InvalidHeard, T.xn_InvalidHeard_at⟩ (ownL_cons ⟨T.xc_Refused, T.xn_Refused_at⟩ (ownL_cons ⟨T.xc_NoCall, T.xn_NoCall_at⟩ ownL_nil)))))) (pv 10))))) ma_nil)) (me_cb (cu_reprD hG hr) (by rfl) T.z_repr (by decide +kernel) (ma_cons (me_add (me_mul (me_lst (ma_cons (me_var 6 (pv 6)) ma_nil)) me_int) (me_mul (me_lst (ma_cons (me_var 7 (pv 7)) ma_nil)) me_int)) ma_nil))) (ms_one (ms_ret me_bl)) ms_nil)
      (ms_cons (ms_if (mt_cu (cu_ne hr) (me_cb (cu_reprD hG hr) (by rfl) T.z_repr (by decide +kernel) (ma_cons (me_comp (t := (.name 10)) (own := [("_law_one", 10)]) (by decide) (pe_lc (own := [("_law_one", 10)]) (g := gT _ (.name 10)) rfl sc_law.nd (mi_still (me_var 5 (pv 5))) (blkOk_by (own := [("_law_one", 10)]) (N := ["_law_script", "_law_spot", "_law_deal_here", "_law_numbers", "_law_more", "_law_gone", "_law_kept", "_law_other", "_law_told", "_law_named", "_law_one"]) (sc := defScope st_law) (by decide +kernel)) (fun _ _ _ _ _ => (pg_name (i := 10) sc_law.nd rfl (by first | exact Or.inl rfl | exact Or.inr rfl))) (fun _ _ _ _ _ => mts_nil) (fun _ _ _ _ _ => (me_of (k := k) (ownL_cons ⟨T.xc_InvalidText, T.xn_InvalidText_at⟩ (ownL_cons ⟨T.xc_InvalidRoad, T.xn_InvalidRoad_at⟩ (ownL_cons ⟨T.xc_InvalidGoing, T.xn_InvalidGoing_at⟩ (ownL_cons ⟨T.xc_InvalidHeard, T.xn_InvalidHeard_at⟩ (ownL_cons ⟨T.xc_Refused, T.xn_Refused_at⟩ (ownL_cons ⟨T.xc_NoCall, T.xn_NoCall_at⟩ ownL_nil)))))) (pv 10))))) ma_nil)) (me_cb (cu_reprD hG hr) (by rfl) T.z_repr (by decide +kernel) (ma_cons (me_lst (ma_cons (me_var 6 (pv 6)) (ma_cons (me_var 7 (pv 7)) (ma_cons (me_var 7 (pv 7)) ma_nil)))) ma_nil))) (ms_one (ms_ret me_bl)) ms_nil)
      (ms_cons (ms_if (PW.pt (mw_or (mt_not (mt_val (me_call (ok_l_are_own T) (hr.mono (by decide)) (by rfl) T.g_l_are_own T.F_l_are_own.kp T.b_l_are_own .nil (fun _ _ => rl_nil) tk (ma_cons (me_var 8 (pv 8)) (ma_cons me_int ma_nil))))) (mw_or (mt_not (mt_val (me_call (ok_l_are_own T) (hr.mono (by decide)) (by rfl) T.g_l_are_own T.F_l_are_own.kp T.b_l_are_own .nil (fun _ _ => rl_nil) tk (ma_cons (me_add (me_var 9 (pv 9)) (me_var 4 (pv 4))) (ma_cons me_int ma_nil))))) (mw_or1 (mt_not (mt_val (me_call (ok_l_are_own T) (hr.mono (by decide)) (by rfl) T.g_l_are_own T.F_l_are_own.kp T.b_l_are_own .nil (fun _ _ => rl_nil) tk (ma_cons (me_var 3 (pv 3)) (ma_cons me_int ma_nil))))))))) (ms_one (ms_ret me_bl)) ms_nil)
      (ms_one (ms_if (PW.pt (mw_or (mt_not (mt_val (me_call (ok_l_are_own T) (hr.mono (by decide)) (by rfl) T.g_l_are_own T.F_l_are_own.kp T.b_l_are_own .nil (fun _ _ => rl_nil) tk (ma_cons (me_lst (ma_cons (me_idx (me_var 5 (pv 5)) me_int (fun _ _ => rfl)) (ma_cons (me_mkX0 (c := "InvalidFault") T.R_InvalidFault (by rfl) T.g_InvalidFault) (ma_cons (me_mkX0 (c := "InvalidCommand") T.R_InvalidCommand (by rfl) T.g_InvalidCommand) (ma_cons (me_idx (me_var 5 (pv 5)) me_int (fun _ _ => rfl)) ma_nil))))) (ma_cons me_int ma_nil))))) (mw_or1 (mt_not (mt_val (me_call (ok_l_are_own T) (hr.mono (by decide)) (by rfl) T.g_l_are_own T.F_l_are_own.kp T.b_l_are_own .nil (fun _ _ => rl_nil) tk (ma_cons (me_lst (ma_cons (me_idx (me_var 5 (pv 5)) me_int (fun _ _ => rfl)) ma_nil)) (ma_cons me_int ma_nil)))))))) (ms_one (ms_ret me_bl)) ms_nil)))))))))))))))
      (ms_one (ms_ret me_bl)))
end
end K01
namespace Dw
open PySem Mi
open L2 (atI atI_last ixN)
structure DlN (st : Sto) (D c : Nat) (ns : List Int) : Prop where
  m : ∃ m : Int, st[D]? = some (.lst [.ref c, .int m]) ∧ 0 ≤ m ∧ m < 2147483647
  hc : st[c]? = some (.lst (ns.map .int))
  ne : D ≠ c
  len : ns.length ≤ 64
def Dl (st : Sto) (D c : Nat) : Prop := ∃ ns, DlN st D c ns
def Fr (D c : Nat) (st st' : Sto) : Prop := st'.length = st.length ∧ ∀ i, i ≠ D → i ≠ c → st'[i]? = st[i]?
theorem Fr.refl {D c : Nat} {st : Sto} : Fr D c st st := ⟨rfl, fun _ _ _ => rfl⟩
theorem Fr.trans {D c : Nat} {st s1 s2 : Sto} (a : Fr D c st s1) (b : Fr D c s1 s2) : Fr D c st s2 := ⟨b.1.trans a.1, fun i h1 h2 => (b.2 i h1 h2).trans (a.2 i h1 h2)⟩
theorem at_lt {st : Sto} {i : Nat} {o : SO} (h : st[i]? = some o) : i < st.length := (List.getElem?_eq_some_iff.mp h).1
theorem DlN.put {st : Sto} {D c : Nat} {ns ns' : List Int} (h : DlN st D c ns) (hl : ns'.length ≤ 64) : DlN (st.set c (.lst (ns'.map .int))) D c ns' ∧ Fr D c st (st.set c (.lst (ns'.map .int))) := by
  obtain ⟨⟨m, h1, h2⟩, h3, h4, h5⟩ := h
  refine ⟨⟨⟨m, ?_, h2⟩, ?_, h4, hl⟩, by simp, fun i hi1 hi2 => List.getElem?_set_ne (Ne.symm hi2)⟩
  · rw [List.getElem?_set_ne (Ne.symm h4)]
    exact h1
  · rw [List.getElem?_set_self (at_lt h3)]
theorem cells_ok {st : Sto} {D c : Nat} {ns : List Int} {env : Mi.Env} (h : DlN st D c ns) (he : env[0]? = some (some (.ref D))) : bin idxV (var 0) (ret (.int 0)) env st = some (.ok (.ref c), st) := by
  obtain ⟨⟨m, h1, _⟩, _⟩ := h
  refine bin_ok (x := .ref D) (y := .int 0) ?_ rfl ?_
  · unfold var
    rw [he]
  · show (match seqOf st (.ref D) with | some xs => atI xs 0 | none => none) = _
    have e : seqOf st (.ref D) = some [.ref c, .int m] := by
      show (match st[D]? with | some (.lst xs) => some xs | _ => none) = _
      rw [h1]
    rw [e]
    rfl
theorem full_ok {st : Sto} {D c : Nat} {ns : List Int} {env : Mi.Env} (h : DlN st D c ns) (he : env[0]? = some (some (.ref D))) : asB (bin neV (bin idxV (var 0) (ret (.int 0))) (mkLst nilM)) env st = some (.ok (!ns.isEmpty), st) :=
  asB_ok (bin_ok (cells_ok h he) (mkLst_ok nilM_ok (by decide)) (neV_nil h.hc))
theorem lstOf_c {st : Sto} {D c : Nat} {ns : List Int} (h : DlN st D c ns) : lstOf st (.ref c) = some (ns.map .int) := by
  show (match st[c]? with | some (.lst xs) => some xs | _ => none) = _
  rw [h.hc]
theorem last_ok {st : Sto} {D c : Nat} {ns : List Int} {z : Int} {env : Mi.Env} (h : DlN st D c (ns ++ [z])) (he : env[0]? = some (some (.ref D))) :
    bin idxV (bin idxV (var 0) (ret (.int 0))) (un (fun _ a => (intOf a).map fun i => .int (-i)) (ret (.int 1))) env st = some (.ok (.int z), st) := by
  refine bin_ok (cells_ok h he) (un_ok (x := .int 1) rfl rfl) ?_
  show (match seqOf st (.ref c) with | some xs => atI xs (-1) | none => none) = _
  have e : seqOf st (.ref c) = some ((ns ++ [z]).map .int) := lstOf_c h
  rw [e, List.map_append]
  exact atI_last _ _
theorem pop_ok {st : Sto} {D c : Nat} {ns : List Int} {z : Int} {env : Mi.Env} (h : DlN st D c (ns ++ [z])) (he : env[0]? = some (some (.ref D))) :
    lm popV (bin idxV (var 0) (ret (.int 0))) nilM env st = some (.ok (.int z), st.set c (.lst (ns.map .int))) := by
  refine lm_ok (cells_ok h he) (lstOf_c h) nilM_ok ?_
  show (match st[c]? with | some (.lst xs) => (match xs[xs.length - 1]? with | some y => some (y, st.set c (.lst xs.dropLast)) | none => none) | _ => none) = _
  rw [h.hc]
  simp
theorem sizes {ns : List Int} {z : Int} (h : (ns ++ [z]).length ≤ 64) : ns.length ≤ 64 := by
  rw [List.length_append] at h
  omega
theorem zeros_ok {D c : Nat} {env : Mi.Env} (he : env[0]? = some (some (.ref D))) : ∀ (n : Nat) (ns : List Int) (st : Sto), DlN st D c ns → ns.length < n →
    ∃ ns' st', sWhile (andB (asB (bin neV (bin idxV (var 0) (ret (.int 0))) (mkLst nilM))) (asB (bin eqV (bin idxV (bin idxV (var 0) (ret (.int 0))) (un (fun _ a => (intOf a).map fun i => .int (-i)) (ret (.int 1)))) (ret (.int 0))))) (sExpr (lm popV (bin idxV (var 0) (ret (.int 0))) nilM)) n env st = some (.next, env, st') ∧ DlN st' D c ns' ∧ Fr D c st st'
  | 0, ns, st, h, hl => absurd hl (Nat.not_lt_zero _)
  | n + 1, ns, st, h, hl => by
    rcases List.eq_nil_or_concat ns with e | ⟨init, z, e⟩
    · subst e
      refine ⟨[], st, ?_, h, Fr.refl⟩
      unfold sWhile
      rw [sBnd_ok (andB_ok (full_ok h he) (c := false) (s2 := st) (fun z => by cases z) fun _ => ⟨rfl, rfl⟩)]
      rfl
    · rw [List.concat_eq_append] at e
      subst e
      have full : asB (bin neV (bin idxV (var 0) (ret (.int 0))) (mkLst nilM)) env st = some (.ok true, st) := by
        rw [full_ok h he]
        cases init <;> rfl
      have test : andB (asB (bin neV (bin idxV (var 0) (ret (.int 0))) (mkLst nilM))) (asB (bin eqV (bin idxV (bin idxV (var 0) (ret (.int 0))) (un (fun _ a => (intOf a).map fun i => .int (-i)) (ret (.int 1)))) (ret (.int 0)))) env st = some (.ok (z == 0), st) :=
        andB_ok full (fun _ => asB_ok (bin_ok (last_ok h he) rfl (eqV_int st z 0))) fun z => by cases z
      unfold sWhile
      rw [sBnd_ok test]
      cases hz : (z == 0) with
      | false => exact ⟨_, st, rfl, h, Fr.refl⟩
      | true =>
        obtain ⟨h1, f1⟩ := h.put (ns' := init) (sizes h.len)
        obtain ⟨ns', st', e1, h2, f2⟩ := zeros_ok he n init _ h1 (by rw [List.length_append] at hl; simp at hl; omega)
        refine ⟨ns', st', ?_, h2, f1.trans f2⟩
        rw [if_pos rfl, sExpr_ok (pop_ok h he)]
        exact e1
theorem cutL_map {α β : Type} (f : α → β) (xs : List α) (lo hi : Option Int) : cutL (xs.map f) lo hi = (cutL xs lo hi).map f := by
  unfold cutL
  rw [List.length_map, ← List.map_drop, ← List.map_take]
theorem cutL_len {α : Type} (xs : List α) (lo hi : Option Int) : (cutL xs lo hi).length ≤ xs.length := by
  unfold cutL
  rw [List.length_take, List.length_drop]
  omega
def absF : Val → Val
  | .int i => .int (if i < 0 then -i else i)
  | v => v
def isBig : Val → Bool
  | .int i => decide ((10 : Int) ^ (18 : Int).toNat ≤ i)
  | _ => false
theorem abs_ints (ls : List Int) : (ls.map Val.int).map absF = (ls.map fun i => if i < 0 then -i else i).map Val.int := by
  rw [List.map_map, List.map_map]
  rfl
theorem big_ints (ls : List Int) : (ls.map Val.int).filter isBig = (ls.filter fun i => decide ((10 : Int) ^ (18 : Int).toNat ≤ i)).map Val.int := by
  rw [List.filter_map]
  rfl
def FrX (D c : Nat) (st st' : Sto) : Prop := st.length ≤ st'.length ∧ ∀ i, i < st.length → i ≠ D → i ≠ c → st'[i]? = st[i]?
theorem FrX.refl {D c : Nat} {st : Sto} : FrX D c st st := ⟨Nat.le_refl _, fun _ _ _ _ => rfl⟩
theorem FrX.trans {D c : Nat} {st s1 s2 : Sto} (a : FrX D c st s1) (b : FrX D c s1 s2) : FrX D c st s2 := ⟨Nat.le_trans a.1 b.1, fun i h h1 h2 => (b.2 i (Nat.lt_of_lt_of_le h a.1) h1 h2).trans (a.2 i h h1 h2)⟩
theorem DlN.app {st : Sto} {D c : Nat} {ns : List Int} {g : Sto} (h : DlN st D c ns) : DlN (st ++ g) D c ns := by
  obtain ⟨m, m1, m2⟩ := h.m
  exact ⟨⟨m, by rw [List.getElem?_append_left (at_lt m1)]; exact m1, m2⟩, by rw [List.getElem?_append_left (at_lt h.hc)]; exact h.hc, h.ne, h.len⟩
theorem Dl.app {st : Sto} {D c : Nat} {g : Sto} (h : Dl st D c) : Dl (st ++ g) D c := by
  obtain ⟨ns, h⟩ := h
  exact ⟨ns, h.app⟩
theorem Dl.lt {st : Sto} {D c : Nat} (h : Dl st D c) : D < st.length ∧ c < st.length := by
  obtain ⟨ns, h⟩ := h
  obtain ⟨m, m1, m2⟩ := h.m
  exact ⟨at_lt m1, at_lt h.hc⟩
end Dw
namespace Pg
open PySem Mi
open L2 (atI atI_last ixN)
/-- a name that a call may have -/
structure Nm (t : Str) : Prop where
  name : c_is_name [.str t] [] = some (.ok (.bl true), [])
  len : t.length ≤ 4
  sp : 32 ∉ TL.tl t
  nl : 10 ∉ TL.tl t
  ok : PyData.strOk t = true
structure One where
  t : Str
  d : Int
  l : Int
  m : Str
  e : Int
  j : Int
def manners : List Str := ["wait", "drop", "cut"]
structure One.Ok (o : One) : Prop where
  t : Nm o.t
  d : 1 ≤ o.d ∧ o.d ≤ 4
  l : 1 ≤ o.l ∧ o.l ≤ 3
  m : o.m ∈ manners
  e : 1 ≤ o.e ∧ o.e ≤ 4
  j : 0 ≤ o.j ∧ o.j ≤ 3
def callV (o : One) : Val := .ins "Call" ["name", "distance", "length", "busy", "least", "joins"] [.str o.t, .int o.d, .int o.l, .str o.m, .int o.e, .int o.j]
def tx (i : Int) : Str := (toString i : String)
end Pg
namespace Pg
open PySem Mi
open L2 (atI atI_last ixN)
def maxD (os : List One) : Int := (maxL (os.map (·.d))).getD 0
def voiceV (os : List One) : Val := .ins "Voice" ["calls", "names", "reach"] [.tup (os.map callV), .tup (os.map fun o => .str o.t), .int (maxD os)]
def Hands (v : Val) (os : List One) : Prop := v = .lst (os.map callV) ∨ v = .tup (os.map callV)
theorem Hands.seq {v : Val} {os : List One} {st : Sto} (h : Hands v os) : seqOf st v = some (os.map callV) := by rcases h with rfl | rfl <;> rfl
end Pg
namespace Pg
open PySem Mi
open L2 (atI atI_last ixN)
@[simp] theorem x_sTryN {own : Str → Option Bool} {b suite : S} {env : Mi.Env} {st : Sto} {v : Val} {e : Mi.Env} {s : Sto} (h : b env st = some (.ret v, e, s)) : sTryN own b suite env st = some (.ret v, e, s) := by
  unfold sTryN
  rw [h]
end Pg
namespace Pg
open PySem Mi
open L2 (atI atI_last ixN)
/-! ### ticks, plainly -/
structure Turn where
  d : Int
  op : Bool
  left : List Nat
  told : Bool
structure Sp where
  turn : Int
  num : Nat
  ticks : Int
  jn : Bool
structure Stt where
  turns : List Turn
  sp : Option Sp
  wait : List (Nat × Nat)
structure Co where
  turns : List Turn
  sp : Option Sp
  wait : List (Nat × Nat)
  met : List Str
  now : Int
def turnL (t : Turn) : List Val := [.int t.d, .bl t.op, .tup (t.left.map fun n : Nat => Val.int (n : Int)), .bl t.told]
def spV : Option Sp → Val
  | none => .non
  | some s => .tup [.int s.turn, .int (s.num : Int), .int s.ticks, .bl s.jn]
def pairV (p : Nat × Nat) : Val := .tup [.int (p.1 : Int), .int (p.2 : Int)]
def sttV (s : Stt) : Val := .tup [.tup (s.turns.map fun t => .tup (turnL t)), spV s.sp, .tup (s.wait.map pairV)]
def Turn.noLeft (t : Turn) : Turn := { t with left := [] }
def Turn.less (n : Nat) (t : Turn) : Turn := { t with left := t.left.filter fun x => x != n }
def Turn.tell (t : Turn) : Turn := { t with told := true }
def Turn.near (t : Turn) : Turn := { t with d := t.d - 1 }
def joinsAt (ts : List Turn) (i : Nat) (o : One) : Bool := match ts[i + 1]?, ts[i]? with
  | some u, some t => !u.op && decide (u.d - t.d ≤ o.j)
  | _, _ => false
def Co.begin (c : Co) (i n : Nat) (o : One) : Co :=
  { turns := if joinsAt c.turns i o then c.turns.modify (i + 1) Turn.noLeft else c.turns,
    sp := some ⟨i, n, o.l + (if joinsAt c.turns i o then 1 else 0), joinsAt c.turns i o⟩,
    wait := if joinsAt c.turns i o then c.wait.filter fun p => p.1 != i + 1 else c.wait,
    met := if (c.turns.take i).all Turn.told then c.met else c.met ++ [("ahead" : Str)],
    now := c.now }
def Co.due (c : Co) (i n : Nat) (o : One) : Co := match c.sp with
  | none => c.begin i n o
  | some _ => if o.m = "wait" then { c with wait := c.wait ++ [(i, n)] } else if o.m = "cut" then Co.begin { c with met := c.met ++ [("cut" : Str)] } i n o else c
/-- one number of the turn i -/
def due1 (os : List One) (i : Nat) (c : Co) (n : Nat) : Co := match c.turns[i]?, os[n]? with
  | some t, some o => if n ∈ t.left ∧ t.d ≤ o.d then Co.due { c with turns := c.turns.modify i (Turn.less n) } i n o else c
  | _, _ => c
def dueTurn (os : List One) (c : Co) (i : Nat) : Co := match c.turns[i]? with
  | some t => t.left.foldl (due1 os i) c
  | none => c
def allDue (os : List One) (c : Co) : Co := (List.range c.turns.length).foldl (dueTurn os) c
/-- turns from lo on, n of them, are told -/
def tellFrom (ts : List Turn) (lo n : Nat) : List Turn := (List.range n).foldl (fun ts k => ts.modify (lo + k) Turn.tell) ts
def Co.speak (c : Co) : Co × Option (Int × Nat) := match c.sp with
  | none => (c, none)
  | some s =>
    let c1 : Co := { c with sp := if 1 < s.ticks then some { s with ticks := s.ticks - 1 } else none }
    if s.ticks = 1 then
      let k : Int := if s.jn then 2 else 1
      ({ c1 with now := k, turns := tellFrom c.turns (max s.turn 0).toNat (s.turn + k - max s.turn 0).toNat }, some (s.turn, s.num))
    else (c1, some (s.turn, s.num))
def tellsNearest (c : Co) : Bool := match c.sp with
  | none => false
  | some s => s.turn == 0 || (s.turn == -1 && s.jn)
def Co.step (c : Co) : Co × Int :=
  let ts := c.turns.map Turn.near
  match ts with
  | [] => ({ c with turns := [] }, 0)
  | t :: rest => if 0 < t.d then ({ c with turns := ts }, 0) else
    let m1 := if tellsNearest c then c.met ++ [("behind" : Str)] else c.met
    let m2 := if t.told then m1 else m1 ++ [("untold" : Str)]
    ({ turns := rest, sp := c.sp.map fun s => { s with turn := max (if s.jn then -2 else -1) (s.turn - 1) },
       wait := (c.wait.filter fun p => 0 < p.1).map fun p => (p.1 - 1, p.2), met := m2, now := c.now }, 1)
def Stt.co (s : Stt) : Co := ⟨s.turns, s.sp, s.wait, [], 0⟩
def Co.stt (c : Co) : Stt := ⟨c.turns, c.sp, c.wait⟩
/-- the first part of a tick -/
def Co.first (os : List One) (c : Co) : Co := match c.sp, c.wait with
  | none, (i, n) :: w => match os[n]? with
    | some o => Co.begin { c with wait := w } i n o
    | none => c
  | _, _ => c
def crowd (c : Co) : Co := if 1 < c.wait.length then { c with met := c.met ++ [("crowd" : Str)] } else c
def tick (os : List One) (s : Stt) : Co × Option (Int × Nat) := (crowd (allDue os (s.co.first os))).speak
/-! ### what is well formed -/
structure Co.Ok (os : List One) (c : Co) : Prop where
  left : ∀ t ∈ c.turns, ∀ n ∈ t.left, n < os.length
  wait : ∀ p ∈ c.wait, p.1 < c.turns.length ∧ p.2 < os.length
  sp : ∀ s, c.sp = some s → s.num < os.length ∧ 1 ≤ s.ticks ∧ s.turn + (if s.jn then 2 else 1) ≤ c.turns.length ∧ -2 ≤ s.turn
/-! ### a course in the store -/
structure Lay where
  ti : Nat
  wi : Nat
  mi : Nat
  us : List Nat
abbrev coK : List Str := ["speaker", "turns", "speech", "waiting", "met", "told_now"]
abbrev coX (os : List One) (c : Co) (a : Lay) : List Val := [voiceV os, .ref a.ti, spV c.sp, .ref a.wi, .ref a.mi, .int c.now]
structure CAt (os : List One) (st : Sto) (i : Nat) (c : Co) (a : Lay) : Prop where
  ins : st[i]? = some (.ins "Course" coK (coX os c a))
  tur : st[a.ti]? = some (.lst (a.us.map .ref))
  len : a.us.length = c.turns.length
  each : ∀ (k : Nat) u t, a.us[k]? = some u → c.turns[k]? = some t → st[u]? = some (.lst (turnL t))
  wai : st[a.wi]? = some (.lst (c.wait.map pairV))
  met : st[a.mi]? = some (.lst (c.met.map .str))
  n1 : a.ti ≠ a.wi
  n2 : a.ti ≠ a.mi
  n3 : a.wi ≠ a.mi
  n4 : ∀ u ∈ a.us, u ≠ a.ti ∧ u ≠ a.wi ∧ u ≠ a.mi
  nd : a.us.Nodup
  lo : i ≤ a.ti ∧ i ≤ a.wi ∧ i ≤ a.mi ∧ ∀ u ∈ a.us, i ≤ u
/-- what lies below stays, nothing goes -/
def Fb (b : Nat) (st st' : Sto) : Prop := st.length ≤ st'.length ∧ ∀ j, j < b → st'[j]? = st[j]?
theorem Fb.refl {b : Nat} {st : Sto} : Fb b st st := ⟨Nat.le_refl _, fun _ _ => rfl⟩
theorem Fb.trans {b : Nat} {st s1 s2 : Sto} (h : Fb b st s1) (g : Fb b s1 s2) : Fb b st s2 := ⟨Nat.le_trans h.1 g.1, fun j hj => (g.2 j hj).trans (h.2 j hj)⟩
theorem Fb.set {b i : Nat} {st : Sto} {o : SO} (h : b ≤ i) : Fb b st (st.set i o) := ⟨by simp, fun j hj => List.getElem?_set_ne (by omega)⟩
theorem Fb.app {b : Nat} {st g : Sto} (h : b ≤ st.length) : Fb b st (st ++ g) := ⟨by simp, fun j hj => List.getElem?_append_left (by omega)⟩
theorem at_lt {st : Sto} {i : Nat} {o : SO} (h : st[i]? = some o) : i < st.length := (List.getElem?_eq_some_iff.mp h).1
theorem ne_io {st : Sto} {i j : Nat} {c : Str} {ks : List Str} {xs ys : List Val} (h : st[i]? = some (.ins c ks xs)) (g : st[j]? = some (.lst ys)) : i ≠ j := fun e => by
  subst e
  rw [h] at g
  cases g
section
variable {os : List One} {st : Sto} {i : Nat} {c : Co} {a : Lay}
theorem CAt.it (h : CAt os st i c a) : i ≠ a.ti := ne_io h.ins h.tur
/-- things laid behind -/
theorem CAt.app (h : CAt os st i c a) (g : Sto) : CAt os (st ++ g) i c a := by
  have up : ∀ {j : Nat} {o : SO}, st[j]? = some o → (st ++ g)[j]? = some o := fun {j o} e => by
    rw [List.getElem?_append_left (at_lt e)]
    exact e
  exact ⟨up h.ins, up h.tur, h.len, fun k u t hu ht => up (h.each k u t hu ht), up h.wai, up h.met, h.n1, h.n2, h.n3, h.n4, h.nd, h.lo⟩
end
end Pg
namespace Pg
open PySem Mi
open L2 (atI atI_last ixN)
/-! ### a course, seen as it stands -/
section
variable {os : List One} {st : Sto} {i : Nat} {c : Co} {a : Lay}
@[simp] theorem at_t0 {t : Turn} : atI (turnL t) 0 = some (.int t.d) := rfl
@[simp] theorem at_t1 {t : Turn} : atI (turnL t) 1 = some (.bl t.op) := rfl
@[simp] theorem at_t2 {t : Turn} : atI (turnL t) 2 = some (.tup (t.left.map fun n : Nat => Val.int (n : Int))) := rfl
@[simp] theorem at_t3 {t : Turn} : atI (turnL t) 3 = some (.bl t.told) := rfl
@[simp] theorem at4_0 {x y z w : Val} : atI [x, y, z, w] 0 = some x := rfl
@[simp] theorem at4_1 {x y z w : Val} : atI [x, y, z, w] 1 = some y := rfl
@[simp] theorem at4_2 {x y z w : Val} : atI [x, y, z, w] 2 = some z := rfl
@[simp] theorem at4_3 {x y z w : Val} : atI [x, y, z, w] 3 = some w := rfl
@[simp] theorem at2_0 {x y : Val} : atI [x, y] 0 = some x := rfl
@[simp] theorem at2_1 {x y : Val} : atI [x, y] 1 = some y := rfl
@[simp] theorem idx_t0 {st : Sto} {t : Turn} : idxV st (.lst (turnL t)) (.int 0) = some (.int t.d) := rfl
@[simp] theorem idx_t1 {st : Sto} {t : Turn} : idxV st (.lst (turnL t)) (.int 1) = some (.bl t.op) := rfl
@[simp] theorem idx_t2 {st : Sto} {t : Turn} : idxV st (.lst (turnL t)) (.int 2) = some (.tup (t.left.map fun n : Nat => Val.int (n : Int))) := rfl
@[simp] theorem idx_t3 {st : Sto} {t : Turn} : idxV st (.lst (turnL t)) (.int 3) = some (.bl t.told) := rfl
end
end Pg
namespace Pg
open PySem Mi
open L2 (atI atI_last ixN)
/-! ### a call begins, becomes due -/
def Co.mu (c : Co) : Nat := c.wait.length + (c.turns.map fun t => t.left.length).sum
/-- not too much -/
structure Co.Sz (c : Co) (n : Nat) : Prop where
  met : c.met.length + 2 * c.mu ≤ n
  turns : c.turns.length ≤ 15000000
end Pg
namespace Pg
open PySem Mi
open L2 (atI atI_last ixN)
end Pg
namespace Pg
open PySem Mi
open L2 (atI atI_last ixN)
@[simp] theorem eqV_strs {st : Sto} {x y : Str} : eqV st (.str x) (.str y) = some (.bl (x == y)) := rfl
@[simp] theorem neV_strs {st : Sto} {x y : Str} : neV st (.str x) (.str y) = some (.bl (!(x == y))) := rfl
/-! ### what stays true -/
section
variable {os : List One} {c : Co}
@[simp] theorem begin_len {k n : Nat} {o : One} : (c.begin k n o).turns.length = c.turns.length := by
  unfold Co.begin
  dsimp only
  split <;> simp
@[simp] theorem due_len {k n : Nat} {o : One} : (c.due k n o).turns.length = c.turns.length := by
  unfold Co.due
  split
  · simp
  · split
    · rfl
    · split
      · simp
      · rfl
@[simp] theorem due1_len {i n : Nat} : (due1 os i c n).turns.length = c.turns.length := by
  unfold due1
  split
  · split
    · simp
    · rfl
  · rfl
theorem fold1_len {i : Nat} : ∀ {l : List Nat} {c : Co}, (l.foldl (due1 os i) c).turns.length = c.turns.length
  | [], c => rfl
  | n :: l, c => by
    rw [List.foldl_cons, fold1_len, due1_len]
@[simp] theorem dueTurn_len {i : Nat} : (dueTurn os c i).turns.length = c.turns.length := by
  unfold dueTurn
  split
  · exact fold1_len
  · rfl
theorem foldT_len : ∀ {l : List Nat} {c : Co}, (l.foldl (dueTurn os) c).turns.length = c.turns.length
  | [], c => rfl
  | n :: l, c => by
    rw [List.foldl_cons, foldT_len, dueTurn_len]
@[simp] theorem allDue_len : (allDue os c).turns.length = c.turns.length := foldT_len
/-! sizes -/
theorem Co.Sz.mono {m m' : Nat} (h : c.Sz m) (e : m ≤ m') : c.Sz m' := ⟨Nat.le_trans h.met e, h.turns⟩
end
end Pg
namespace Pg
open PySem Mi
open L2 (atI atI_last ixN)
/-! ### all that is due -/
end Pg
namespace Pg
open PySem Mi
open L2 (atI atI_last ixN)
/-! ### speaking, stepping -/
end Pg
namespace Pg
open PySem Mi
open L2 (atI atI_last ixN)
end Pg
namespace Pg
open PySem Mi
open L2 (atI atI_last ixN)
end Pg
namespace Pg
open PySem Mi
open L2 (atI atI_last ixN)
/-! ### a tick -/
end Pg
namespace Pg
open PySem Mi
open L2 (atI atI_last ixN)
/-! ### sets, sorted -/
def addD {α : Type} [DecidableEq α] (ks : List α) (k : α) : List α := if k ∈ ks then ks else ks ++ [k]
def dedA {α : Type} [DecidableEq α] (ks : List α) : List α → List α
  | [] => ks
  | k :: r => dedA (addD ks k) r
/-! ### journeys, plainly -/
structure Jn where
  now : Stt
  gone : Int
  spoken : Int
  heard : List (Option (Int × Str))
  told : List Int
  met : List (Nat × Str)
def nameOf (os : List One) (n : Nat) : Str := match os[n]? with
  | some o => o.t
  | none => ""
def spokenNext (gone spoken : Int) : Option (Int × Nat) → Int
  | some (t, _) => if 0 ≤ t then gone + t else spoken
  | none => spoken
def faultsOf (ms : List Str) : List Str := sortS (dedA [] ms)
def Jn.go (os : List One) (j : Jn) (isStep : Bool) : Jn :=
  let ct := tick os j.now
  let sp := spokenNext j.gone j.spoken ct.2
  let cs : Co × Int := if isStep then ct.1.step else (ct.1, 0)
  { now := cs.1.stt, gone := j.gone + cs.2, spoken := sp, heard := j.heard ++ [ct.2.map fun p => (sp, nameOf os p.2)],
    told := j.told ++ (List.range ct.1.now.toNat).map fun (k : Nat) => sp + (k : Int), met := j.met ++ (faultsOf cs.1.met).map fun f => (j.heard.length, f) }
def heardV : Option (Int × Str) → Val
  | none => .non
  | some p => .tup [.int p.1, .str p.2]
def metV (p : Nat × Str) : Val := .tup [.int (p.1 : Int), .str p.2]
abbrev jK : List Str := ["speaker", "now", "gone_by", "turn_spoken", "heard_words", "told_turns", "met_faults"]
abbrev jX (os : List One) (b : Nat) (s : Stt) (g p : Int) : List Val := [voiceV os, sttV s, .int g, .int p, .ref (b + 1), .ref (b + 2), .ref (b + 3)]
structure JAt (os : List One) (st : Sto) (b : Nat) (j : Jn) : Prop where
  ins : st[b]? = some (.ins "Journey" jK (jX os b j.now j.gone j.spoken))
  hw : st[b + 1]? = some (.lst (j.heard.map heardV))
  tw : st[b + 2]? = some (.lst (j.told.map .int))
  mw : st[b + 3]? = some (.lst (j.met.map metV))
section
variable {os : List One} {st : Sto} {b : Nat} {j : Jn}
theorem JAt.fb (h : JAt os st b j) {k : Nat} {st' : Sto} (hk : b + 3 < k) (f : Fb k st st') : JAt os st' b j :=
  ⟨(f.2 b (by omega)).trans h.ins, (f.2 _ (by omega)).trans h.hw, (f.2 _ (by omega)).trans h.tw, (f.2 _ (by omega)).trans h.mw⟩
theorem JAt.lt (h : JAt os st b j) : b + 3 < st.length := at_lt h.mw
end
end Pg
namespace Pg
open PySem Mi
open L2 (atI atI_last ixN)
/-! ### a tick of a journey -/
/-- how much there is of a state -/
structure Stt.Fine (os : List One) (s : Stt) : Prop where
  wf : s.co.Ok os
  mu : s.co.mu ≤ 1000
  turns : s.turns.length ≤ 1000
end Pg
namespace Pg
open PySem Mi
open L2 (atI atI_last ixN)
end Pg
namespace Pg
open PySem Mi
open L2 (atI atI_last ixN)
/-! ### the beginning of a road -/
end Pg
namespace Pg
open PySem Mi
open L2 (atI atI_last ixN)
/-! ### a play -/
end Pg
namespace Pg
open PySem Mi
open L2 (atI atI_last ixN)
/-- a list or a tuple that is read alone -/
def Sq (v : Val) (xs : List Val) : Prop := v = .lst xs ∨ v = .tup xs
theorem Sq.seq {v : Val} {xs : List Val} (h : Sq v xs) : seqStill v = some xs := by rcases h with rfl | rfl <;> rfl
theorem Sq.is {v : Val} {xs : List Val} (h : Sq v xs) {st : Sto} : c_is_sequence [v] st = some (.ok (.bl true), st) := by rcases h with rfl | rfl <;> rfl
/-! ### all of it -/
structure Jn.In (os : List One) (j : Jn) (n : Nat) : Prop where
  fine : j.now.Fine os
  heard : j.heard.length = n
  told : j.told.length ≤ 2 * n
  met : j.met.length ≤ 2003 * n
end Pg
namespace Pg
open PySem Mi
open L2 (atI atI_last ixN)
/-! ### what is told is data -/
end Pg
namespace LwA
open PySem Mi Pg Dw
open L2 (atI atI_last ixN)
theorem draw_ok {st : Sto} {D c : Nat} {k : Int} (h : Dl st D c) (h0 : 0 < k) (h1 : k < 1073741824) : ∃ r st', c_l_draw [.ref D, .int k] st = some (.ok (.int r), st') ∧ 0 ≤ r ∧ r < k ∧ Dl st' D c ∧ Fr D c st st' := by
  obtain ⟨ns, h⟩ := h
  have he : (env0 3 [.ref D, .int k])[0]? = some (some (.ref D)) := rfl
  obtain ⟨ns', s1, e1, h2, f1⟩ := zeros_ok (env := env0 3 [.ref D, .int k]) he 100 ns st h (by have := h.len; omega)
  rcases List.eq_nil_or_concat ns' with e | ⟨init, z, e⟩
  · -- no cell is left
    subst e
    obtain ⟨m, g1, g2, g3⟩ := h2.m
    have hm : ∀ {env : Mi.Env} {st : Sto} {m : Int}, env[0]? = some (some (.ref D)) → st[D]? = some (.lst [.ref c, .int m]) → bin idxV (var 0) (ret (.int 1)) env st = some (.ok (.int m), st) := fun {env st m} he hd => by
      refine bin_ok (x := .ref D) (y := .int 1) ?_ rfl ?_
      · unfold var
        rw [he]
      · show (match seqOf st (.ref D) with | some xs => atI xs 1 | none => none) = _
        have e : seqOf st (.ref D) = some [.ref c, .int m] := by
          show (match st[D]? with | some (.lst xs) => some xs | _ => none) = _
          rw [hd]
        rw [e]
        rfl
    refine ⟨(m * 39373 + 23) % 2147483647 / 16 % k, s1.set D (.lst [.ref c, .int ((m * 39373 + 23) % 2147483647)]), ?_, Int.emod_nonneg _ (by omega), Int.emod_lt_of_pos _ h0, ?_, ?_⟩
    · refine callS_ret (e1 := env0 3 [.ref D, .int k]) ?_
      unfold s_l_draw
      rw [sSeq_next e1, sSeq_next (e1 := env0 3 [.ref D, .int k]) (s1 := s1) (by rw [sIf_false (full_ok h2 he)]; rfl)]
      have small : small64 m = true := by
        unfold small64
        simp
        omega
      have step : sSub (bin modV (app intV (consM (bin addV (bin mulV (bin idxV (var 0) (ret (.int 1))) (ret (.int 39373))) (ret (.int 23))) nilM)) (ret (.int 2147483647))) (var 0) (ret (.int 1)) (env0 3 [.ref D, .int k]) s1 = some (.next, env0 3 [.ref D, .int k], s1.set D (.lst [.ref c, .int ((m * 39373 + 23) % 2147483647)])) := by
        unfold sSub
        have e2 : bin mulV (bin idxV (var 0) (ret (.int 1))) (ret (.int 39373)) (env0 3 [.ref D, .int k]) s1 = some (.ok (.int (m * 39373)), s1) := bin_ok (hm he g1) rfl (by
          show (if (small64 m || small64 39373) = true then some (Val.int (m * 39373)) else none) = _
          rw [small]
          rfl)
        rw [sBnd_ok (bin_ok (app_ok (consM_ok (bin_ok e2 rfl rfl) nilM_ok) rfl) rfl rfl)]
        rw [sBnd_ok (show (var 0) (env0 3 [.ref D, .int k]) s1 = some (.ok (.ref D), s1) from rfl), sBnd_ok (show (ret (Val.int 1)) (env0 3 [.ref D, .int k]) s1 = some (.ok (.int 1), s1) from rfl)]
        dsimp only
        rw [g1]
        rfl
      rw [sSeq_next step]
      refine sRet_ok (bin_ok (app_ok (consM_ok (bin_ok (hm he (List.getElem?_set_self (Dw.at_lt g1))) rfl (z := .int ((m * 39373 + 23) % 2147483647 / 16)) rfl) nilM_ok) rfl) rfl ?_)
      show (if 0 < k then some (Val.int ((m * 39373 + 23) % 2147483647 / 16 % k)) else none) = _
      rw [if_pos h0]
    · refine ⟨[], ⟨_, List.getElem?_set_self (Dw.at_lt g1), Int.emod_nonneg _ (by decide), Int.emod_lt_of_pos _ (by decide)⟩, ?_, h2.ne, Nat.zero_le _⟩
      rw [List.getElem?_set_ne h2.ne]
      exact h2.hc
    · refine f1.trans ⟨by simp, fun i h1 h2 => List.getElem?_set_ne (Ne.symm h1)⟩
  · rw [List.concat_eq_append] at e
    subst e
    obtain ⟨h3, f2⟩ := h2.put (ns' := init) (sizes h2.len)
    obtain ⟨h4, f3⟩ := h3.put (ns' := init ++ [z / k]) (by have := h2.len; simpa using this)
    refine ⟨z % k, _, ?_, Int.emod_nonneg _ (by omega), Int.emod_lt_of_pos _ h0, ⟨_, h4⟩, (f1.trans f2).trans f3⟩
    have full : asB (bin neV (bin idxV (var 0) (ret (.int 0))) (mkLst nilM)) (env0 3 [.ref D, .int k]) s1 = some (.ok true, s1) := by
      rw [full_ok h2 he]
      cases init <;> rfl
    refine callS_ret (e1 := [some (.ref D), some (.int k), some (.int z)]) ?_
    unfold s_l_draw
    rw [sSeq_next e1]
    refine sSeq_ret ?_
    rw [sIf_true full, sSeq_next (sSet_ok (pop_ok h2 he))]
    have he2 : ((env0 3 [.ref D, .int k]).set 2 (some (.int z)))[0]? = some (some (.ref D)) := rfl
    have app2 : lm appendV (bin idxV (var 0) (ret (.int 0))) (consM (bin fdivV (var 2) (var 1)) nilM) ((env0 3 [.ref D, .int k]).set 2 (some (.int z))) (s1.set c (.lst (init.map .int))) = some (.ok .non, (s1.set c (.lst (init.map .int))).set c (.lst ((init ++ [z / k]).map .int))) := by
      refine lm_ok (cells_ok h3 he2) (lstOf_c h3) (consM_ok (bin_ok (x := Val.int z) (y := Val.int k) (z := Val.int (z / k)) rfl rfl ?_) nilM_ok) ?_
      · show (if 0 < k ∧ k < 1073741824 then some (Val.int (z / k)) else none) = _
        rw [if_pos ⟨h0, h1⟩]
      · show (match (s1.set c (SO.lst (init.map Val.int)))[c]? with | some (.lst xs) => if xs.length < LIM then some (Val.non, (s1.set c (.lst (init.map Val.int))).set c (.lst (xs ++ [Val.int (z / k)]))) else none | _ => none) = _
        rw [h3.hc]
        dsimp only
        rw [if_pos (by rw [List.length_map]; exact Nat.lt_of_le_of_lt h3.len (by decide)), List.map_append]
        rfl
    rw [sSeq_next (sExpr_ok app2)]
    refine sRet_ok (bin_ok (app_ok (consM_ok rfl nilM_ok) rfl) rfl ?_)
    show (if 0 < k then some (Val.int (z % k)) else none) = _
    rw [if_pos h0]
theorem deal_ok {ns : List Int} {b : Int} {st : Sto} (hn : ns.length ≤ 63) (h0 : 0 ≤ b) (h1 : b ≤ 100) : ∃ st' g, c_l_deal [.rol (ns.map .int), .int b] st = some (.ok (.ref (st.length + 1)), st') ∧ st' = st ++ g ∧ g.length = 2 ∧ Dl st' (st.length + 1) st.length := by
  let ls := cutL ns (some b) (some 62)
  have hl : ls.length ≤ 63 := Nat.le_trans (cutL_len _ _ _) hn
  let cs := ls.map fun i => if i < 0 then -i else i
  have hcs : cs.length ≤ 63 := by
    show (ls.map _).length ≤ 63
    rw [List.length_map]
    exact hl
  let bs := (cs.filter fun i => decide ((10 : Int) ^ (18 : Int).toNat ≤ i)).reverse
  have hbs : bs.length ≤ 64 := by
    show (List.reverse _).length ≤ 64
    rw [List.length_reverse]
    exact Nat.le_trans (List.length_filter_le _ _) (by omega)
  -- the cells
  have e1 : comp (itS (sliceM (var 0) (part (var 1)) (part (ret (.int 62))))) (.name 4) [4] yes (app absV' (consM (app intV (consM (var 4) nilM)) nilM)) (env0 5 [.rol (ns.map .int), .int b]) st = some (.ok (.lst (cs.map .int)), st) := by
    have es : sliceM (var 0) (part (var 1)) (part (ret (.int 62))) (env0 5 [.rol (ns.map .int), .int b]) st = some (.ok (.lst (ls.map .int)), st) := by
      unfold sliceM
      rw [bnd_ok (show (var 0) (env0 5 [.rol (ns.map .int), .int b]) st = some (.ok (.rol (ns.map .int)), st) from rfl)]
      rw [bnd_ok (show (part (var 1)) (env0 5 [.rol (ns.map .int), .int b]) st = some (.ok (some b), st) from rfl)]
      rw [bnd_ok (show (part (ret (.int 62))) (env0 5 [.rol (ns.map .int), .int b]) st = some (.ok (some 62), st) from rfl)]
      refine lift_ok ?_
      show some (Val.lst (cutL (ns.map Val.int) (some b) (some 62))) = _
      rw [cutL_map]
    have q := comp_map (mi := itS (sliceM (var 0) (part (var 1)) (part (ret (.int 62))))) (t := .name 4) (own := [4]) (elt := app absV' (consM (app intV (consM (var 4) nilM)) nilM)) (f := absF) (itS_ok es (xs := ls.map .int) rfl) (by rw [List.length_map]; exact Nat.le_trans hl (by decide)) fun x hx => by
      obtain ⟨i, _, rfl⟩ := List.mem_map.mp hx
      exact ⟨_, rfl, rfl⟩
    rw [abs_ints] at q
    exact q
  -- the loop
  have e2 : ∃ m e4, 0 ≤ m ∧ m < 2147483647 ∧ sFor (itS (var 2)) (.name 4) (sSet 3 (bin modV (app intV (consM (bin addV (bin addV (bin mulV (var 3) (ret (.int 39373))) (bin modV (app intV (consM (var 4) nilM)) (ret (.int 2147483587)))) (ret (.int 11))) nilM)) (ret (.int 2147483647))))
      [some (.rol (ns.map .int)), some (.int b), some (.lst (cs.map .int)), some (.int (86028121 + 29 * b)), none] st = some (.next, [some (.rol (ns.map .int)), some (.int b), some (.lst (cs.map .int)), some (.int m), e4], st) := by
    obtain ⟨env', st', e, m, e4, z, h2, h3, h4⟩ := sFor_inv (mi := itS (var 2)) (t := .name 4) (body := sSet 3 (bin modV (app intV (consM (bin addV (bin addV (bin mulV (var 3) (ret (.int 39373))) (bin modV (app intV (consM (var 4) nilM)) (ret (.int 2147483587)))) (ret (.int 11))) nilM)) (ret (.int 2147483647))))
      (fun _ env s => ∃ m e4, env = [some (.rol (ns.map .int)), some (.int b), some (.lst (cs.map .int)), some (.int m), e4] ∧ 0 ≤ m ∧ m < 2147483647 ∧ s = st) (xs := cs.map .int) (env := [some (.rol (ns.map .int)), some (.int b), some (.lst (cs.map .int)), some (.int (86028121 + 29 * b)), none]) (st := st) (s1 := st) (itS_ok (v := .lst (cs.map .int)) rfl rfl)
      ⟨_, none, rfl, by omega, by omega, rfl⟩ fun i x env s hx ⟨m, e4, z, h2, h3, h4⟩ => by
        subst z h4
        obtain ⟨y, _, rfl⟩ := List.mem_map.mp (List.mem_of_getElem? hx)
        refine ⟨_, rfl, _, _, .inl (sSet_ok (v := .int ((m * 39373 + y % 2147483587 + 11) % 2147483647)) ?_), _, some (.int y), rfl, Int.emod_nonneg _ (by decide), Int.emod_lt_of_pos _ (by decide), rfl⟩
        have small : small64 m = true := by
          unfold small64
          simp
          omega
        refine bin_ok (app_ok (consM_ok (bin_ok (bin_ok (bin_ok (x := .int m) (y := .int 39373) (z := .int (m * 39373)) rfl rfl ?_) (bin_ok (x := .int y) (y := .int 2147483587) (z := .int (y % 2147483587)) rfl rfl rfl) rfl) rfl rfl) nilM_ok) rfl) rfl rfl
        show (if (small64 m || small64 39373) = true then some (Val.int (m * 39373)) else none) = _
        rw [small]
        rfl
    subst z h4
    exact ⟨m, e4, h2, h3, e⟩
  obtain ⟨m, e4, m0, m1, e2⟩ := e2
  -- the great ones, turned
  have e3 : comp (itS (var 2)) (.name 4) [4] (asB (bin (cmpV fun i j => decide (j ≤ i)) (var 4) (bin powV (ret (.int 10)) (ret (.int 18))))) (var 4) [some (.rol (ns.map .int)), some (.int b), some (.lst (cs.map .int)), some (.int m), e4] st
      = some (.ok (.lst ((cs.filter fun i => decide ((10 : Int) ^ (18 : Int).toNat ≤ i)).map .int)), st) := by
    have q := comp_pure (mi := itS (var 2)) (t := .name 4) (own := [4]) (cond := asB (bin (cmpV fun i j => decide (j ≤ i)) (var 4) (bin powV (ret (.int 10)) (ret (.int 18))))) (elt := var 4) (p := isBig) (f := fun v => v) (env := [some (.rol (ns.map .int)), some (.int b), some (.lst (cs.map .int)), some (.int m), e4]) (st := st) (s1 := st) (xs := cs.map .int)
      (itS_ok (v := .lst (cs.map .int)) rfl rfl) (by rw [List.length_map]; exact Nat.le_trans hcs (by decide)) fun x hx => by
        obtain ⟨i, _, rfl⟩ := List.mem_map.mp hx
        exact ⟨_, rfl, rfl, fun _ => rfl⟩
    rw [List.map_id'', big_ints] at q
    · exact q
    · exact fun _ => rfl
  refine ⟨(st ++ [.lst (bs.map .int)]) ++ [.lst [.ref st.length, .int m]], [.lst (bs.map .int)] ++ [.lst [.ref st.length, .int m]], ?_, by rw [List.append_assoc], rfl, bs, ⟨m, ?_, m0, m1⟩, ?_, by omega, hbs⟩
  · refine callS_ret (e1 := [some (.rol (ns.map .int)), some (.int b), some (.lst (cs.map .int)), some (.int m), e4]) ?_
    unfold s_l_deal
    rw [sSeq_next (sSet_ok e1)]
    rw [sSeq_next (e1 := [some (.rol (ns.map .int)), some (.int b), some (.lst (cs.map .int)), some (.int (86028121 + 29 * b)), none]) (s1 := st) (sSet_ok (v := .int (86028121 + 29 * b)) (bin_ok rfl (bin_ok (x := .int 29) (y := .int b) (z := .int (29 * b)) rfl rfl rfl) rfl))]
    rw [sSeq_next e2]
    refine sRet_ok ?_
    have e5 : unS revVM (comp (itS (var 2)) (.name 4) [4] (asB (bin (cmpV fun i j => decide (j ≤ i)) (var 4) (bin powV (ret (.int 10)) (ret (.int 18))))) (var 4)) [some (.rol (ns.map .int)), some (.int b), some (.lst (cs.map .int)), some (.int m), e4] st
        = some (.ok (.ref st.length), st ++ [.lst (bs.map .int)]) := by
      unfold unS
      rw [bnd_ok e3]
      refine liftS_ok ?_
      show some (Val.ref st.length, st ++ [SO.lst (List.reverse (List.map Val.int _))]) = _
      rw [← List.map_reverse]
    have e6 := mkLstM_ok (consM_ok e5 (consM_ok (m := var 3) (v := .int m) rfl nilM_ok)) (by show 2 ≤ LIM; decide)
    rw [e6, List.length_append]
    rfl
  · rw [List.getElem?_append_right (by simp)]
    simp
  · rw [List.getElem?_append_left (by simp), List.getElem?_append_right (Nat.le_refl _)]
    simp
theorem pick_ok {st : Sto} {D c : Nat} {xs : List Val} (h : Dl st D c) (h0 : 0 < xs.length) (h1 : xs.length < 1000) : ∃ x st', c_l_pick [.ref D, .lst xs] st = some (.ok x, st') ∧ x ∈ xs ∧ Dl st' D c ∧ Fr D c st st' := by
  obtain ⟨r, st', e, r0, r1, hd, hf⟩ := draw_ok (k := (xs.length : Int)) h (by omega) (by omega)
  have hr : r.toNat < xs.length := by omega
  refine ⟨xs[r.toNat], st', ?_, List.getElem_mem hr, hd, hf⟩
  refine callS_ret (e1 := env0 2 [.ref D, .lst xs]) ?_
  unfold s_l_pick
  refine sRet_ok (bin_ok (x := .lst xs) (y := .int r) rfl (callM_ok (n := 2) (consM_ok (v := .ref D) rfl (consM_ok (v := .int xs.length) rfl nilM_ok)) rfl e) ?_)
  show atI xs r = _
  unfold atI ixN
  rw [if_pos r0, if_pos r1]
  exact List.getElem?_eq_getElem hr
end LwA
namespace Dw
open PySem Mi
open L2 (atI atI_last ixN)
/-- how things stand between the turns of a law: the script, the draws -/
structure TS (N : Nat) (sc : Val) (D c : Nat) (env : Mi.Env) (st : Sto) : Prop where
  hl : env.length = N
  h0 : env[0]? = some (some sc)
  h1 : env[1]? = some (some (.ref D))
  d : Dl st D c
theorem TS.set {N D c : Nat} {sc : Val} {env : Mi.Env} {st : Sto} (T : TS N sc D c env st) {i : Nat} {v : Option Val} (hi : 1 < i) : TS N sc D c (env.set i v) st :=
  ⟨by rw [List.length_set]; exact T.hl, by rw [g_ne (by omega)]; exact T.h0, by rw [g_ne (by omega)]; exact T.h1, T.d⟩
end Dw
namespace K01
open PySem Mi Pg LwA Dw
open L2 (atI atI_last ixN)
def u_12 : S := (sIf (orB (notB (asB (callM 2 c_l_are_own [] (consM (mkLst (consM (bin idxV (var 5) (ret (.int 2))) (consM (mkX "InvalidFault" [] nilM) (consM (mkX "InvalidCommand" [] nilM) (consM (bin idxV (var 5) (ret (.int 0))) nilM))))) (consM (ret (.int 6)) nilM))))) (notB (asB (callM 2 c_l_are_own [] (consM (mkLst (consM (bin idxV (var 5) (ret (.int 1))) nilM)) (consM (ret (.int 9)) nilM)))))) (sRet (ret (.bl false))) sNext)
theorem u_12_eq : u_12 = (sIf (orB (notB (asB (callM 2 c_l_are_own [] (consM (mkLst (consM (bin idxV (var 5) (ret (.int 2))) (consM (mkX "InvalidFault" [] nilM) (consM (mkX "InvalidCommand" [] nilM) (consM (bin idxV (var 5) (ret (.int 0))) nilM))))) (consM (ret (.int 6)) nilM))))) (notB (asB (callM 2 c_l_are_own [] (consM (mkLst (consM (bin idxV (var 5) (ret (.int 1))) nilM)) (consM (ret (.int 9)) nilM)))))) (sRet (ret (.bl false))) sNext) := rfl
def u_11 : S := sSeq (sIf (orB (notB (asB (callM 2 c_l_are_own [] (consM (var 8) (consM (ret (.int 0)) nilM))))) (orB (notB (asB (callM 2 c_l_are_own [] (consM (bin addV (var 9) (var 4)) (consM (ret (.int 0)) nilM))))) (notB (asB (callM 2 c_l_are_own [] (consM (var 3) (consM (ret (.int 2)) nilM))))))) (sRet (ret (.bl false))) sNext) u_12
theorem u_11_eq : u_11 = sSeq (sIf (orB (notB (asB (callM 2 c_l_are_own [] (consM (var 8) (consM (ret (.int 0)) nilM))))) (orB (notB (asB (callM 2 c_l_are_own [] (consM (bin addV (var 9) (var 4)) (consM (ret (.int 0)) nilM))))) (notB (asB (callM 2 c_l_are_own [] (consM (var 3) (consM (ret (.int 2)) nilM))))))) (sRet (ret (.bl false))) sNext) u_12 := rfl
def u_10 : S := sSeq (sIf (asB (bin neV (app reprDV (consM (comp (itS (var 5)) (.name 10) [10] yes (un (exoF (ownL ["InvalidText", "InvalidRoad", "InvalidGoing", "InvalidHeard", "Refused", "NoCall"]) "at") (var 10))) nilM)) (app reprDV (consM (mkLst (consM (var 6) (consM (var 7) (consM (var 7) nilM)))) nilM)))) (sRet (ret (.bl false))) sNext) u_11
theorem u_10_eq : u_10 = sSeq (sIf (asB (bin neV (app reprDV (consM (comp (itS (var 5)) (.name 10) [10] yes (un (exoF (ownL ["InvalidText", "InvalidRoad", "InvalidGoing", "InvalidHeard", "Refused", "NoCall"]) "at") (var 10))) nilM)) (app reprDV (consM (mkLst (consM (var 6) (consM (var 7) (consM (var 7) nilM)))) nilM)))) (sRet (ret (.bl false))) sNext) u_11 := rfl
def u_9 : S := sSeq (sIf (asB (bin neV (app reprDV (consM (comp (itS (bin addV (var 3) (var 4))) (.name 10) [10] yes (un (exoF (ownL ["InvalidText", "InvalidRoad", "InvalidGoing", "InvalidHeard", "Refused", "NoCall"]) "at") (var 10))) nilM)) (app reprDV (consM (bin addV (bin mulV (mkLst (consM (var 6) nilM)) (ret (.int 5))) (bin mulV (mkLst (consM (var 7) nilM)) (ret (.int 4)))) nilM)))) (sRet (ret (.bl false))) sNext) u_10
theorem u_9_eq : u_9 = sSeq (sIf (asB (bin neV (app reprDV (consM (comp (itS (bin addV (var 3) (var 4))) (.name 10) [10] yes (un (exoF (ownL ["InvalidText", "InvalidRoad", "InvalidGoing", "InvalidHeard", "Refused", "NoCall"]) "at") (var 10))) nilM)) (app reprDV (consM (bin addV (bin mulV (mkLst (consM (var 6) nilM)) (ret (.int 5))) (bin mulV (mkLst (consM (var 7) nilM)) (ret (.int 4)))) nilM)))) (sRet (ret (.bl false))) sNext) u_10 := rfl
def u_8 : S := sSeq (sIf (asB (bin neV (app reprDV (consM (comp (itS (bin addV (var 8) (var 9))) (.name 10) [10] yes (un (exoF (ownL ["InvalidCall", "InvalidVoice"]) "word") (var 10))) nilM)) (app reprDV (consM (mkLst (consM (var 6) (consM (var 6) (consM (var 7) (consM (var 7) nilM))))) nilM)))) (sRet (ret (.bl false))) sNext) u_9
theorem u_8_eq : u_8 = sSeq (sIf (asB (bin neV (app reprDV (consM (comp (itS (bin addV (var 8) (var 9))) (.name 10) [10] yes (un (exoF (ownL ["InvalidCall", "InvalidVoice"]) "word") (var 10))) nilM)) (app reprDV (consM (mkLst (consM (var 6) (consM (var 6) (consM (var 7) (consM (var 7) nilM))))) nilM)))) (sRet (ret (.bl false))) sNext) u_9 := rfl
def u_7 : S := sSeq (sExpr (lm appendV (var 7) (consM (ret (.str "y")) nilM))) u_8
theorem u_7_eq : u_7 = sSeq (sExpr (lm appendV (var 7) (consM (ret (.str "y")) nilM))) u_8 := rfl
def u_6 : S := sSeq (sExpr (lm appendV (var 6) (consM (ret (.int 1)) nilM))) u_7
theorem u_6_eq : u_6 = sSeq (sExpr (lm appendV (var 6) (consM (ret (.int 1)) nilM))) u_7 := rfl
def u_5 : S := sSeq (sSet 5 (mkLst (consM (mkX "NoCall" ["at"] (consM (var 6) nilM)) (consM (mkX "NoCall" ["at"] (consM (var 7) nilM)) (consM (mkX "Refused" ["at"] (consM (var 7) nilM)) nilM))))) u_6
theorem u_5_eq : u_5 = sSeq (sSet 5 (mkLst (consM (mkX "NoCall" ["at"] (consM (var 6) nilM)) (consM (mkX "NoCall" ["at"] (consM (var 7) nilM)) (consM (mkX "Refused" ["at"] (consM (var 7) nilM)) nilM))))) u_6 := rfl
def u_4 : S := sSeq (sSet 4 (mkLst (consM (mkX "InvalidText" ["at"] (consM (var 7) nilM)) (consM (mkX "InvalidRoad" ["at"] (consM (var 7) nilM)) (consM (mkX "InvalidGoing" ["at"] (consM (var 7) nilM)) (consM (mkX "InvalidHeard" ["at"] (consM (var 7) nilM)) nilM)))))) u_5
theorem u_4_eq : u_4 = sSeq (sSet 4 (mkLst (consM (mkX "InvalidText" ["at"] (consM (var 7) nilM)) (consM (mkX "InvalidRoad" ["at"] (consM (var 7) nilM)) (consM (mkX "InvalidGoing" ["at"] (consM (var 7) nilM)) (consM (mkX "InvalidHeard" ["at"] (consM (var 7) nilM)) nilM)))))) u_5 := rfl
def u_3 : S := sSeq (sSet 3 (mkLst (consM (mkX "InvalidText" ["at"] (consM (var 6) nilM)) (consM (mkX "InvalidRoad" ["at"] (consM (var 6) nilM)) (consM (mkX "InvalidGoing" ["at"] (consM (var 6) nilM)) (consM (mkX "InvalidHeard" ["at"] (consM (var 6) nilM)) (consM (mkX "Refused" ["at"] (consM (var 6) nilM)) nilM))))))) u_4
theorem u_3_eq : u_3 = sSeq (sSet 3 (mkLst (consM (mkX "InvalidText" ["at"] (consM (var 6) nilM)) (consM (mkX "InvalidRoad" ["at"] (consM (var 6) nilM)) (consM (mkX "InvalidGoing" ["at"] (consM (var 6) nilM)) (consM (mkX "InvalidHeard" ["at"] (consM (var 6) nilM)) (consM (mkX "Refused" ["at"] (consM (var 6) nilM)) nilM))))))) u_4 := rfl
def u_2 : S := sSeq (sPar 8 9 (consM (mkLst (consM (mkX "InvalidCall" ["word"] (consM (var 6) nilM)) (consM (mkX "InvalidVoice" ["word"] (consM (var 6) nilM)) nilM))) (consM (mkLst (consM (mkX "InvalidCall" ["word"] (consM (var 7) nilM)) (consM (mkX "InvalidVoice" ["word"] (consM (var 7) nilM)) nilM))) nilM))) u_3
theorem u_2_eq : u_2 = sSeq (sPar 8 9 (consM (mkLst (consM (mkX "InvalidCall" ["word"] (consM (var 6) nilM)) (consM (mkX "InvalidVoice" ["word"] (consM (var 6) nilM)) nilM))) (consM (mkLst (consM (mkX "InvalidCall" ["word"] (consM (var 7) nilM)) (consM (mkX "InvalidVoice" ["word"] (consM (var 7) nilM)) nilM))) nilM))) u_3 := rfl
def u_1 : S := sSeq (sPar 6 7 (consM (mkLstM (consM (callM 2 c_l_thing [] (consM (var 2) (consM (ret (.int 3)) nilM))) (consM (ret (.str "x")) nilM))) (consM (mkLstM (consM (callM 2 c_l_thing [] (consM (var 2) (consM (ret (.int 2)) nilM))) nilM)) nilM))) u_2
theorem u_1_eq : u_1 = sSeq (sPar 6 7 (consM (mkLstM (consM (callM 2 c_l_thing [] (consM (var 2) (consM (ret (.int 3)) nilM))) (consM (ret (.str "x")) nilM))) (consM (mkLstM (consM (callM 2 c_l_thing [] (consM (var 2) (consM (ret (.int 2)) nilM))) nilM)) nilM))) u_2 := rfl
def u_0 : S := sSeq (sSet 2 (callM 2 c_l_deal [] (consM (var 0) (consM (var 1) nilM)))) u_1
theorem u_0_eq : u_0 = sSeq (sSet 2 (callM 2 c_l_deal [] (consM (var 0) (consM (var 1) nilM)))) u_1 := rfl
def w_1 : S := (sRet (ret (.bl true)))
theorem w_1_eq : w_1 = (sRet (ret (.bl true))) := rfl
def w_0 : S := sSeq (sFor (rng1 (consM (app max2V (consM (ret (.int 2)) (consM (app min2V (consM (ret (.int 5)) (consM (app lenV (consM (var 0) nilM)) nilM))) nilM))) nilM)) (.name 1) u_0) w_1
theorem w_0_eq : w_0 = sSeq (sFor (rng1 (consM (app max2V (consM (ret (.int 2)) (consM (app min2V (consM (ret (.int 5)) (consM (app lenV (consM (var 0) nilM)) nilM))) nilM))) nilM)) (.name 1) u_0) w_1 := rfl
theorem s_law_eq : s_law = w_0 := rfl
/-! ### a drawn thing -/
def menu : List Val := [.non, .bl true, .bl false, .int 0, .int 1, .int (-1), .int 5, .int (10 ^ 20), .str "", .str "a", .str "wait", .str "abcde", .str "A", .str "a b", .str "1", .tup [], .lst [], .tup [.str "a", .int 1]]
structure Rd (d : PyData) (k b : Nat) : Prop where
  s : d.showable = true
  n : d.hasDict = false
  l : d.leavesShort 30 = true
  b : d.bulk ≤ b
  k : d.depth ≤ k
structure Rds (ds : List PyData) (k b : Nat) : Prop where
  s : PyData.showableAll ds = true
  n : PyData.hasDictAll ds = false
  l : PyData.leavesShortAll 30 ds = true
  b : PyData.bulkAll ds ≤ b
  k : PyData.depthAll ds ≤ k
/-- a thing whose repr is short -/
def Th (v : Val) (k b : Nat) : Prop := noRef v = true ∧ ∃ d, toD0 v = some d ∧ Rd d k b
def Ths (vs : List Val) (k b : Nat) : Prop := noRefs vs = true ∧ ∃ ds, toD0s vs = some ds ∧ Rds ds k b
theorem Th.mono {v : Val} {k k' b b' : Nat} (h : Th v k b) (h1 : k ≤ k') (h2 : b ≤ b') : Th v k' b' := by
  obtain ⟨n, d, e, h3, h4, h5, h6, h7⟩ := h
  exact ⟨n, d, e, h3, h4, h5, by omega, by omega⟩
theorem ths_nil {k b : Nat} : Ths [] k b := ⟨rfl, [], rfl, rfl, rfl, rfl, Nat.zero_le _, Nat.zero_le _⟩
theorem ths_cons {v : Val} {vs : List Val} {k b c : Nat} (h : Th v k b) (g : Ths vs k c) : Ths (v :: vs) k (b + 1 + c) := by
  obtain ⟨n1, d, e1, h1, h2, h3, h4, h5⟩ := h
  obtain ⟨n2, ds, e2, g1, g2, g3, g4, g5⟩ := g
  refine ⟨by show (noRef v && noRefs vs) = true; rw [n1, n2]; rfl, d :: ds, ?_, ?_, ?_, ?_, ?_, ?_⟩
  · show (match toD0 v, toD0s vs with | some d, some ds => some (d :: ds) | _, _ => none) = _
    rw [e1, e2]
  · simp only [PyData.showableAll, h1, g1, Bool.and_self]
  · simp only [PyData.hasDictAll, h2, g2, Bool.or_self]
  · simp only [PyData.leavesShortAll, h3, g3, Bool.and_self]
  · simp only [PyData.bulkAll]
    omega
  · simp only [PyData.depthAll]
    omega
theorem ths_of {k b : Nat} : ∀ {xs : List Val}, (∀ x ∈ xs, Th x k b) → Ths xs k (xs.length * (b + 1))
  | [], _ => ths_nil
  | x :: xs, h => by
    have := ths_cons (h x List.mem_cons_self) (ths_of fun y hy => h y (List.mem_cons_of_mem _ hy))
    rw [List.length_cons, show (xs.length + 1) * (b + 1) = b + 1 + xs.length * (b + 1) by rw [Nat.add_mul, Nat.one_mul]; omega]
    exact this
theorem th_tup {xs : List Val} {k b : Nat} (h : Ths xs k b) : Th (.tup xs) (k + 1) b := by
  obtain ⟨n, ds, e, h1, h2, h3, h4, h5⟩ := h
  refine ⟨n, .tuple ds, ?_, by simpa only [PyData.showable] using h1, by simpa only [PyData.hasDict] using h2, by simpa only [PyData.leavesShort] using h3, by simpa only [PyData.bulk] using h4, ?_⟩
  · show (toD0s xs).map PyData.tuple = _
    rw [e]
    rfl
  · simp only [PyData.depth]
    omega
theorem th_lst {xs : List Val} {k b : Nat} (h : Ths xs k b) : Th (.lst xs) (k + 1) b := by
  obtain ⟨n, ds, e, h1, h2, h3, h4, h5⟩ := h
  refine ⟨n, .list ds, ?_, by simpa only [PyData.showable] using h1, by simpa only [PyData.hasDict] using h2, by simpa only [PyData.leavesShort] using h3, by simpa only [PyData.bulk] using h4, ?_⟩
  · show (toD0s xs).map PyData.list = _
    rw [e]
    rfl
  · simp only [PyData.depth]
    omega
def thB (v : Val) : Bool := noRef v && (match toD0 v with
  | some d => d.showable && (!d.hasDict && (d.leavesShort 30 && (decide (d.bulk ≤ 10) && decide (d.depth ≤ 2))))
  | none => false)
theorem thB_ok {v : Val} (h : thB v = true) : Th v 2 10 := by
  unfold thB at h
  cases q : toD0 v with
  | none =>
    rw [q] at h
    simp at h
  | some d =>
    rw [q] at h
    simp only [Bool.and_eq_true, Bool.not_eq_true', decide_eq_true_eq] at h
    obtain ⟨h0, h1, h2, h3, h4, h5⟩ := h
    exact ⟨h0, d, q, h1, h2, h3, h4, h5⟩
theorem menu_ok : ∀ v ∈ menu, Th v 2 10 := by
  have : menu.all thB = true := by decide +kernel
  exact fun v hv => thB_ok (List.all_eq_true.mp this v hv)
/-- how great a thing so deep may be -/
def bk : Nat → Nat
  | 0 => 10
  | n + 1 => 3 * (bk n + 1) + 10
theorem bk_10 : ∀ n, 10 ≤ bk n
  | 0 => Nat.le_refl _
  | n + 1 => by unfold bk; omega
abbrev mnu : List Val := [.non, .bl true, .bl false, .int 0, .int 1, .int (-1), .int 5, .int 100000000000000000000, .str "", .str "a", .str "wait", .str "abcde", .str "A", .str "a b", .str "1", .tup [], .lst [], .tup [.str "a", .int 1]]
theorem thing_ok {D c : Nat} : ∀ (n : Nat) {p : Nat} {st : Sto}, p ≤ n → Dl st D c → ∃ v st', cr_l_thing (n + 1) [.ref D, .int p] st = some (.ok v, st') ∧ Th v (p + 2) (bk p) ∧ Dl st' D c ∧ Fr D c st st' := by
  have sb : ∀ st, subV st (.int 0) (.int 1) = some (.int (-1)) := fun _ => rfl
  have pw : ∀ st, powV st (.int 10) (.int 20) = some (.int 100000000000000000000) := fun st => by kernel_rfl
  have pk : ∀ {s : Sto} {p : Nat}, Dl s D c → ∃ x s', c_l_pick [.ref D, .lst mnu] s = some (.ok x, s') ∧ Th x (p + 2) (bk p) ∧ Dl s' D c ∧ Fr D c s s' := fun {s p} hs => by
    obtain ⟨x, s1, k1, k2, k3, k4⟩ := pick_ok (xs := menu) hs (by decide) (by decide)
    exact ⟨x, s1, k1, (menu_ok x k2).mono (by omega) (bk_10 p), k3, k4⟩
  intro n
  induction n with
  | zero =>
    intro p st hp hd
    obtain rfl : p = 0 := by omega
    obtain ⟨x, s1, k1, k2, k3, k4⟩ := pk (p := 0) hd
    refine ⟨x, s1, ?_, k2, k3, k4⟩
    show callS 5 (s_l_thing (cr_l_thing 0)) [.ref D, .int (0 : Nat)] st = _
    unfold s_l_thing
    rw [x_callS]
    simp (decide := true) [env0, mkLst, mkTup, sb, pw, k1]
  | succ n ih =>
    intro p st hp hd
    show ∃ v st', callS 5 (s_l_thing (cr_l_thing (n + 1))) [.ref D, .int p] st = _ ∧ _
    by_cases hp0 : p = 0
    · subst hp0
      obtain ⟨x, s1, k1, k2, k3, k4⟩ := pk (p := 0) hd
      refine ⟨x, s1, ?_, k2, k3, k4⟩
      unfold s_l_thing
      rw [x_callS]
      simp (decide := true) [env0, mkLst, mkTup, sb, pw, k1]
    · obtain ⟨r, s1, q1, r0, r1, d1, f1⟩ := draw_ok (k := 3) hd (by decide) (by decide)
      have pp : 0 < p := by omega
      have pz : ((p : Int) == 0) = false := by rw [beq_eq_false_iff_ne]; omega
      have ez : ∀ st, eqV st (.int (p : Int)) (.int 0) = some (.bl false) := fun _ => by
        show some (Val.bl ((p : Int) == 0)) = _
        rw [pz]
      have e3 : ∀ st, eqV st (.int r) (.int 0) = some (.bl (r == 0)) := fun _ => rfl
      by_cases hr0 : r = 0
      · subst hr0
        obtain ⟨x, s2, k1, k2, k3, k4⟩ := pk (p := p) d1
        refine ⟨x, s2, ?_, k2, k3, f1.trans k4⟩
        unfold s_l_thing
        rw [x_callS]
        simp (decide := true) [env0, mkLst, mkTup, sb, pw, pp, ez, q1, e3, k1]
      · have e3' : ∀ st, eqV st (.int r) (.int 0) = some (.bl false) := fun st => by
          rw [e3, show (r == 0) = false from beq_eq_false_iff_ne.mpr hr0]
        obtain ⟨m, s2, q2, m0, m1, d2, f2⟩ := draw_ok (k := 4) d1 (by decide) (by decide)
        obtain ⟨ys, s3, c1, c2, c3⟩ := comp_inv (mi := rng1 (consM (callM 2 c_l_draw [] (consM (var 0) (consM (ret (.int 4)) nilM))) nilM)) (t := .name 4) (own := [4]) (elt := callM 2 (cr_l_thing (n + 1)) [] (consM (var 0) (consM (bin subV (var 1) (ret (.int 1))) nilM))) (fun ys s => (∀ y ∈ ys, Th y (p - 1 + 2) (bk (p - 1))) ∧ Dl s D c ∧ Fr D c s2 s) (env := [some (.ref D), some (.int p), some (.lst mnu), none, none]) (st := s1) (s1 := s2) (rng1_ok (j := m) (consM_ok (by simp (decide := true) [q2]) nilM_ok) (by omega) (by omega)) (by rw [List.length_map, List.length_range]; show _ ≤ 16000000; omega) ⟨(fun y hy => by cases hy), d2, .refl⟩ (fun done x s hx ⟨i1, i2, i3⟩ => by
            obtain ⟨v, s', t1, t2, t3, t4⟩ := ih (p := p - 1) (st := s) (by omega) i2
            refine ⟨[some (.ref D), some (.int p), some (.lst mnu), none, some x], rfl, v, s', ?_, ?_, t3, i3.trans t4⟩
            · refine callM_ok (n := 2) (consM_ok (v := .ref D) rfl (consM_ok (v := .int ((p - 1 : Nat) : Int)) ?_ nilM_ok)) rfl t1
              refine bin_ok (x := .int p) (y := .int 1) rfl rfl ?_
              show some (Val.int ((p : Int) - 1)) = _
              rw [show (p : Int) - 1 = ((p - 1 : Nat) : Int) by omega]
            · intro y hy
              rcases List.mem_append.mp hy with z | z
              · exact i1 y z
              · rw [List.mem_singleton.mp z]
                exact t2)
        obtain ⟨u, s4, q4, u0, u1, d4, f4⟩ := draw_ok (k := 3) c2.2.1 (by decide) (by decide)
        have yl : ys.length ≤ 3 := by rw [c3, List.length_map, List.length_range]; omega
        have T := ths_of c2.1
        have T' : Ths ys (p - 1 + 2) (bk p) := by
          obtain ⟨a, ds, b1, b2, b3, b4, b5, b6⟩ := T
          refine ⟨a, ds, b1, b2, b3, b4, Nat.le_trans b5 ?_, b6⟩
          obtain ⟨w, rfl⟩ : ∃ w, p = w + 1 := ⟨p - 1, by omega⟩
          show _ ≤ 3 * (bk w + 1) + 10
          have := Nat.mul_le_mul_right (bk (w + 1 - 1) + 1) yl
          rw [show w + 1 - 1 = w by omega] at this ⊢
          omega
        have pe : p - 1 + 2 + 1 = p + 2 := by omega
        have e4 : ∀ st, eqV st (.int u) (.int 0) = some (.bl (u == 0)) := fun _ => rfl
        have tt : ∀ st, tupleV st [.lst ys] = some (.tup ys) := fun _ => rfl
        by_cases hu : u = 0
        · refine ⟨.lst ys, s4, ?_, pe ▸ th_lst T', d4, ((f1.trans f2).trans c2.2.2).trans f4⟩
          subst hu
          unfold s_l_thing
          rw [x_callS]
          simp (decide := true) [env0, mkLst, mkTup, sb, pw, pp, ez, q1, e3', c1, q4, e4]
        · have e4' : ∀ st, eqV st (.int u) (.int 0) = some (.bl false) := fun st => by
            rw [e4, show (u == 0) = false from beq_eq_false_iff_ne.mpr hu]
          refine ⟨.tup ys, s4, ?_, pe ▸ th_tup T', d4, ((f1.trans f2).trans c2.2.2).trans f4⟩
          unfold s_l_thing
          rw [x_callS]
          simp (decide := true) [env0, mkLst, mkTup, sb, pw, pp, ez, q1, e3', c1, q4, e4', tt]
/-! ### the classes -/
def clsL : List Str := ["InvalidCall", "InvalidVoice", "InvalidText", "InvalidRoad", "InvalidGoing", "InvalidHeard", "Refused", "InvalidFault", "InvalidCommand", "NoCall"]
def tb (i : Nat) : Str → Option Bool := ownT [("InvalidCall", decide (i = 0)), ("InvalidVoice", decide (i = 1)), ("InvalidText", decide (i = 2)), ("InvalidRoad", decide (i = 3)), ("InvalidGoing", decide (i = 4)), ("InvalidHeard", decide (i = 5)), ("InvalidFault", decide (i = 7)), ("InvalidCommand", decide (i = 8)), ("Refused", decide (i = 6)), ("NoCall", decide (i = 9))]
def tbase : Str → Option Bool := ownT [("InvalidCall", true), ("InvalidVoice", true), ("InvalidText", true), ("InvalidRoad", true), ("InvalidGoing", true), ("InvalidHeard", true), ("InvalidFault", true), ("InvalidCommand", true), ("Refused", true), ("NoCall", false)]
theorem tb_ok : ∀ i ∈ List.range 10, ∀ j ∈ List.range 10, ∀ c, clsL[j]? = some c → tb i c = some (decide (j = i)) := by
  have h : (List.range 10).all (fun i => (List.range 10).all fun j => match clsL[j]? with
    | some c => tb i c == some (decide (j = i))
    | none => true) = true := by decide +kernel
  intro i hi j hj c hc
  have := List.all_eq_true.mp (List.all_eq_true.mp h i hi) j hj
  rw [hc] at this
  exact eq_of_beq this
theorem tbase_ok : ∀ j ∈ List.range 10, ∀ c, clsL[j]? = some c → tbase c = some (decide (j < 9)) := by
  have h : (List.range 10).all (fun j => match clsL[j]? with
    | some c => tbase c == some (decide (j < 9))
    | none => true) = true := by decide +kernel
  intro j hj c hc
  have := List.all_eq_true.mp h j hj
  rw [hc] at this
  exact eq_of_beq this
theorem exoI_ok {st : Sto} {r : Nat} {c : Str} {ks : List Str} {xs : List Val} {t : Str → Option Bool} {b : Bool} {e : Mi.Env} {i : Nat} (hi : e[i]? = some (some (.ref r))) (h : st[r]? = some (.exo c ks xs)) (ht : t c = some b) : un (exoI t) (var i) e st = some (.ok (.bl b), st) := by
  refine un_ok (Mi.var_at hi) ?_
  unfold exoI
  dsimp only
  rw [h]
  dsimp only
  rw [ht]
  rfl
def row (j : Nat) : List Val := (List.range 10).map fun i => Val.bl (decide (j = i))
theorem classes_ok {st : Sto} {r j : Nat} {c : Str} {ks : List Str} {xs : List Val} (hj : clsL[j]? = some c) (h : st[r]? = some (.exo c ks xs)) : c_l_classes [.ref r] st = some (.ok (.lst (row j)), st) := by
  have j10 : j < 10 := (List.getElem?_eq_some_iff.mp hj).1
  have u : ∀ (i : Nat) (e : Mi.Env), i < 10 → e[0]? = some (some (.ref r)) → un (exoI (tb i)) (var 0) e st = some (.ok (.bl (decide (j = i))), st) := fun i e hi he => exoI_ok he h (tb_ok i (List.mem_range.mpr hi) j (List.mem_range.mpr j10) c hj)
  unfold c_l_classes
  rw [x_callS]
  let E : Mi.Env := [some (.ref r), none]
  show oR (s_l_classes E st) = _
  unfold s_l_classes
  have l3 : ∀ a b c : Nat, a < 10 → b < 10 → c < 10 → ∀ e : Mi.Env, e[0]? = some (some (.ref r)) → mkLst (consM (un (exoI (tb a)) (var 0)) (consM (un (exoI (tb b)) (var 0)) (consM (un (exoI (tb c)) (var 0)) nilM))) e st = some (.ok (.lst [.bl (decide (j = a)), .bl (decide (j = b)), .bl (decide (j = c))]), st) := fun a b c ha hb hc e he =>
    mkLst_ok (consM_ok (u a e ha he) (consM_ok (u b e hb he) (consM_ok (u c e hc he) nilM_ok))) (by show 3 ≤ 16000000; decide)
  have E1 : ∀ (v : Val) (e : Mi.Env), e.length = 2 → e[0]? = some (some (.ref r)) → (e.set 1 (some v))[0]? = some (some (.ref r)) ∧ (e.set 1 (some v))[1]? = some (some v) ∧ (e.set 1 (some v)).length = 2 := fun v e hl he => ⟨by rw [g_ne (by decide)]; exact he, g_eq (by omega), by rw [List.length_set]; exact hl⟩
  obtain ⟨a0, a1, al⟩ := E1 (.lst [.bl (decide (j = 0)), .bl (decide (j = 1)), .bl (decide (j = 2))]) E rfl rfl
  have m1 := l3 0 1 2 (by decide) (by decide) (by decide) E rfl
  refine (congrArg oR (sSeq_next (sSet_ok (i := 1) m1))).trans ?_
  generalize E.set 1 (some (.lst [.bl (decide (j = 0)), .bl (decide (j = 1)), .bl (decide (j = 2))])) = e1 at a0 a1 al ⊢
  have ad : ∀ (xs ys : List Val), xs.length + ys.length ≤ 20 → addV st (.lst xs) (.lst ys) = some (.lst (xs ++ ys)) := fun xs ys hl => by
    show (if xs.length + ys.length ≤ 16000000 then some (Val.lst (xs ++ ys)) else none) = _
    rw [if_pos (by omega)]
  have m2 := bin_ok (Mi.var_at a1) (l3 3 4 5 (by decide) (by decide) (by decide) e1 a0) (ad _ _ (by simp))
  obtain ⟨b0, b1, bl⟩ := E1 (.lst ([.bl (decide (j = 0)), .bl (decide (j = 1)), .bl (decide (j = 2))] ++ [.bl (decide (j = 3)), .bl (decide (j = 4)), .bl (decide (j = 5))])) e1 al a0
  refine (congrArg oR (sSeq_next (sSet_ok (i := 1) m2))).trans ?_
  generalize e1.set 1 (some (.lst ([.bl (decide (j = 0)), .bl (decide (j = 1)), .bl (decide (j = 2))] ++ [.bl (decide (j = 3)), .bl (decide (j = 4)), .bl (decide (j = 5))]))) = e2 at b0 b1 bl ⊢
  have m3 := bin_ok (Mi.var_at b1) (l3 6 7 8 (by decide) (by decide) (by decide) e2 b0) (ad _ _ (by simp))
  obtain ⟨c0, c1, cl⟩ := E1 (.lst (([.bl (decide (j = 0)), .bl (decide (j = 1)), .bl (decide (j = 2))] ++ [.bl (decide (j = 3)), .bl (decide (j = 4)), .bl (decide (j = 5))]) ++ [.bl (decide (j = 6)), .bl (decide (j = 7)), .bl (decide (j = 8))])) e2 bl b0
  refine (congrArg oR (sSeq_next (sSet_ok (i := 1) m3))).trans ?_
  generalize e2.set 1 (some (.lst (([.bl (decide (j = 0)), .bl (decide (j = 1)), .bl (decide (j = 2))] ++ [.bl (decide (j = 3)), .bl (decide (j = 4)), .bl (decide (j = 5))]) ++ [.bl (decide (j = 6)), .bl (decide (j = 7)), .bl (decide (j = 8))]))) = e3 at c0 c1 cl ⊢
  have m4 := bin_ok (Mi.var_at c1) (mkLst_ok (consM_ok (u 9 e3 (by decide) c0) nilM_ok) (by show 1 ≤ 16000000; decide)) (ad _ _ (by simp))
  exact (congrArg oR (sRet_ok m4)).trans rfl
theorem row_ne : ∀ (j : Nat), j < 10 → ∀ st, neV st (.lst (row j)) (.lst (row j)) = some (.bl false) := fun j hj st => by
  match j, hj with
  | 0, _ => kernel_rfl
  | 1, _ => kernel_rfl
  | 2, _ => kernel_rfl
  | 3, _ => kernel_rfl
  | 4, _ => kernel_rfl
  | 5, _ => kernel_rfl
  | 6, _ => kernel_rfl
  | 7, _ => kernel_rfl
  | 8, _ => kernel_rfl
  | 9, _ => kernel_rfl
theorem are_own_ok {st : Sto} {rs : List Nat} {first : Nat} (h : ∀ i r, rs[i]? = some r → ∃ c ks xs, clsL[first + i]? = some c ∧ st[r]? = some (.exo c ks xs)) (hl : rs.length ≤ 10) : c_l_are_own [.lst (rs.map .ref), .int (first : Int)] st = some (.ok (.bl true), st) := by
  have R : Runs (s_l_are_own [some (.lst (rs.map .ref)), some (.int (first : Int)), none, none, none, none] st) fun r _ s => r = .ret (.bl true) ∧ s = st := by
    unfold s_l_are_own
    have em : enumM (consM (var 0) nilM) [some (.lst (rs.map .ref)), some (.int (first : Int)), none, none, none, none] st = some (.ok (pairs (rs.map .ref)), st) := enumM_ok (consM_ok (v := .lst (rs.map .ref)) rfl nilM_ok) rfl
    refine Runs.seq (runs_for (fun _ e s => e.length = 6 ∧ e[1]? = some (some (.int (first : Int))) ∧ s = st) em ⟨rfl, rfl, rfl⟩ (fun m x e s hx ⟨el, e1, es⟩ => ?_) fun e s ⟨_, _, es⟩ => ⟨rfl, _, _, _, sRet_ok rfl, rfl, es⟩)
    subst es
    obtain ⟨r, hr, rfl⟩ : ∃ r, rs[m]? = some r ∧ x = .tup [.int (m : Int), .ref r] := by
      unfold pairs at hx
      rw [List.getElem?_map, List.getElem?_zipIdx, List.getElem?_map] at hx
      cases q : rs[m]? with
      | none =>
        rw [q] at hx
        cases hx
      | some r =>
        rw [q] at hx
        have hx' : Val.tup [.int ((0 + m : Nat) : Int), .ref r] = x := by simpa using hx
        exact ⟨r, rfl, by rw [← hx', Nat.zero_add]⟩
    obtain ⟨c, ks, xs, hc, hs⟩ := h m r hr
    have j10 : first + m < 10 := (List.getElem?_eq_some_iff.mp hc).1
    have jr := List.mem_range.mpr j10
    refine ⟨(e.set 2 (some (.int (m : Int)))).set 3 (some (.ref r)), rfl, ?_⟩
    have a1 : ((e.set 2 (some (.int (m : Int)))).set 3 (some (.ref r)))[1]? = some (some (.int (first : Int))) := by rw [g_ne (by decide), g_ne (by decide)]; exact e1
    have a2 : ((e.set 2 (some (.int (m : Int)))).set 3 (some (.ref r)))[2]? = some (some (.int (m : Int))) := by rw [g_ne (by decide)]; exact g_eq (by omega)
    have a3 : ((e.set 2 (some (.int (m : Int)))).set 3 (some (.ref r)))[3]? = some (some (.ref r)) := g_eq (by rw [List.length_set]; omega)
    have al : ((e.set 2 (some (.int (m : Int)))).set 3 (some (.ref r))).length = 6 := by simp [el]
    generalize (e.set 2 (some (.int (m : Int)))).set 3 (some (.ref r)) = f at a1 a2 a3 al ⊢
    have sm : ∀ e : Mi.Env, e[1]? = some (some (.int (first : Int))) → e[2]? = some (some (.int (m : Int))) → bin addV (var 1) (var 2) e s = some (.ok (.int ((first + m : Nat) : Int)), s) := fun e h1 h2 => bin_ok (Mi.var_at h1) (Mi.var_at h2) (by
      show some (Val.int ((first : Int) + (m : Int))) = _
      rw [Int.natCast_add])
    have cm : comp (rng1 (consM (ret (.int 10)) nilM)) (.name 5) [5] yes (bin eqV (bin addV (var 1) (var 2)) (var 5)) f s = some (.ok (.lst (row (first + m))), s) :=
      comp_name (enc := fun n : Nat => Val.int (0 + (n : Int))) (g := fun n => Val.bl (decide (first + m = n))) (rng1_ok (j := 10) (consM_ok (v := .int 10) rfl nilM_ok) (by decide) (by decide)) (by decide) fun n hn => by
        refine bin_ok (sm _ (by rw [g_ne (by decide), g_ne (by decide)]; exact a1) (by rw [g_ne (by decide), g_ne (by decide)]; exact a2)) (Mi.var_at (g_eq (by rw [List.length_set, al]; decide))) ?_
        show some (Val.bl (((first + m : Nat) : Int) == 0 + (n : Int))) = _
        congr 2
        rw [Bool.eq_iff_iff, beq_iff_eq, decide_eq_true_iff]
        omega
    have k1 := asB_ok (bin_ok (f := neV) (callM_ok (n := 1) (consM_ok (Mi.var_at a3) nilM_ok) rfl (classes_ok hc hs)) cm (row_ne _ j10 s))
    refine Runs.seq ⟨.next, f, s, (sIf_false k1).trans rfl, rfl, ?_⟩
    have m4 : bin (cmpV fun i j => decide (i < j)) (bin addV (var 1) (var 2)) (ret (.int 9)) f s = some (.ok (.bl (decide (first + m < 9))), s) := bin_ok (sm f a1 a2) (y := .int 9) rfl (by
      show some (Val.bl (decide (((first + m : Nat) : Int) < 9))) = _
      congr 2
      rw [decide_eq_decide]
      omega)
    refine Runs.seq ⟨.next, _, s, sSet_ok (i := 4) m4, rfl, ?_⟩
    have c1 : (f.set 4 (some (.bl (decide (first + m < 9)))))[1]? = some (some (.int (first : Int))) := by rw [g_ne (by decide)]; exact a1
    have c3 : (f.set 4 (some (.bl (decide (first + m < 9)))))[3]? = some (some (.ref r)) := by rw [g_ne (by decide)]; exact a3
    have c4 : (f.set 4 (some (.bl (decide (first + m < 9)))))[4]? = some (some (.bl (decide (first + m < 9)))) := g_eq (by omega)
    have cl : (f.set 4 (some (.bl (decide (first + m < 9))))).length = 6 := by rw [List.length_set]; exact al
    generalize f.set 4 (some (.bl (decide (first + m < 9)))) = g at c1 c3 c4 cl ⊢
    have bs := exoI_ok c3 hs (tbase_ok _ jr c hc)
    have nb : ∀ b : Bool, neV s (.bl b) (.bl b) = some (.bl false) := fun b => by cases b <;> rfl
    have k2 := asB_ok (bin_ok (f := neV) bs (Mi.var_at c4) (nb _))
    have k3 := orB_ff k2 k2
    refine Runs.seq ⟨.next, g, s, (sIf_false k3).trans rfl, rfl, ?_⟩
    have b9 := exoI_ok c3 hs (tb_ok 9 (by decide) _ jr c hc)
    have e9 : eqV s (.bl (decide (first + m = 9))) (.bl (decide (first + m < 9))) = some (.bl false) := by
      by_cases z : first + m = 9
      · rw [decide_eq_true z, decide_eq_false (by omega)]
        rfl
      · rw [decide_eq_false z, decide_eq_true (by omega)]
        rfl
    have k4 := asB_ok (bin_ok (f := eqV) b9 (Mi.var_at c4) e9)
    exact ⟨.next, g, s, (sIf_false k4).trans rfl, .inl rfl, cl, c1, rfl⟩
  obtain ⟨r, e, s, q, rfl, rfl⟩ := R
  unfold c_l_are_own
  rw [x_callS]
  show oR (s_l_are_own [some (.lst (rs.map .ref)), some (.int (first : Int)), none, none, none, none] s) = _
  rw [q]
  rfl
/-! ### the texts -/
theorem reprD_ok {st : Sto} {a b : Nat} {A B : List Val} (ha : st[a]? = some (.lst A)) (hb : st[b]? = some (.lst B)) (hA : Ths A 20 3000) (hB : Ths B 20 3000) {zs : List Val} (hz : ∀ z ∈ zs, z = .ref a ∨ z = .ref b) (hl : zs.length ≤ 20) : ∃ t : Str, reprDV st [.lst zs] = some (.str t) := by
  have sn : ∀ {i : Nat} {X : List Val}, st[i]? = some (.lst X) → noRefs X = true → snapD st 8 (.ref i) = some (.lst X) := fun {i X} hi hX => by
    unfold snapD
    rw [if_neg (show ¬ noRef (.ref i) = true from fun z => by cases z)]
    dsimp only
    rw [hi]
    dsimp only
    have : allOf (snapD st 7) X = some X := by
      have : ∀ Y : List Val, noRefs Y = true → allOf (snapD st 7) Y = some Y := by
        intro Y
        induction Y with
        | nil => intro _; rfl
        | cons y Y ih =>
          intro h
          have h' := Bool.and_eq_true_iff.mp h
          unfold allOf
          rw [ih h'.2]
          unfold snapD
          rw [if_pos h'.1]
      exact this X hX
    rw [this]
    rfl
  obtain ⟨ws, hw, hT⟩ : ∃ ws, allOf (snapD st 8) zs = some ws ∧ Ths ws 21 (zs.length * 3001) := by
    clear hl
    induction zs with
    | nil => exact ⟨[], rfl, ths_nil⟩
    | cons z zs ih =>
      obtain ⟨ws, hw, hT⟩ := ih fun y hy => hz y (List.mem_cons_of_mem _ hy)
      obtain ⟨w, h1, h2⟩ : ∃ w, snapD st 8 z = some w ∧ Th w 21 3000 := by
        rcases hz z List.mem_cons_self with rfl | rfl
        · exact ⟨_, sn ha hA.1, th_lst hA⟩
        · exact ⟨_, sn hb hB.1, th_lst hB⟩
      refine ⟨w :: ws, ?_, ?_⟩
      · unfold allOf
        rw [h1, hw]
      · have := ths_cons h2 hT
        rw [List.length_cons, show (zs.length + 1) * 3001 = 3000 + 1 + zs.length * 3001 by omega]
        exact this
  have T := th_lst hT
  obtain ⟨_, d, e, h3, h4, h5, h6, h7⟩ := T
  refine ⟨d.shown, ?_⟩
  have s9 : snapD st 9 (.lst zs) = some (.lst ws) := by
    by_cases n : noRefs zs = true
    · unfold snapD
      rw [if_pos (show noRef (.lst zs) = true from n)]
      have : ∀ Y : List Val, noRefs Y = true → ∀ W, allOf (snapD st 8) Y = some W → W = Y := by
        intro Y
        induction Y with
        | nil =>
          intro _ W hW
          cases hW
          rfl
        | cons y Y ih =>
          intro h W hW
          have h' := Bool.and_eq_true_iff.mp h
          have e1 : snapD st 8 y = some y := by
            unfold snapD
            rw [if_pos h'.1]
          unfold allOf at hW
          rw [e1] at hW
          cases q : allOf (snapD st 8) Y with
          | none =>
            rw [q] at hW
            cases hW
          | some V =>
            rw [q] at hW
            cases hW
            rw [ih h'.2 V q]
      rw [this zs n ws hw]
    · unfold snapD
      rw [if_neg (show ¬ noRef (.lst zs) = true from n)]
      dsimp only
      rw [hw]
      rfl
  unfold reprDV
  dsimp only
  rw [s9]
  dsimp only
  have e' : toD [] (.lst ws) = some d := e
  show (match toD [] (.lst ws) with | some d => if d.showable = true ∧ d.hasDict = false ∧ d.shown.length ≤ LIM ∧ d.depth ≤ 50 then some (Val.str d.shown) else none | none => none) = _
  rw [e']
  dsimp only
  refine if_pos ⟨h3, h4, ?_, by omega⟩
  have q := PyData.shown_le_bulk 30 (by decide) d h5
  have : zs.length * 3001 ≤ 20 * 3001 := Nat.mul_le_mul_right _ hl
  show _ ≤ 16000000
  omega
/-! ### one turn -/
theorem mkX_ok {c f : Str} {i : Nat} {v : Val} {e : Mi.Env} {s : Sto} (h : e[i]? = some (some v)) : mkX c [f] (consM (var i) nilM) e s = some (.ok (.ref s.length), s ++ [.exo c [f] [v]]) := by
  unfold mkX
  rw [bnd_ok (consM_ok (Mi.var_at h) nilM_ok)]
  rfl
def mks : List (Str × Str × Nat) → M (List Val)
  | [] => nilM
  | (c, f, i) :: l => consM (mkX c [f] (consM (var i) nilM)) (mks l)
def exs (V : Nat → Val) (l : List (Str × Str × Nat)) : Sto := l.map fun p => .exo p.1 [p.2.1] [V p.2.2]
def rfs (n k : Nat) : List Val := (List.range k).map fun j => .ref (n + j)
theorem rfs_cons {n k : Nat} : rfs n (k + 1) = .ref n :: rfs (n + 1) k := by
  unfold rfs
  rw [List.range_succ_eq_map, List.map_cons, List.map_map]
  refine congrArg (fun l => Val.ref n :: l) (List.map_congr_left fun j _ => ?_)
  show Val.ref (n + (j + 1)) = Val.ref (n + 1 + j)
  rw [Nat.add_assoc, Nat.add_comm 1 j]
theorem mks_ok {V : Nat → Val} {e : Mi.Env} : ∀ (l : List (Str × Str × Nat)) {s : Sto}, (∀ p ∈ l, e[p.2.2]? = some (some (V p.2.2))) → mks l e s = some (.ok (rfs s.length l.length), s ++ exs V l)
  | [], s, _ => by
    show nilM e s = _
    rw [nilM_ok]
    show _ = some (Except.ok [], s ++ [])
    rw [List.append_nil]
  | (c, f, i) :: l, s, h => by
    have ih := mks_ok (V := V) l (s := s ++ [.exo c [f] [V i]]) fun p hp => h p (List.mem_cons_of_mem _ hp)
    show consM (mkX c [f] (consM (var i) nilM)) (mks l) e s = _
    rw [consM_ok (mkX_ok (h (c, f, i) List.mem_cons_self)) ih, List.length_cons, rfs_cons, List.length_append, List.length_singleton, List.append_assoc]
    rfl
theorem mkl_ok {V : Nat → Val} {e : Mi.Env} {l : List (Str × Str × Nat)} {s : Sto} (h : ∀ p ∈ l, e[p.2.2]? = some (some (V p.2.2))) (hl : l.length ≤ 20) : mkLst (mks l) e s = some (.ok (.lst (rfs s.length l.length)), s ++ exs V l) :=
  mkLst_ok (mks_ok l h) (by show _ ≤ 16000000; unfold rfs; rw [List.length_map, List.length_range]; omega)
def S1 : List (Str × Str × Nat) := [("InvalidCall", "word", 6), ("InvalidVoice", "word", 6)]
def S2 : List (Str × Str × Nat) := [("InvalidCall", "word", 7), ("InvalidVoice", "word", 7)]
def S3 : List (Str × Str × Nat) := [("InvalidText", "at", 6), ("InvalidRoad", "at", 6), ("InvalidGoing", "at", 6), ("InvalidHeard", "at", 6), ("Refused", "at", 6)]
def S4 : List (Str × Str × Nat) := [("InvalidText", "at", 7), ("InvalidRoad", "at", 7), ("InvalidGoing", "at", 7), ("InvalidHeard", "at", 7)]
def S5 : List (Str × Str × Nat) := [("NoCall", "at", 6), ("NoCall", "at", 7), ("Refused", "at", 7)]
def SP : List (Str × Str × Nat) := S1 ++ (S2 ++ (S3 ++ (S4 ++ S5)))
/-- how it stands when all is made -/
structure E01 (sc : Val) (n a b : Nat) (e : Mi.Env) : Prop where
  hl : e.length = 11
  h0 : e[0]? = some (some sc)
  h3 : e[3]? = some (some (.lst (rfs (n + 4) 5)))
  h4 : e[4]? = some (some (.lst (rfs (n + 9) 4)))
  h5 : e[5]? = some (some (.lst (rfs (n + 13) 3)))
  h6 : e[6]? = some (some (.ref a))
  h7 : e[7]? = some (some (.ref b))
  h8 : e[8]? = some (some (.lst (rfs n 2)))
  h9 : e[9]? = some (some (.lst (rfs (n + 2) 2)))
abbrev VV (a b : Nat) : Nat → Val := fun i => if i = 6 then .ref a else .ref b
structure St01 (n a b : Nat) (A B : List Val) (s : Sto) : Prop where
  at_ : ∀ (k : Nat) (c f : Str) (i : Nat), SP[k]? = some (c, f, i) → s[n + k]? = some (.exo c [f] [VV a b i])
  ha : s[a]? = some (.lst A)
  hb : s[b]? = some (.lst B)
theorem exoF_ok {st : Sto} {r : Nat} {c f : Str} {v : Val} {t : Str → Bool} {e : Mi.Env} {i : Nat} (hi : e[i]? = some (some (.ref r))) (h : st[r]? = some (.exo c [f] [v])) (ht : t c = true) : un (exoF t f) (var i) e st = some (.ok v, st) := by
  refine un_ok (Mi.var_at hi) ?_
  unfold exoF
  dsimp only
  rw [h]
  dsimp only
  rw [if_pos ht]
  simp [fieldOf]
section
variable {sc : Val} {n a b : Nat} {A B : List Val} {e : Mi.Env} {s : Sto}
/-- the fields of errors from k on, l of them -/
theorem flds {k l : Nat} {f : Str} {t : Str → Bool} {mi : M (List Val)} (hl : e.length = 11) (Z : St01 n a b A B s) (hm : mi e s = some (.ok (rfs (n + k) l), s)) (hl2 : l ≤ 20) (g : Nat → Val)
    (h : ∀ j, j < l → ∃ c i, SP[k + j]? = some (c, f, i) ∧ t c = true ∧ VV a b i = g j) : comp mi (.name 10) [10] yes (un (exoF t f) (var 10)) e s = some (.ok (.lst ((List.range l).map g)), s) :=
  comp_name (enc := fun j => Val.ref (n + k + j)) (g := g) hm (by rw [List.length_range]; omega) fun j hj => by
    obtain ⟨c, i, h1, h2, h3⟩ := h j (List.mem_range.mp hj)
    have := Z.at_ _ _ _ _ h1
    rw [h3] at this
    exact exoF_ok (r := n + k + j) (g_eq (by rw [List.length_set, hl]; decide)) (by rw [Nat.add_assoc]; exact this) h2
theorem rfs_app {n k l : Nat} : rfs n k ++ rfs (n + k) l = rfs n (k + l) := by
  unfold rfs
  rw [List.range_add, List.map_append, List.map_map]
  refine congrArg _ (List.map_congr_left fun j _ => ?_)
  show Val.ref (n + k + j) = Val.ref (n + (k + j))
  rw [Nat.add_assoc]
theorem rest01 (E : E01 sc n a b e) (Z : St01 n a b A B s) (hA : Ths A 20 3000) (hB : Ths B 20 3000) : Runs (u_8 e s) fun r e' _ => r = .next ∧ e'.length = 11 ∧ e'[0]? = some (some sc) := by
  have adl : ∀ xs ys : List Val, xs.length + ys.length ≤ 40 → addV s (.lst xs) (.lst ys) = some (.lst (xs ++ ys)) := fun xs ys hl => by
    show (if xs.length + ys.length ≤ 16000000 then some (Val.lst (xs ++ ys)) else none) = _
    rw [if_pos (by omega)]
  have rl : ∀ n k : Nat, (rfs n k).length = k := fun n k => by unfold rfs; rw [List.length_map, List.length_range]
  have ns : ∀ t : Str, neV s (.str t) (.str t) = some (.bl false) := fun t => by
    show some (Val.bl (!(t == t))) = _
    rw [beq_self_eq_true]
    rfl
  have same : ∀ {zs : List Val} {m1 m2 : M (List Val)}, (∀ z ∈ zs, z = .ref a ∨ z = .ref b) → zs.length ≤ 20 → m1 e s = some (.ok [.lst zs], s) → m2 e s = some (.ok [.lst zs], s) → asB (bin neV (app reprDV m1) (app reprDV m2)) e s = some (.ok false, s) := fun {zs m1 m2} hz hl h1 h2 => by
    obtain ⟨t, ht⟩ := reprD_ok Z.ha Z.hb hA hB hz hl
    exact asB_ok (bin_ok (app_ok h1 ht) (app_ok h2 ht) (ns t))
  -- the words
  have c8 : comp (itS (bin addV (var 8) (var 9))) (.name 10) [10] yes (un (exoF (ownL ["InvalidCall", "InvalidVoice"]) "word") (var 10)) e s = some (.ok (.lst [.ref a, .ref a, .ref b, .ref b]), s) :=
    flds (k := 0) (l := 4) E.hl Z (itS_ok (v := .lst (rfs n 4)) (bin_ok (Mi.var_at E.h8) (Mi.var_at E.h9) ((adl _ _ (by rw [rl, rl]; decide)).trans (by rw [rfs_app]))) rfl) (by decide) (fun j => if j < 2 then .ref a else .ref b) fun j hj => by
      match j, hj with
      | 0, _ => exact ⟨_, _, rfl, by decide +kernel, rfl⟩
      | 1, _ => exact ⟨_, _, rfl, by decide +kernel, rfl⟩
      | 2, _ => exact ⟨_, _, rfl, by decide +kernel, rfl⟩
      | 3, _ => exact ⟨_, _, rfl, by decide +kernel, rfl⟩
  have m8 : mkLst (consM (var 6) (consM (var 6) (consM (var 7) (consM (var 7) nilM)))) e s = some (.ok (.lst [.ref a, .ref a, .ref b, .ref b]), s) := mkLst_ok (consM_ok (Mi.var_at E.h6) (consM_ok (Mi.var_at E.h6) (consM_ok (Mi.var_at E.h7) (consM_ok (Mi.var_at E.h7) nilM_ok)))) (by show 4 ≤ 16000000; decide)
  rw [u_8_eq]
  refine Runs.seq ⟨.next, e, s, (sIf_false (same (by simp) (by simp) (consM_ok c8 nilM_ok) (consM_ok m8 nilM_ok))).trans rfl, rfl, ?_⟩
  have c9 : comp (itS (bin addV (var 3) (var 4))) (.name 10) [10] yes (un (exoF (ownL ["InvalidText", "InvalidRoad", "InvalidGoing", "InvalidHeard", "Refused", "NoCall"]) "at") (var 10)) e s = some (.ok (.lst [.ref a, .ref a, .ref a, .ref a, .ref a, .ref b, .ref b, .ref b, .ref b]), s) :=
    flds (k := 4) (l := 9) E.hl Z (itS_ok (v := .lst (rfs (n + 4) 9)) (bin_ok (Mi.var_at E.h3) (Mi.var_at E.h4) ((adl _ _ (by rw [rl, rl]; decide)).trans (by rw [show n + 9 = n + 4 + 5 from rfl, rfs_app]))) rfl) (by decide) (fun j => if j < 5 then .ref a else .ref b) fun j hj => by
      match j, hj with
      | 0, _ => exact ⟨_, _, rfl, by decide +kernel, rfl⟩
      | 1, _ => exact ⟨_, _, rfl, by decide +kernel, rfl⟩
      | 2, _ => exact ⟨_, _, rfl, by decide +kernel, rfl⟩
      | 3, _ => exact ⟨_, _, rfl, by decide +kernel, rfl⟩
      | 4, _ => exact ⟨_, _, rfl, by decide +kernel, rfl⟩
      | 5, _ => exact ⟨_, _, rfl, by decide +kernel, rfl⟩
      | 6, _ => exact ⟨_, _, rfl, by decide +kernel, rfl⟩
      | 7, _ => exact ⟨_, _, rfl, by decide +kernel, rfl⟩
      | 8, _ => exact ⟨_, _, rfl, by decide +kernel, rfl⟩
  have one : ∀ (i r : Nat), e[i]? = some (some (.ref r)) → mkLst (consM (var i) nilM) e s = some (.ok (.lst [.ref r]), s) := fun i r h => mkLst_ok (consM_ok (Mi.var_at h) nilM_ok) (by show 1 ≤ 16000000; decide)
  have ml : ∀ (r : Nat) (j : Nat), j ≤ 5 → mulV s (.lst [.ref r]) (.int (j : Int)) = some (.lst (List.replicate j [.ref r]).flatten) := fun r j hj => by
    show (if [Val.ref r].length * ((j : Int)).toNat ≤ 16000000 ∧ -(2 ^ 63) ≤ (j : Int) ∧ (j : Int) < 2 ^ 63 then some (Val.lst (List.replicate ((j : Int)).toNat [Val.ref r]).flatten) else none) = _
    rw [Int.toNat_natCast, if_pos ⟨by simp; omega, by omega, by omega⟩]
  have m9 : bin addV (bin mulV (mkLst (consM (var 6) nilM)) (ret (.int 5))) (bin mulV (mkLst (consM (var 7) nilM)) (ret (.int 4))) e s = some (.ok (.lst [.ref a, .ref a, .ref a, .ref a, .ref a, .ref b, .ref b, .ref b, .ref b]), s) :=
    bin_ok (bin_ok (one 6 a E.h6) (y := .int 5) rfl (ml a 5 (by decide))) (bin_ok (one 7 b E.h7) (y := .int 4) rfl (ml b 4 (by decide))) (adl _ _ (by simp))
  rw [u_9_eq]
  refine Runs.seq ⟨.next, e, s, (sIf_false (same (by simp) (by simp) (consM_ok c9 nilM_ok) (consM_ok m9 nilM_ok))).trans rfl, rfl, ?_⟩
  have c10 : comp (itS (var 5)) (.name 10) [10] yes (un (exoF (ownL ["InvalidText", "InvalidRoad", "InvalidGoing", "InvalidHeard", "Refused", "NoCall"]) "at") (var 10)) e s = some (.ok (.lst [.ref a, .ref b, .ref b]), s) :=
    flds (k := 13) (l := 3) E.hl Z (itS_ok (v := .lst (rfs (n + 13) 3)) (Mi.var_at E.h5) rfl) (by decide) (fun j => if j < 1 then .ref a else .ref b) fun j hj => by
      match j, hj with
      | 0, _ => exact ⟨_, _, rfl, by decide +kernel, rfl⟩
      | 1, _ => exact ⟨_, _, rfl, by decide +kernel, rfl⟩
      | 2, _ => exact ⟨_, _, rfl, by decide +kernel, rfl⟩
  have m10 : mkLst (consM (var 6) (consM (var 7) (consM (var 7) nilM))) e s = some (.ok (.lst [.ref a, .ref b, .ref b]), s) := mkLst_ok (consM_ok (Mi.var_at E.h6) (consM_ok (Mi.var_at E.h7) (consM_ok (Mi.var_at E.h7) nilM_ok))) (by show 3 ≤ 16000000; decide)
  rw [u_10_eq]
  refine Runs.seq ⟨.next, e, s, (sIf_false (same (by simp) (by simp) (consM_ok c10 nilM_ok) (consM_ok m10 nilM_ok))).trans rfl, rfl, ?_⟩
  -- the classes
  have own : ∀ {k l first : Nat} {m : M Val}, m e s = some (.ok (.lst (rfs (n + k) l)), s) → l ≤ 10 → (∀ j, j < l → ∃ c f i, SP[k + j]? = some (c, f, i) ∧ clsL[first + j]? = some c) → callM 2 c_l_are_own [] (consM m (consM (ret (.int (first : Int))) nilM)) e s = some (.ok (.bl true), s) := fun {k l first m} hm hl h => by
    have e1 : rfs (n + k) l = ((List.range l).map fun j => n + k + j).map Val.ref := by
      unfold rfs
      rw [List.map_map]
      rfl
    have := are_own_ok (st := s) (rs := (List.range l).map fun j => n + k + j) (first := first) (fun i r hr => by
      rw [List.getElem?_map] at hr
      cases q : (List.range l)[i]? with
      | none =>
        rw [q] at hr
        cases hr
      | some j =>
        rw [q] at hr
        have il : i < l := by
          have := (List.getElem?_eq_some_iff.mp q).1
          rwa [List.length_range] at this
        have ej : j = i := by
          rw [List.getElem?_range il] at q
          exact (Option.some.inj q).symm
        subst ej
        have hr' : n + k + j = r := Option.some.inj hr
        obtain ⟨c, f, i, h1, h2⟩ := h j il
        have := Z.at_ _ _ _ _ h1
        rw [← Nat.add_assoc, hr'] at this
        exact ⟨c, _, _, h2, this⟩) (by rw [List.length_map, List.length_range]; exact hl)
    rw [← e1] at this
    exact callM_ok (n := 2) (consM_ok hm (consM_ok (v := .int (first : Int)) rfl nilM_ok)) rfl this
  have o1 : callM 2 c_l_are_own [] (consM (var 8) (consM (ret (.int 0)) nilM)) e s = some (.ok (.bl true), s) := own (k := 0) (l := 2) (first := 0) (Mi.var_at E.h8) (by decide) fun j hj => by
    match j, hj with
    | 0, _ => exact ⟨_, _, _, rfl, rfl⟩
    | 1, _ => exact ⟨_, _, _, rfl, rfl⟩
  have o3 : callM 2 c_l_are_own [] (consM (var 3) (consM (ret (.int 2)) nilM)) e s = some (.ok (.bl true), s) := own (k := 4) (l := 5) (first := 2) (Mi.var_at E.h3) (by decide) fun j hj => by
    match j, hj with
    | 0, _ => exact ⟨_, _, _, rfl, rfl⟩
    | 1, _ => exact ⟨_, _, _, rfl, rfl⟩
    | 2, _ => exact ⟨_, _, _, rfl, rfl⟩
    | 3, _ => exact ⟨_, _, _, rfl, rfl⟩
    | 4, _ => exact ⟨_, _, _, rfl, rfl⟩
  have o2 : callM 2 c_l_are_own [] (consM (bin addV (var 9) (var 4)) (consM (ret (.int 0)) nilM)) e s = some (.ok (.bl true), s) := by
    have m : bin addV (var 9) (var 4) e s = some (.ok (.lst (([n + 2, n + 3, n + 9, n + 10, n + 11, n + 12] : List Nat).map .ref)), s) := bin_ok (Mi.var_at E.h9) (Mi.var_at E.h4) (adl _ _ (by rw [rl, rl]; decide))
    refine callM_ok (n := 2) (consM_ok m (consM_ok (v := .int ((0 : Nat) : Int)) rfl nilM_ok)) rfl (are_own_ok (first := 0) (fun i r hr => ?_) (by simp))
    match i, hr with
    | 0, hr => cases hr; exact ⟨_, _, _, rfl, Z.at_ 2 _ _ _ rfl⟩
    | 1, hr => cases hr; exact ⟨_, _, _, rfl, Z.at_ 3 _ _ _ rfl⟩
    | 2, hr => cases hr; exact ⟨_, _, _, rfl, Z.at_ 9 _ _ _ rfl⟩
    | 3, hr => cases hr; exact ⟨_, _, _, rfl, Z.at_ 10 _ _ _ rfl⟩
    | 4, hr => cases hr; exact ⟨_, _, _, rfl, Z.at_ 11 _ _ _ rfl⟩
    | 5, hr => cases hr; exact ⟨_, _, _, rfl, Z.at_ 12 _ _ _ rfl⟩
  rw [u_11_eq]
  refine Runs.seq ⟨.next, e, s, (sIf_false (orB_ff (notB_ok (asB_ok o1)) (orB_ff (notB_ok (asB_ok o2)) (notB_ok (asB_ok o3))))).trans rfl, rfl, ?_⟩
  -- the last ones
  have ix : ∀ (j : Nat) (s' : Sto), j < 3 → bin idxV (var 5) (ret (.int (j : Int))) e s' = some (.ok (.ref (n + 13 + j)), s') := fun j s' hj => by
    refine bin_ok (Mi.var_at E.h5) (y := .int (j : Int)) rfl ?_
    show atI (rfs (n + 13) 3) (j : Int) = _
    rw [atI_nat]
    match j, hj with
    | 0, _ => rfl
    | 1, _ => rfl
    | 2, _ => rfl
  let X1 : SO := .exo "InvalidFault" [] []
  let X2 : SO := .exo "InvalidCommand" [] []
  have mf : ∀ (c : Str) (s' : Sto), mkX c [] nilM e s' = some (.ok (.ref s'.length), s' ++ [.exo c [] []]) := fun c s' => by
    unfold mkX
    rw [bnd_ok nilM_ok]
    rfl
  have m4 : mkLst (consM (bin idxV (var 5) (ret (.int 2))) (consM (mkX "InvalidFault" [] nilM) (consM (mkX "InvalidCommand" [] nilM) (consM (bin idxV (var 5) (ret (.int 0))) nilM)))) e s = some (.ok (.lst (([n + 13 + 2, s.length, (s ++ [X1]).length, n + 13 + 0] : List Nat).map .ref)), (s ++ [X1]) ++ [X2]) :=
    mkLst_ok (consM_ok (ix 2 s (by decide)) (consM_ok (mf "InvalidFault" s) (consM_ok (mf "InvalidCommand" (s ++ [X1])) (consM_ok (ix 0 ((s ++ [X1]) ++ [X2]) (by decide)) nilM_ok)))) (by show 4 ≤ 16000000; decide)
  have up : ∀ (i : Nat) (o : SO), s[i]? = some o → ((s ++ [X1]) ++ [X2])[i]? = some o := fun i o h => by
    have hi := (List.getElem?_eq_some_iff.mp h).1
    rw [List.getElem?_append_left (by rw [List.length_append]; omega), List.getElem?_append_left hi]
    exact h
  have k4 : callM 2 c_l_are_own [] (consM (mkLst (consM (bin idxV (var 5) (ret (.int 2))) (consM (mkX "InvalidFault" [] nilM) (consM (mkX "InvalidCommand" [] nilM) (consM (bin idxV (var 5) (ret (.int 0))) nilM))))) (consM (ret (.int 6)) nilM)) e s = some (.ok (.bl true), (s ++ [X1]) ++ [X2]) := by
    refine callM_ok (n := 2) (consM_ok m4 (consM_ok (v := .int ((6 : Nat) : Int)) rfl nilM_ok)) rfl (are_own_ok (first := 6) (fun i r hr => ?_) (by simp))
    match i, hr with
    | 0, hr => cases hr; exact ⟨_, _, _, rfl, up _ _ (Z.at_ 15 _ _ _ rfl)⟩
    | 1, hr => cases hr; exact ⟨_, _, _, rfl, by rw [List.getElem?_append_left (by simp)]; simp; rfl⟩
    | 2, hr => cases hr; exact ⟨_, _, _, rfl, by rw [List.getElem?_append_right (Nat.le_refl _), Nat.sub_self]; rfl⟩
    | 3, hr => cases hr; exact ⟨_, _, _, rfl, up _ _ (Z.at_ 13 _ _ _ rfl)⟩
  have k5 : callM 2 c_l_are_own [] (consM (mkLst (consM (bin idxV (var 5) (ret (.int 1))) nilM)) (consM (ret (.int 9)) nilM)) e ((s ++ [X1]) ++ [X2]) = some (.ok (.bl true), (s ++ [X1]) ++ [X2]) := by
    have m5 : mkLst (consM (bin idxV (var 5) (ret (.int 1))) nilM) e ((s ++ [X1]) ++ [X2]) = some (.ok (.lst (([n + 13 + 1] : List Nat).map .ref)), (s ++ [X1]) ++ [X2]) := mkLst_ok (consM_ok (ix 1 _ (by decide)) nilM_ok) (by show 1 ≤ 16000000; decide)
    refine callM_ok (n := 2) (consM_ok m5 (consM_ok (v := .int ((9 : Nat) : Int)) rfl nilM_ok)) rfl (are_own_ok (first := 9) (fun i r hr => ?_) (by simp))
    match i, hr with
    | 0, hr => cases hr; exact ⟨_, _, _, rfl, up _ _ (Z.at_ 14 _ _ _ rfl)⟩
  rw [u_12_eq]
  exact ⟨.next, e, _, (sIf_false (orB_ff (notB_ok (asB_ok k4)) (notB_ok (asB_ok k5)))).trans rfl, rfl, E.hl, E.h0⟩
end
theorem ths2 {v : Val} {A : List Val} (h : ∀ x ∈ A, Th x 6 500) (hl : A.length ≤ 4) : Ths A 20 3000 := by
  obtain ⟨n, ds, e, h1, h2, h3, h4, h5⟩ := ths_of h
  exact ⟨n, ds, e, h1, h2, h3, by have := Nat.mul_le_mul_right (500 + 1) hl; omega, by omega⟩
theorem th_int1 : Th (.int 1) 6 500 := (menu_ok (.int 1) (by simp [menu])).mono (by decide) (by decide)
theorem th_x {t : Str} (h : thB (.str t) = true) : Th (.str t) 6 500 := (thB_ok h).mono (by decide) (by decide)
theorem turn01 {ns : List Int} {t : Nat} {e : Mi.Env} {st : Sto} (hn : ns.length ≤ 63) (ht : t ≤ 5) (hl : e.length = 11) (h0 : e[0]? = some (some (.rol (ns.map .int)))) (h1 : e[1]? = some (some (.int (t : Int)))) : Runs (u_0 e st) fun r e' _ => r = .next ∧ e'.length = 11 ∧ e'[0]? = some (some (.rol (ns.map .int))) := by
  obtain ⟨s0, g, q0, e0, gl, d0⟩ := deal_ok (ns := ns) (b := (t : Int)) (st := st) hn (by omega) (by omega)
  have m0 : callM 2 c_l_deal [] (consM (var 0) (consM (var 1) nilM)) e st = some (.ok (.ref (st.length + 1)), s0) := callM_ok (n := 2) (consM_ok (Mi.var_at h0) (consM_ok (Mi.var_at h1) nilM_ok)) rfl q0
  obtain ⟨D, hD⟩ : ∃ D, st.length + 1 = D := ⟨_, rfl⟩
  obtain ⟨c, hc⟩ : ∃ c, st.length = c := ⟨_, rfl⟩
  rw [hD] at m0 d0
  rw [hc] at d0
  rw [u_0_eq]
  refine Runs.seq ⟨.next, _, _, sSet_ok (i := 2) m0, rfl, ?_⟩
  have a0 : (e.set 2 (some (.ref D)))[0]? = some (some (.rol (ns.map .int))) := by rw [g_ne (by decide)]; exact h0
  have a2 : (e.set 2 (some (.ref D)))[2]? = some (some (.ref D)) := g_eq (by omega)
  have al : (e.set 2 (some (.ref D))).length = 11 := by rw [List.length_set]; exact hl
  generalize e.set 2 (some (.ref D)) = e1 at a0 a2 al ⊢
  -- the two things
  obtain ⟨v, s1, q1, T1, d1, f1⟩ := thing_ok (D := D) (c := c) 5 (p := 3) (st := s0) (by decide) d0
  obtain ⟨w, s2, q2, T2, d2, f2⟩ := thing_ok (D := D) (c := c) 5 (p := 2) (st := s1 ++ [.lst [v, .str "x"]]) (by decide) d1.app
  obtain ⟨hD1, hC1⟩ := d1.lt
  have l2 : s2.length = s1.length + 1 := by rw [f2.1, List.length_append]; rfl
  have k1 : mkLstM (consM (callM 2 c_l_thing [] (consM (var 2) (consM (ret (.int 3)) nilM))) (consM (ret (.str "x")) nilM)) e1 s0 = some (.ok (.ref s1.length), s1 ++ [.lst [v, .str "x"]]) :=
    mkLstM_ok (consM_ok (callM_ok (n := 2) (consM_ok (Mi.var_at a2) (consM_ok (v := .int 3) rfl nilM_ok)) rfl q1) (consM_ok (v := .str "x") rfl nilM_ok)) (by show 2 ≤ 16000000; decide)
  have k2 : mkLstM (consM (callM 2 c_l_thing [] (consM (var 2) (consM (ret (.int 2)) nilM))) nilM) e1 (s1 ++ [.lst [v, .str "x"]]) = some (.ok (.ref s2.length), s2 ++ [.lst [w]]) :=
    mkLstM_ok (consM_ok (callM_ok (n := 2) (consM_ok (Mi.var_at a2) (consM_ok (v := .int 2) rfl nilM_ok)) rfl q2) nilM_ok) (by show 1 ≤ 16000000; decide)
  obtain ⟨a, ha⟩ : ∃ a, s1.length = a := ⟨_, rfl⟩
  rw [ha] at k1
  rw [l2, ha] at k2
  have at2 : s2[a]? = some (.lst [v, .str "x"]) := by
    rw [f2.2 a (by omega) (by omega), List.getElem?_append_right (by omega), ha, Nat.sub_self]
    rfl
  have at3a : (s2 ++ [SO.lst [w]])[a]? = some (.lst [v, .str "x"]) := by
    rw [List.getElem?_append_left (by omega)]
    exact at2
  have at3b : (s2 ++ [SO.lst [w]])[a + 1]? = some (.lst [w]) := by
    rw [List.getElem?_append_right (by omega), l2, ha, Nat.sub_self]
    rfl
  have len3 : (s2 ++ [SO.lst [w]]).length = a + 2 := by rw [List.length_append, l2, ha]; rfl
  rw [u_1_eq]
  refine Runs.seq ⟨.next, (e1.set 6 (some (.ref a))).set 7 (some (.ref (a + 1))), s2 ++ [.lst [w]], (by rw [x_sPar, consM_ok k1 (consM_ok k2 nilM_ok)]; rfl), rfl, ?_⟩
  have b0 : ((e1.set 6 (some (.ref a))).set 7 (some (.ref (a + 1))))[0]? = some (some (.rol (ns.map .int))) := by rw [g_ne (by decide), g_ne (by decide)]; exact a0
  have b6 : ((e1.set 6 (some (.ref a))).set 7 (some (.ref (a + 1))))[6]? = some (some (VV a (a + 1) 6)) := by rw [g_ne (by decide)]; exact g_eq (by omega)
  have b7 : ((e1.set 6 (some (.ref a))).set 7 (some (.ref (a + 1))))[7]? = some (some (VV a (a + 1) 7)) := g_eq (by rw [List.length_set]; omega)
  have bl : ((e1.set 6 (some (.ref a))).set 7 (some (.ref (a + 1)))).length = 11 := by simp [al]
  generalize (e1.set 6 (some (.ref a))).set 7 (some (.ref (a + 1))) = e2 at b0 b6 b7 bl ⊢
  generalize s2 ++ [SO.lst [w]] = s3 at at3a at3b len3 ⊢
  obtain ⟨V, hV⟩ : ∃ V, VV a (a + 1) = V := ⟨_, rfl⟩
  rw [hV] at b6 b7
  have mm : ∀ {e : Mi.Env} (l : List (Str × Str × Nat)) {s : Sto}, e[6]? = some (some (V 6)) → e[7]? = some (some (V 7)) → (∀ p ∈ l, p.2.2 = 6 ∨ p.2.2 = 7) → l.length ≤ 20 → mkLst (mks l) e s = some (.ok (.lst (rfs s.length l.length)), s ++ exs V l) := fun {e} l {s} h6 h7 h hl => mkl_ok (fun p hp => by
    rcases h p hp with z | z <;> rw [z] <;> assumption) hl
  -- the errors
  obtain ⟨n, hN⟩ : ∃ n, a + 2 = n := ⟨_, rfl⟩
  rw [hN] at len3
  have ex : ∀ l : List (Str × Str × Nat), (exs V l).length = l.length := fun l => by unfold exs; rw [List.length_map]
  have r1 := mm (e := e2) S1 (s := s3) b6 b7 (by decide) (by decide)
  have r2 := mm (e := e2) S2 (s := s3 ++ exs V S1) b6 b7 (by decide) (by decide)
  rw [len3] at r1
  rw [List.length_append, ex, len3] at r2
  rw [u_2_eq]
  refine Runs.seq ⟨.next, (e2.set 8 (some (.lst (rfs n 2)))).set 9 (some (.lst (rfs (n + 2) 2))), (s3 ++ exs V S1) ++ exs V S2, (by
    have : consM (mkLst (mks S1)) (consM (mkLst (mks S2)) nilM) e2 s3 = _ := consM_ok r1 (consM_ok r2 nilM_ok)
    exact (x_sPar (i := 8) (j := 9) (ms := consM (mkLst (mks S1)) (consM (mkLst (mks S2)) nilM))).trans (by rw [this]; rfl)), rfl, ?_⟩
  have c0 : ((e2.set 8 (some (.lst (rfs n 2)))).set 9 (some (.lst (rfs (n + 2) 2))))[0]? = some (some (.rol (ns.map .int))) := by rw [g_ne (by decide), g_ne (by decide)]; exact b0
  have c6 : ((e2.set 8 (some (.lst (rfs n 2)))).set 9 (some (.lst (rfs (n + 2) 2))))[6]? = some (some (V 6)) := by rw [g_ne (by decide), g_ne (by decide)]; exact b6
  have c7 : ((e2.set 8 (some (.lst (rfs n 2)))).set 9 (some (.lst (rfs (n + 2) 2))))[7]? = some (some (V 7)) := by rw [g_ne (by decide), g_ne (by decide)]; exact b7
  have c8 : ((e2.set 8 (some (.lst (rfs n 2)))).set 9 (some (.lst (rfs (n + 2) 2))))[8]? = some (some (.lst (rfs n 2))) := by rw [g_ne (by decide)]; exact g_eq (by omega)
  have c9 : ((e2.set 8 (some (.lst (rfs n 2)))).set 9 (some (.lst (rfs (n + 2) 2))))[9]? = some (some (.lst (rfs (n + 2) 2))) := g_eq (by rw [List.length_set]; omega)
  have cl : ((e2.set 8 (some (.lst (rfs n 2)))).set 9 (some (.lst (rfs (n + 2) 2)))).length = 11 := by simp [bl]
  generalize (e2.set 8 (some (.lst (rfs n 2)))).set 9 (some (.lst (rfs (n + 2) 2))) = e3 at c0 c6 c7 c8 c9 cl ⊢
  have r3 := mm (e := e3) S3 (s := (s3 ++ exs V S1) ++ exs V S2) c6 c7 (by decide) (by decide)
  rw [List.length_append, List.length_append, ex, ex, len3] at r3
  rw [u_3_eq]
  refine Runs.seq ⟨.next, e3.set 3 (some (.lst (rfs (n + 4) 5))), ((s3 ++ exs V S1) ++ exs V S2) ++ exs V S3, sSet_ok (i := 3) r3, rfl, ?_⟩
  have r4 := mm (e := e3.set 3 (some (.lst (rfs (n + 4) 5)))) S4 (s := ((s3 ++ exs V S1) ++ exs V S2) ++ exs V S3) (by rw [g_ne (by decide)]; exact c6) (by rw [g_ne (by decide)]; exact c7) (by decide) (by decide)
  rw [List.length_append, List.length_append, List.length_append, ex, ex, ex, len3] at r4
  rw [u_4_eq]
  refine Runs.seq ⟨.next, (e3.set 3 (some (.lst (rfs (n + 4) 5)))).set 4 (some (.lst (rfs (n + 9) 4))), (((s3 ++ exs V S1) ++ exs V S2) ++ exs V S3) ++ exs V S4, sSet_ok (i := 4) r4, rfl, ?_⟩
  have r5 := mm (e := (e3.set 3 (some (.lst (rfs (n + 4) 5)))).set 4 (some (.lst (rfs (n + 9) 4)))) S5 (s := (((s3 ++ exs V S1) ++ exs V S2) ++ exs V S3) ++ exs V S4) (by rw [g_ne (by decide), g_ne (by decide)]; exact c6) (by rw [g_ne (by decide), g_ne (by decide)]; exact c7) (by decide) (by decide)
  rw [List.length_append, List.length_append, List.length_append, List.length_append, ex, ex, ex, ex, len3] at r5
  rw [u_5_eq]
  refine Runs.seq ⟨.next, ((e3.set 3 (some (.lst (rfs (n + 4) 5)))).set 4 (some (.lst (rfs (n + 9) 4)))).set 5 (some (.lst (rfs (n + 13) 3))), ((((s3 ++ exs V S1) ++ exs V S2) ++ exs V S3) ++ exs V S4) ++ exs V S5, sSet_ok (i := 5) r5, rfl, ?_⟩
  have hst : ((((s3 ++ exs V S1) ++ exs V S2) ++ exs V S3) ++ exs V S4) ++ exs V S5 = s3 ++ exs V SP := by
    unfold SP exs
    simp only [List.map_append, List.append_assoc]
  rw [hst]
  have E : E01 (.rol (ns.map .int)) n a (a + 1) (((e3.set 3 (some (.lst (rfs (n + 4) 5)))).set 4 (some (.lst (rfs (n + 9) 4)))).set 5 (some (.lst (rfs (n + 13) 3)))) := by
    refine ⟨by simp [cl], ?_, ?_, ?_, ?_, ?_, ?_, ?_, ?_⟩
    · rw [g_ne (by decide), g_ne (by decide), g_ne (by decide)]; exact c0
    · rw [g_ne (by decide), g_ne (by decide)]; exact g_eq (by omega)
    · rw [g_ne (by decide)]; exact g_eq (by rw [List.length_set]; omega)
    · exact g_eq (by rw [List.length_set, List.length_set]; omega)
    · rw [g_ne (by decide), g_ne (by decide), g_ne (by decide), c6, ← hV]; rfl
    · rw [g_ne (by decide), g_ne (by decide), g_ne (by decide), c7, ← hV]; rfl
    · rw [g_ne (by decide), g_ne (by decide), g_ne (by decide)]; exact c8
    · rw [g_ne (by decide), g_ne (by decide), g_ne (by decide)]; exact c9
  generalize ((e3.set 3 (some (.lst (rfs (n + 4) 5)))).set 4 (some (.lst (rfs (n + 9) 4)))).set 5 (some (.lst (rfs (n + 13) 3))) = e4 at E ⊢
  -- more behind the call
  have a4 : (s3 ++ exs V SP)[a]? = some (.lst [v, .str "x"]) := by rw [List.getElem?_append_left (by omega)]; exact at3a
  have b4 : (s3 ++ exs V SP)[a + 1]? = some (.lst [w]) := by rw [List.getElem?_append_left (by omega)]; exact at3b
  have k4 : ∀ (k : Nat) (c f : Str) (i : Nat), SP[k]? = some (c, f, i) → (s3 ++ exs V SP)[n + k]? = some (.exo c [f] [V i]) := fun k c f i h => by
    rw [List.getElem?_append_right (by omega), len3, Nat.add_sub_cancel_left]
    unfold exs
    rw [List.getElem?_map, h]
    rfl
  generalize s3 ++ exs V SP = s4 at a4 b4 k4 ⊢
  have la : ∀ (s : Sto) (r : Nat) (X : List Val), s[r]? = some (.lst X) → lstOf s (.ref r) = some X := fun s r X h => lstOf_ref h
  rw [u_6_eq]
  refine Runs.seq ⟨.next, e4, s4.set a (.lst [v, .str "x", .int 1]), sExpr_ok (lm_ok (x := .ref a) (Mi.var_at E.h6) (la _ _ _ a4) (consM_ok (v := .int 1) rfl nilM_ok) (app_ref a4 (by show 2 < 16000000; decide))), rfl, ?_⟩
  have b5 : (s4.set a (.lst [v, .str "x", .int 1]))[a + 1]? = some (.lst [w]) := by rw [List.getElem?_set_ne (by omega)]; exact b4
  rw [u_7_eq]
  refine Runs.seq ⟨.next, e4, (s4.set a (.lst [v, .str "x", .int 1])).set (a + 1) (.lst [w, .str "y"]), sExpr_ok (lm_ok (x := .ref (a + 1)) (Mi.var_at E.h7) (la _ _ _ b5) (consM_ok (v := .str "y") rfl nilM_ok) (app_ref b5 (by show 1 < 16000000; decide))), rfl, ?_⟩
  have Z : St01 n a (a + 1) [v, .str "x", .int 1] [w, .str "y"] ((s4.set a (.lst [v, .str "x", .int 1])).set (a + 1) (.lst [w, .str "y"])) := by
    refine ⟨fun k c f i h => ?_, ?_, ?_⟩
    · rw [List.getElem?_set_ne (by omega), List.getElem?_set_ne (by omega), hV]
      exact k4 k c f i h
    · rw [List.getElem?_set_ne (by omega), List.getElem?_set_self (Pg.at_lt a4)]
    · rw [List.getElem?_set_self (by rw [List.length_set]; exact Pg.at_lt b4)]
  have Tv : Th v 6 500 := T1.mono (by decide) (by decide)
  have Tw : Th w 6 500 := T2.mono (by decide) (by decide)
  have tx : Th (.str "x") 6 500 := th_x (by decide +kernel)
  have ty : Th (.str "y") 6 500 := th_x (by decide +kernel)
  refine rest01 E Z (ths2 (v := v) (fun x hx => ?_) (by simp)) (ths2 (v := v) (fun x hx => ?_) (by simp))
  · simp only [List.mem_cons, List.not_mem_nil, or_false] at hx
    rcases hx with rfl | rfl | rfl
    · exact Tv
    · exact tx
    · exact th_int1
  · simp only [List.mem_cons, List.not_mem_nil, or_false] at hx
    rcases hx with rfl | rfl
    · exact Tw
    · exact ty
theorem main : ∀ ns : List Int, ns.length ≤ 63 → (∀ i ∈ ns, Builtin.Int.intBits i ≤ 1048576) → ∃ env st', s_law (env0 11 [.rol (ns.map .int)]) [] = some (.ret (.bl true), env, st') := fun ns hn _ => by
  have R : Runs (s_law (env0 11 [.rol (ns.map .int)]) []) fun r _ _ => r = .ret (.bl true) := by
    rw [s_law_eq, w_0_eq]
    obtain ⟨k, hk, hm⟩ : ∃ k : Nat, k ≤ 5 ∧ (if (2 : Int) < (if (ns.length : Int) < 5 then (ns.length : Int) else 5) then (if (ns.length : Int) < 5 then (ns.length : Int) else 5) else 2) = (k : Int) := by
      by_cases z : (ns.length : Int) < 5
      · by_cases y : (2 : Int) < (ns.length : Int)
        · exact ⟨ns.length, by omega, by rw [if_pos z, if_pos y]⟩
        · exact ⟨2, by decide, by rw [if_pos z, if_neg y]; rfl⟩
      · exact ⟨5, by decide, by rw [if_neg z]; rfl⟩
    have lr : ∀ st, lenV st [.rol (ns.map .int)] = some (.int (ns.length : Int)) := fun st => by
      show some (Val.int ((ns.map Val.int).length : Int)) = _
      rw [List.length_map]
    refine Runs.seq (runs_for (fun m e s => e.length = 11 ∧ e[0]? = some (some (.rol (ns.map .int)))) (xs := (List.range k).map fun (n : Nat) => Val.int (0 + n)) (s1 := []) ((rng1_ok (j := (k : Int)) (s1 := []) ?_ (by omega) (by omega)).trans (by rfl)) ⟨rfl, rfl⟩ (fun m x e s hx ⟨i1, i2⟩ => ?_) fun e s ⟨i1, i2⟩ => ⟨rfl, ?_⟩)
    · have m2 : ∀ st, min2V st [.int 5, .int (ns.length : Int)] = some (.int (if (ns.length : Int) < 5 then (ns.length : Int) else 5)) := fun _ => rfl
      have m3 : ∀ st, max2V st [.int 2, .int (if (ns.length : Int) < 5 then (ns.length : Int) else 5)] = some (.int (k : Int)) := fun _ => by
        rw [← hm]
        rfl
      refine consM_ok (app_ok (consM_ok (v := .int 2) rfl (consM_ok (app_ok (consM_ok (v := .int 5) rfl (consM_ok (app_ok (consM_ok (v := .rol (ns.map .int)) rfl nilM_ok) (lr _)) nilM_ok)) (m2 _)) nilM_ok)) (m3 _)) nilM_ok
    · rw [List.getElem?_map] at hx
      cases q : (List.range k)[m]? with
      | none => rw [q] at hx; cases hx
      | some n =>
        rw [q] at hx
        have hx' : Val.int (0 + (n : Int)) = x := by simpa using hx
        subst hx'
        have hn2 : n < k := List.mem_range.mp (List.mem_of_getElem? q)
        refine ⟨e.set 1 (some (.int (0 + (n : Int)))), rfl, ?_⟩
        exact Runs.mono (turn01 hn (t := n) (by omega) (by rw [List.length_set]; exact i1) (by rw [List.getElem?_set_ne (by decide)]; exact i2) (by rw [List.getElem?_set_self (by omega), Int.zero_add])) fun r e s h => ⟨.inl h.1, h.2⟩
    · rw [w_1_eq]
      exact ⟨_, _, _, sRet_ok rfl, rfl⟩
  obtain ⟨r, e, s, h, rfl⟩ := R
  exact ⟨e, s, h⟩
end K01
namespace K01
open PySem PySem.Spec PyProof.Rows L2 Mi Pg LwA
theorem all_mk {P : Program} {w : World} {K : PySem.W.Frag} {h : Heap} {mg : Str → Option Value} {fa : Addr} (X : K.In h) (G : h.Ns mainGlobals mg) (hfa : mg "law" = some (.ref fa))
    {C_InvalidVoice : Addr} (a_InvalidVoice : PySem.W.nsIn K mainGlobals "InvalidVoice" = some (some (.ref C_InvalidVoice)))
    {C_InvalidCall : Addr} (a_InvalidCall : PySem.W.nsIn K mainGlobals "InvalidCall" = some (some (.ref C_InvalidCall)))
    {C_Refused : Addr} (a_Refused : PySem.W.nsIn K mainGlobals "Refused" = some (some (.ref C_Refused)))
    {C_InvalidHeard : Addr} (a_InvalidHeard : PySem.W.nsIn K mainGlobals "InvalidHeard" = some (some (.ref C_InvalidHeard)))
    {C_InvalidGoing : Addr} (a_InvalidGoing : PySem.W.nsIn K mainGlobals "InvalidGoing" = some (some (.ref C_InvalidGoing)))
    {C_InvalidRoad : Addr} (a_InvalidRoad : PySem.W.nsIn K mainGlobals "InvalidRoad" = some (some (.ref C_InvalidRoad)))
    {C_InvalidText : Addr} (a_InvalidText : PySem.W.nsIn K mainGlobals "InvalidText" = some (some (.ref C_InvalidText)))
    {C_NoCall : Addr} (a_NoCall : PySem.W.nsIn K mainGlobals "NoCall" = some (some (.ref C_NoCall)))
    {C_InvalidCommand : Addr} (a_InvalidCommand : PySem.W.nsIn K mainGlobals "InvalidCommand" = some (some (.ref C_InvalidCommand)))
    {C_InvalidFault : Addr} (a_InvalidFault : PySem.W.nsIn K mainGlobals "InvalidFault" = some (some (.ref C_InvalidFault)))
    {C_RoadError : Addr} (a_RoadError : PySem.W.nsIn K mainGlobals "RoadError" = some (some (.ref C_RoadError)))
    (eb_InvalidVoice : PySem.W.subIn K (.ref C_InvalidVoice) (.type "BaseException") = some true)
    (et_InvalidVoice : PySem.W.typeIn K (.ref C_InvalidVoice) = some (.type "type"))
    (ek_InvalidVoice : PySem.W.keepIn K (.ref C_InvalidVoice) = true)
    (eh_InvalidVoice : PySem.W.hasDictIn K C_InvalidVoice = true)
    (kr_InvalidVoice : PySem.W.excInitIn K C_InvalidVoice [.type "ValueError", .type "Exception", .type "BaseException", .type "object"] "ValueError.__new__" = true)
    (kr2_InvalidVoice : PySem.W.excOver K C_InvalidVoice [.type "ValueError", .type "Exception", .type "BaseException", .type "object"] = true)
    (kr3_InvalidVoice : PySem.W.ks_superIn K C_InvalidVoice C_InvalidVoice "__init__" = some (some (.builtin "ValueError.__init__")))
    (e_op : PySem.W.nsIn K cStatics "thirdparty.any" = some none)
    (e1_InvalidVoice : PySem.W.subIn K (.ref C_InvalidVoice) (.type "ValueError") = some true)
    (e2_InvalidVoice : PySem.W.mroIn K C_InvalidVoice (.ref C_InvalidVoice) = some true)
    (e3_InvalidVoice : PySem.W.findIn K (.ref C_InvalidVoice) "__setattr__" = some (some (.builtin "object.__setattr__")))
    (e4_InvalidVoice : PySem.W.takerIn K C_InvalidVoice "word" = some none)
    {fe_InvalidVoice cda_InvalidVoice cc_InvalidVoice : Addr} {oc_InvalidVoice kV_InvalidVoice dc_InvalidVoice pm_InvalidVoice ct_InvalidVoice cl1_InvalidVoice cl2_InvalidVoice : Value} {od_InvalidVoice an_InvalidVoice cd1_InvalidVoice cd2_InvalidVoice : Option Addr} {sl_InvalidVoice sl1_InvalidVoice sl2_InvalidVoice : Array (Option Value)} {vs_InvalidVoice : Array Value} {fi_InvalidVoice : Str} {tf_InvalidVoice : Tok}
    (e5_InvalidVoice : PySem.W.findIn K (.ref C_InvalidVoice) "__init__" = some (some (.ref fe_InvalidVoice)))
    (e6_InvalidVoice : PySem.W.typeIn K (.ref fe_InvalidVoice) = some (.type "function"))
    (e7_InvalidVoice : K.lookup fe_InvalidVoice = some ⟨oc_InvalidVoice, od_InvalidVoice, .func (PySem.W.ksFn "__init__" "InvalidVoice.__init__" (defArgs st_InvalidVoice_init) (defBody st_InvalidVoice_init) (defScope st_InvalidVoice_init) .none kV_InvalidVoice dc_InvalidVoice pm_InvalidVoice an_InvalidVoice (.ref cda_InvalidVoice) ct_InvalidVoice cc_InvalidVoice), sl_InvalidVoice⟩)
    (e8_InvalidVoice : PySem.W.codeIn K (.ref cda_InvalidVoice) "InvalidVoice.__init__" = true)
    (e9_InvalidVoice : K.lookup cda_InvalidVoice = some ⟨cl1_InvalidVoice, cd1_InvalidVoice, .fields vs_InvalidVoice, sl1_InvalidVoice⟩)
    (rr1_InvalidVoice : vs_InvalidVoice[2]? = some (.str fi_InvalidVoice tf_InvalidVoice))
    (rr2_InvalidVoice : ((P.main.file : Str) == fi_InvalidVoice) = true)
    (e0_InvalidVoice : K.lookup cc_InvalidVoice = some ⟨cl2_InvalidVoice, cd2_InvalidVoice, .cell (some (.ref C_InvalidVoice)), sl2_InvalidVoice⟩)
    (e_sup : PySem.W.nsIn K mainGlobals "super" = some none)
    (rr_top : (P.main.scope.names.lookup ("super" : Str)).isSome = false)
    (eb_InvalidCall : PySem.W.subIn K (.ref C_InvalidCall) (.type "BaseException") = some true)
    (et_InvalidCall : PySem.W.typeIn K (.ref C_InvalidCall) = some (.type "type"))
    (ek_InvalidCall : PySem.W.keepIn K (.ref C_InvalidCall) = true)
    (eh_InvalidCall : PySem.W.hasDictIn K C_InvalidCall = true)
    (kr_InvalidCall : PySem.W.excInitIn K C_InvalidCall [.type "ValueError", .type "Exception", .type "BaseException", .type "object"] "ValueError.__new__" = true)
    (kr2_InvalidCall : PySem.W.excOver K C_InvalidCall [.type "ValueError", .type "Exception", .type "BaseException", .type "object"] = true)
    (kr3_InvalidCall : PySem.W.ks_superIn K C_InvalidCall C_InvalidCall "__init__" = some (some (.builtin "ValueError.__init__")))
    (e1_InvalidCall : PySem.W.subIn K (.ref C_InvalidCall) (.type "ValueError") = some true)
    (e2_InvalidCall : PySem.W.mroIn K C_InvalidCall (.ref C_InvalidCall) = some true)
    (e3_InvalidCall : PySem.W.findIn K (.ref C_InvalidCall) "__setattr__" = some (some (.builtin "object.__setattr__")))
    (e4_InvalidCall : PySem.W.takerIn K C_InvalidCall "word" = some none)
    {fe_InvalidCall cda_InvalidCall cc_InvalidCall : Addr} {oc_InvalidCall kV_InvalidCall dc_InvalidCall pm_InvalidCall ct_InvalidCall cl1_InvalidCall cl2_InvalidCall : Value} {od_InvalidCall an_InvalidCall cd1_InvalidCall cd2_InvalidCall : Option Addr} {sl_InvalidCall sl1_InvalidCall sl2_InvalidCall : Array (Option Value)} {vs_InvalidCall : Array Value} {fi_InvalidCall : Str} {tf_InvalidCall : Tok}
    (e5_InvalidCall : PySem.W.findIn K (.ref C_InvalidCall) "__init__" = some (some (.ref fe_InvalidCall)))
    (e6_InvalidCall : PySem.W.typeIn K (.ref fe_InvalidCall) = some (.type "function"))
    (e7_InvalidCall : K.lookup fe_InvalidCall = some ⟨oc_InvalidCall, od_InvalidCall, .func (PySem.W.ksFn "__init__" "InvalidCall.__init__" (defArgs st_InvalidCall_init) (defBody st_InvalidCall_init) (defScope st_InvalidCall_init) .none kV_InvalidCall dc_InvalidCall pm_InvalidCall an_InvalidCall (.ref cda_InvalidCall) ct_InvalidCall cc_InvalidCall), sl_InvalidCall⟩)
    (e8_InvalidCall : PySem.W.codeIn K (.ref cda_InvalidCall) "InvalidCall.__init__" = true)
    (e9_InvalidCall : K.lookup cda_InvalidCall = some ⟨cl1_InvalidCall, cd1_InvalidCall, .fields vs_InvalidCall, sl1_InvalidCall⟩)
    (rr1_InvalidCall : vs_InvalidCall[2]? = some (.str fi_InvalidCall tf_InvalidCall))
    (rr2_InvalidCall : ((P.main.file : Str) == fi_InvalidCall) = true)
    (e0_InvalidCall : K.lookup cc_InvalidCall = some ⟨cl2_InvalidCall, cd2_InvalidCall, .cell (some (.ref C_InvalidCall)), sl2_InvalidCall⟩)
    (eb_Refused : PySem.W.subIn K (.ref C_Refused) (.type "BaseException") = some true)
    (et_Refused : PySem.W.typeIn K (.ref C_Refused) = some (.type "type"))
    (ek_Refused : PySem.W.keepIn K (.ref C_Refused) = true)
    (eh_Refused : PySem.W.hasDictIn K C_Refused = true)
    (kr_Refused : PySem.W.excInitIn K C_Refused [.type "ValueError", .type "Exception", .type "BaseException", .type "object"] "ValueError.__new__" = true)
    (kr2_Refused : PySem.W.excOver K C_Refused [.type "ValueError", .type "Exception", .type "BaseException", .type "object"] = true)
    (kr3_Refused : PySem.W.ks_superIn K C_Refused C_Refused "__init__" = some (some (.builtin "ValueError.__init__")))
    (e1_Refused : PySem.W.subIn K (.ref C_Refused) (.type "ValueError") = some true)
    (e2_Refused : PySem.W.mroIn K C_Refused (.ref C_Refused) = some true)
    (e3_Refused : PySem.W.findIn K (.ref C_Refused) "__setattr__" = some (some (.builtin "object.__setattr__")))
    (e4_Refused : PySem.W.takerIn K C_Refused "at" = some none)
    {fe_Refused cda_Refused cc_Refused : Addr} {oc_Refused kV_Refused dc_Refused pm_Refused ct_Refused cl1_Refused cl2_Refused : Value} {od_Refused an_Refused cd1_Refused cd2_Refused : Option Addr} {sl_Refused sl1_Refused sl2_Refused : Array (Option Value)} {vs_Refused : Array Value} {fi_Refused : Str} {tf_Refused : Tok}
    (e5_Refused : PySem.W.findIn K (.ref C_Refused) "__init__" = some (some (.ref fe_Refused)))
    (e6_Refused : PySem.W.typeIn K (.ref fe_Refused) = some (.type "function"))
    (e7_Refused : K.lookup fe_Refused = some ⟨oc_Refused, od_Refused, .func (PySem.W.ksFn "__init__" "Refused.__init__" (defArgs st_Refused_init) (defBody st_Refused_init) (defScope st_Refused_init) .none kV_Refused dc_Refused pm_Refused an_Refused (.ref cda_Refused) ct_Refused cc_Refused), sl_Refused⟩)
    (e8_Refused : PySem.W.codeIn K (.ref cda_Refused) "Refused.__init__" = true)
    (e9_Refused : K.lookup cda_Refused = some ⟨cl1_Refused, cd1_Refused, .fields vs_Refused, sl1_Refused⟩)
    (rr1_Refused : vs_Refused[2]? = some (.str fi_Refused tf_Refused))
    (rr2_Refused : ((P.main.file : Str) == fi_Refused) = true)
    (e0_Refused : K.lookup cc_Refused = some ⟨cl2_Refused, cd2_Refused, .cell (some (.ref C_Refused)), sl2_Refused⟩)
    (eb_InvalidHeard : PySem.W.subIn K (.ref C_InvalidHeard) (.type "BaseException") = some true)
    (et_InvalidHeard : PySem.W.typeIn K (.ref C_InvalidHeard) = some (.type "type"))
    (ek_InvalidHeard : PySem.W.keepIn K (.ref C_InvalidHeard) = true)
    (eh_InvalidHeard : PySem.W.hasDictIn K C_InvalidHeard = true)
    (kr_InvalidHeard : PySem.W.excInitIn K C_InvalidHeard [.type "ValueError", .type "Exception", .type "BaseException", .type "object"] "ValueError.__new__" = true)
    (kr2_InvalidHeard : PySem.W.excOver K C_InvalidHeard [.type "ValueError", .type "Exception", .type "BaseException", .type "object"] = true)
    (kr3_InvalidHeard : PySem.W.ks_superIn K C_InvalidHeard C_InvalidHeard "__init__" = some (some (.builtin "ValueError.__init__")))
    (e1_InvalidHeard : PySem.W.subIn K (.ref C_InvalidHeard) (.type "ValueError") = some true)
    (e2_InvalidHeard : PySem.W.mroIn K C_InvalidHeard (.ref C_InvalidHeard) = some true)
    (e3_InvalidHeard : PySem.W.findIn K (.ref C_InvalidHeard) "__setattr__" = some (some (.builtin "object.__setattr__")))
    (e4_InvalidHeard : PySem.W.takerIn K C_InvalidHeard "at" = some none)
    {fe_InvalidHeard cda_InvalidHeard cc_InvalidHeard : Addr} {oc_InvalidHeard kV_InvalidHeard dc_InvalidHeard pm_InvalidHeard ct_InvalidHeard cl1_InvalidHeard cl2_InvalidHeard : Value} {od_InvalidHeard an_InvalidHeard cd1_InvalidHeard cd2_InvalidHeard : Option Addr} {sl_InvalidHeard sl1_InvalidHeard sl2_InvalidHeard : Array (Option Value)} {vs_InvalidHeard : Array Value} {fi_InvalidHeard : Str} {tf_InvalidHeard : Tok}
    (e5_InvalidHeard : PySem.W.findIn K (.ref C_InvalidHeard) "__init__" = some (some (.ref fe_InvalidHeard)))
    (e6_InvalidHeard : PySem.W.typeIn K (.ref fe_InvalidHeard) = some (.type "function"))
    (e7_InvalidHeard : K.lookup fe_InvalidHeard = some ⟨oc_InvalidHeard, od_InvalidHeard, .func (PySem.W.ksFn "__init__" "InvalidHeard.__init__" (defArgs st_InvalidHeard_init) (defBody st_InvalidHeard_init) (defScope st_InvalidHeard_init) .none kV_InvalidHeard dc_InvalidHeard pm_InvalidHeard an_InvalidHeard (.ref cda_InvalidHeard) ct_InvalidHeard cc_InvalidHeard), sl_InvalidHeard⟩)
    (e8_InvalidHeard : PySem.W.codeIn K (.ref cda_InvalidHeard) "InvalidHeard.__init__" = true)
    (e9_InvalidHeard : K.lookup cda_InvalidHeard = some ⟨cl1_InvalidHeard, cd1_InvalidHeard, .fields vs_InvalidHeard, sl1_InvalidHeard⟩)
    (rr1_InvalidHeard : vs_InvalidHeard[2]? = some (.str fi_InvalidHeard tf_InvalidHeard))
    (rr2_InvalidHeard : ((P.main.file : Str) == fi_InvalidHeard) = true)
    (e0_InvalidHeard : K.lookup cc_InvalidHeard = some ⟨cl2_InvalidHeard, cd2_InvalidHeard, .cell (some (.ref C_InvalidHeard)), sl2_InvalidHeard⟩)
    (eb_InvalidGoing : PySem.W.subIn K (.ref C_InvalidGoing) (.type "BaseException") = some true)
    (et_InvalidGoing : PySem.W.typeIn K (.ref C_InvalidGoing) = some (.type "type"))
    (ek_InvalidGoing : PySem.W.keepIn K (.ref C_InvalidGoing) = true)
    (eh_InvalidGoing : PySem.W.hasDictIn K C_InvalidGoing = true)
    (kr_InvalidGoing : PySem.W.excInitIn K C_InvalidGoing [.type "ValueError", .type "Exception", .type "BaseException", .type "object"] "ValueError.__new__" = true)
    (kr2_InvalidGoing : PySem.W.excOver K C_InvalidGoing [.type "ValueError", .type "Exception", .type "BaseException", .type "object"] = true)
    (kr3_InvalidGoing : PySem.W.ks_superIn K C_InvalidGoing C_InvalidGoing "__init__" = some (some (.builtin "ValueError.__init__")))
    (e1_InvalidGoing : PySem.W.subIn K (.ref C_InvalidGoing) (.type "ValueError") = some true)
    (e2_InvalidGoing : PySem.W.mroIn K C_InvalidGoing (.ref C_InvalidGoing) = some true)
    (e3_InvalidGoing : PySem.W.findIn K (.ref C_InvalidGoing) "__setattr__" = some (some (.builtin "object.__setattr__")))
    (e4_InvalidGoing : PySem.W.takerIn K C_InvalidGoing "at" = some none)
    {fe_InvalidGoing cda_InvalidGoing cc_InvalidGoing : Addr} {oc_InvalidGoing kV_InvalidGoing dc_InvalidGoing pm_InvalidGoing ct_InvalidGoing cl1_InvalidGoing cl2_InvalidGoing : Value} {od_InvalidGoing an_InvalidGoing cd1_InvalidGoing cd2_InvalidGoing : Option Addr} {sl_InvalidGoing sl1_InvalidGoing sl2_InvalidGoing : Array (Option Value)} {vs_InvalidGoing : Array Value} {fi_InvalidGoing : Str} {tf_InvalidGoing : Tok}
    (e5_InvalidGoing : PySem.W.findIn K (.ref C_InvalidGoing) "__init__" = some (some (.ref fe_InvalidGoing)))
    (e6_InvalidGoing : PySem.W.typeIn K (.ref fe_InvalidGoing) = some (.type "function"))
    (e7_InvalidGoing : K.lookup fe_InvalidGoing = some ⟨oc_InvalidGoing, od_InvalidGoing, .func (PySem.W.ksFn "__init__" "InvalidGoing.__init__" (defArgs st_InvalidGoing_init) (defBody st_InvalidGoing_init) (defScope st_InvalidGoing_init) .none kV_InvalidGoing dc_InvalidGoing pm_InvalidGoing an_InvalidGoing (.ref cda_InvalidGoing) ct_InvalidGoing cc_InvalidGoing), sl_InvalidGoing⟩)
    (e8_InvalidGoing : PySem.W.codeIn K (.ref cda_InvalidGoing) "InvalidGoing.__init__" = true)
    (e9_InvalidGoing : K.lookup cda_InvalidGoing = some ⟨cl1_InvalidGoing, cd1_InvalidGoing, .fields vs_InvalidGoing, sl1_InvalidGoing⟩)
    (rr1_InvalidGoing : vs_InvalidGoing[2]? = some (.str fi_InvalidGoing tf_InvalidGoing))
    (rr2_InvalidGoing : ((P.main.file : Str) == fi_InvalidGoing) = true)
    (e0_InvalidGoing : K.lookup cc_InvalidGoing = some ⟨cl2_InvalidGoing, cd2_InvalidGoing, .cell (some (.ref C_InvalidGoing)), sl2_InvalidGoing⟩)
    (eb_InvalidRoad : PySem.W.subIn K (.ref C_InvalidRoad) (.type "BaseException") = some true)
    (et_InvalidRoad : PySem.W.typeIn K (.ref C_InvalidRoad) = some (.type "type"))
    (ek_InvalidRoad : PySem.W.keepIn K (.ref C_InvalidRoad) = true)
    (eh_InvalidRoad : PySem.W.hasDictIn K C_InvalidRoad = true)
    (kr_InvalidRoad : PySem.W.excInitIn K C_InvalidRoad [.type "ValueError", .type "Exception", .type "BaseException", .type "object"] "ValueError.__new__" = true)
    (kr2_InvalidRoad : PySem.W.excOver K C_InvalidRoad [.type "ValueError", .type "Exception", .type "BaseException", .type "object"] = true)
    (kr3_InvalidRoad : PySem.W.ks_superIn K C_InvalidRoad C_InvalidRoad "__init__" = some (some (.builtin "ValueError.__init__")))
    (e1_InvalidRoad : PySem.W.subIn K (.ref C_InvalidRoad) (.type "ValueError") = some true)
    (e2_InvalidRoad : PySem.W.mroIn K C_InvalidRoad (.ref C_InvalidRoad) = some true)
    (e3_InvalidRoad : PySem.W.findIn K (.ref C_InvalidRoad) "__setattr__" = some (some (.builtin "object.__setattr__")))
    (e4_InvalidRoad : PySem.W.takerIn K C_InvalidRoad "at" = some none)
    {fe_InvalidRoad cda_InvalidRoad cc_InvalidRoad : Addr} {oc_InvalidRoad kV_InvalidRoad dc_InvalidRoad pm_InvalidRoad ct_InvalidRoad cl1_InvalidRoad cl2_InvalidRoad : Value} {od_InvalidRoad an_InvalidRoad cd1_InvalidRoad cd2_InvalidRoad : Option Addr} {sl_InvalidRoad sl1_InvalidRoad sl2_InvalidRoad : Array (Option Value)} {vs_InvalidRoad : Array Value} {fi_InvalidRoad : Str} {tf_InvalidRoad : Tok}
    (e5_InvalidRoad : PySem.W.findIn K (.ref C_InvalidRoad) "__init__" = some (some (.ref fe_InvalidRoad)))
    (e6_InvalidRoad : PySem.W.typeIn K (.ref fe_InvalidRoad) = some (.type "function"))
    (e7_InvalidRoad : K.lookup fe_InvalidRoad = some ⟨oc_InvalidRoad, od_InvalidRoad, .func (PySem.W.ksFn "__init__" "InvalidRoad.__init__" (defArgs st_InvalidRoad_init) (defBody st_InvalidRoad_init) (defScope st_InvalidRoad_init) .none kV_InvalidRoad dc_InvalidRoad pm_InvalidRoad an_InvalidRoad (.ref cda_InvalidRoad) ct_InvalidRoad cc_InvalidRoad), sl_InvalidRoad⟩)
    (e8_InvalidRoad : PySem.W.codeIn K (.ref cda_InvalidRoad) "InvalidRoad.__init__" = true)
    (e9_InvalidRoad : K.lookup cda_InvalidRoad = some ⟨cl1_InvalidRoad, cd1_InvalidRoad, .fields vs_InvalidRoad, sl1_InvalidRoad⟩)
    (rr1_InvalidRoad : vs_InvalidRoad[2]? = some (.str fi_InvalidRoad tf_InvalidRoad))
    (rr2_InvalidRoad : ((P.main.file : Str) == fi_InvalidRoad) = true)
    (e0_InvalidRoad : K.lookup cc_InvalidRoad = some ⟨cl2_InvalidRoad, cd2_InvalidRoad, .cell (some (.ref C_InvalidRoad)), sl2_InvalidRoad⟩)
    (eb_InvalidText : PySem.W.subIn K (.ref C_InvalidText) (.type "BaseException") = some true)
    (et_InvalidText : PySem.W.typeIn K (.ref C_InvalidText) = some (.type "type"))
    (ek_InvalidText : PySem.W.keepIn K (.ref C_InvalidText) = true)
    (eh_InvalidText : PySem.W.hasDictIn K C_InvalidText = true)
    (kr_InvalidText : PySem.W.excInitIn K C_InvalidText [.type "ValueError", .type "Exception", .type "BaseException", .type "object"] "ValueError.__new__" = true)
    (kr2_InvalidText : PySem.W.excOver K C_InvalidText [.type "ValueError", .type "Exception", .type "BaseException", .type "object"] = true)
    (kr3_InvalidText : PySem.W.ks_superIn K C_InvalidText C_InvalidText "__init__" = some (some (.builtin "ValueError.__init__")))
    (e1_InvalidText : PySem.W.subIn K (.ref C_InvalidText) (.type "ValueError") = some true)
    (e2_InvalidText : PySem.W.mroIn K C_InvalidText (.ref C_InvalidText) = some true)
    (e3_InvalidText : PySem.W.findIn K (.ref C_InvalidText) "__setattr__" = some (some (.builtin "object.__setattr__")))
    (e4_InvalidText : PySem.W.takerIn K C_InvalidText "at" = some none)
    {fe_InvalidText cda_InvalidText cc_InvalidText : Addr} {oc_InvalidText kV_InvalidText dc_InvalidText pm_InvalidText ct_InvalidText cl1_InvalidText cl2_InvalidText : Value} {od_InvalidText an_InvalidText cd1_InvalidText cd2_InvalidText : Option Addr} {sl_InvalidText sl1_InvalidText sl2_InvalidText : Array (Option Value)} {vs_InvalidText : Array Value} {fi_InvalidText : Str} {tf_InvalidText : Tok}
    (e5_InvalidText : PySem.W.findIn K (.ref C_InvalidText) "__init__" = some (some (.ref fe_InvalidText)))
    (e6_InvalidText : PySem.W.typeIn K (.ref fe_InvalidText) = some (.type "function"))
    (e7_InvalidText : K.lookup fe_InvalidText = some ⟨oc_InvalidText, od_InvalidText, .func (PySem.W.ksFn "__init__" "InvalidText.__init__" (defArgs st_InvalidText_init) (defBody st_InvalidText_init) (defScope st_InvalidText_init) .none kV_InvalidText dc_InvalidText pm_InvalidText an_InvalidText (.ref cda_InvalidText) ct_InvalidText cc_InvalidText), sl_InvalidText⟩)
    (e8_InvalidText : PySem.W.codeIn K (.ref cda_InvalidText) "InvalidText.__init__" = true)
    (e9_InvalidText : K.lookup cda_InvalidText = some ⟨cl1_InvalidText, cd1_InvalidText, .fields vs_InvalidText, sl1_InvalidText⟩)
    (rr1_InvalidText : vs_InvalidText[2]? = some (.str fi_InvalidText tf_InvalidText))
    (rr2_InvalidText : ((P.main.file : Str) == fi_InvalidText) = true)
    (e0_InvalidText : K.lookup cc_InvalidText = some ⟨cl2_InvalidText, cd2_InvalidText, .cell (some (.ref C_InvalidText)), sl2_InvalidText⟩)
    (eb_NoCall : PySem.W.subIn K (.ref C_NoCall) (.type "BaseException") = some true)
    (et_NoCall : PySem.W.typeIn K (.ref C_NoCall) = some (.type "type"))
    (ek_NoCall : PySem.W.keepIn K (.ref C_NoCall) = true)
    (eh_NoCall : PySem.W.hasDictIn K C_NoCall = true)
    (kr_NoCall : PySem.W.excInitIn K C_NoCall [.type "IndexError", .type "LookupError", .type "Exception", .type "BaseException", .type "object"] "IndexError.__new__" = true)
    (kr2_NoCall : PySem.W.excOver K C_NoCall [.type "IndexError", .type "LookupError", .type "Exception", .type "BaseException", .type "object"] = true)
    (kr3_NoCall : PySem.W.ks_superIn K C_NoCall C_NoCall "__init__" = some (some (.builtin "IndexError.__init__")))
    (e1_NoCall : PySem.W.subIn K (.ref C_NoCall) (.type "IndexError") = some true)
    (e2_NoCall : PySem.W.mroIn K C_NoCall (.ref C_NoCall) = some true)
    (e3_NoCall : PySem.W.findIn K (.ref C_NoCall) "__setattr__" = some (some (.builtin "object.__setattr__")))
    (e4_NoCall : PySem.W.takerIn K C_NoCall "at" = some none)
    {fe_NoCall cda_NoCall cc_NoCall : Addr} {oc_NoCall kV_NoCall dc_NoCall pm_NoCall ct_NoCall cl1_NoCall cl2_NoCall : Value} {od_NoCall an_NoCall cd1_NoCall cd2_NoCall : Option Addr} {sl_NoCall sl1_NoCall sl2_NoCall : Array (Option Value)} {vs_NoCall : Array Value} {fi_NoCall : Str} {tf_NoCall : Tok}
    (e5_NoCall : PySem.W.findIn K (.ref C_NoCall) "__init__" = some (some (.ref fe_NoCall)))
    (e6_NoCall : PySem.W.typeIn K (.ref fe_NoCall) = some (.type "function"))
    (e7_NoCall : K.lookup fe_NoCall = some ⟨oc_NoCall, od_NoCall, .func (PySem.W.ksFn "__init__" "NoCall.__init__" (defArgs st_NoCall_init) (defBody st_NoCall_init) (defScope st_NoCall_init) .none kV_NoCall dc_NoCall pm_NoCall an_NoCall (.ref cda_NoCall) ct_NoCall cc_NoCall), sl_NoCall⟩)
    (e8_NoCall : PySem.W.codeIn K (.ref cda_NoCall) "NoCall.__init__" = true)
    (e9_NoCall : K.lookup cda_NoCall = some ⟨cl1_NoCall, cd1_NoCall, .fields vs_NoCall, sl1_NoCall⟩)
    (rr1_NoCall : vs_NoCall[2]? = some (.str fi_NoCall tf_NoCall))
    (rr2_NoCall : ((P.main.file : Str) == fi_NoCall) = true)
    (e0_NoCall : K.lookup cc_NoCall = some ⟨cl2_NoCall, cd2_NoCall, .cell (some (.ref C_NoCall)), sl2_NoCall⟩)
    (eb_InvalidCommand : PySem.W.subIn K (.ref C_InvalidCommand) (.type "BaseException") = some true)
    (et_InvalidCommand : PySem.W.typeIn K (.ref C_InvalidCommand) = some (.type "type"))
    (ek_InvalidCommand : PySem.W.keepIn K (.ref C_InvalidCommand) = true)
    (eh_InvalidCommand : PySem.W.hasDictIn K C_InvalidCommand = true)
    (kr_InvalidCommand : PySem.W.excIn K C_InvalidCommand [.type "ValueError", .type "Exception", .type "BaseException", .type "object"] "ValueError.__new__" = true)
    (eb_InvalidFault : PySem.W.subIn K (.ref C_InvalidFault) (.type "BaseException") = some true)
    (et_InvalidFault : PySem.W.typeIn K (.ref C_InvalidFault) = some (.type "type"))
    (ek_InvalidFault : PySem.W.keepIn K (.ref C_InvalidFault) = true)
    (eh_InvalidFault : PySem.W.hasDictIn K C_InvalidFault = true)
    (kr_InvalidFault : PySem.W.excIn K C_InvalidFault [.type "ValueError", .type "Exception", .type "BaseException", .type "object"] "ValueError.__new__" = true)
    (ga_InvalidVoice : PySem.W.findIn K (.ref C_InvalidVoice) "__getattribute__" = some (some (.builtin "BaseException.__getattribute__")))
    (gg_InvalidVoice : PySem.W.findIn K (.ref C_InvalidVoice) "__getattr__" = some none)
    (ca_InvalidVoice : PySem.W.findIn K (.ref C_InvalidVoice) "__class__" = some (some (.builtin "object.__class__")))
    (xcn : PySem.W.specialIn K (.builtin "object.__class__") "__get__" = some (some (.builtin "getset_descriptor.__get__")))
    (xct : PySem.W.takesIn K (.builtin "object.__class__") = some true)
    (cm_InvalidVoice : PySem.W.mroIn K C_InvalidVoice (.type "object") = some true)
    (ga_InvalidCall : PySem.W.findIn K (.ref C_InvalidCall) "__getattribute__" = some (some (.builtin "BaseException.__getattribute__")))
    (gg_InvalidCall : PySem.W.findIn K (.ref C_InvalidCall) "__getattr__" = some none)
    (ca_InvalidCall : PySem.W.findIn K (.ref C_InvalidCall) "__class__" = some (some (.builtin "object.__class__")))
    (cm_InvalidCall : PySem.W.mroIn K C_InvalidCall (.type "object") = some true)
    (ga_NoCall : PySem.W.findIn K (.ref C_NoCall) "__getattribute__" = some (some (.builtin "BaseException.__getattribute__")))
    (gg_NoCall : PySem.W.findIn K (.ref C_NoCall) "__getattr__" = some none)
    (ca_NoCall : PySem.W.findIn K (.ref C_NoCall) "__class__" = some (some (.builtin "object.__class__")))
    (cm_NoCall : PySem.W.mroIn K C_NoCall (.type "object") = some true)
    (ga_Refused : PySem.W.findIn K (.ref C_Refused) "__getattribute__" = some (some (.builtin "BaseException.__getattribute__")))
    (gg_Refused : PySem.W.findIn K (.ref C_Refused) "__getattr__" = some none)
    (ca_Refused : PySem.W.findIn K (.ref C_Refused) "__class__" = some (some (.builtin "object.__class__")))
    (cm_Refused : PySem.W.mroIn K C_Refused (.type "object") = some true)
    (ga_InvalidHeard : PySem.W.findIn K (.ref C_InvalidHeard) "__getattribute__" = some (some (.builtin "BaseException.__getattribute__")))
    (gg_InvalidHeard : PySem.W.findIn K (.ref C_InvalidHeard) "__getattr__" = some none)
    (ca_InvalidHeard : PySem.W.findIn K (.ref C_InvalidHeard) "__class__" = some (some (.builtin "object.__class__")))
    (cm_InvalidHeard : PySem.W.mroIn K C_InvalidHeard (.type "object") = some true)
    (ga_InvalidGoing : PySem.W.findIn K (.ref C_InvalidGoing) "__getattribute__" = some (some (.builtin "BaseException.__getattribute__")))
    (gg_InvalidGoing : PySem.W.findIn K (.ref C_InvalidGoing) "__getattr__" = some none)
    (ca_InvalidGoing : PySem.W.findIn K (.ref C_InvalidGoing) "__class__" = some (some (.builtin "object.__class__")))
    (cm_InvalidGoing : PySem.W.mroIn K C_InvalidGoing (.type "object") = some true)
    (ga_InvalidRoad : PySem.W.findIn K (.ref C_InvalidRoad) "__getattribute__" = some (some (.builtin "BaseException.__getattribute__")))
    (gg_InvalidRoad : PySem.W.findIn K (.ref C_InvalidRoad) "__getattr__" = some none)
    (ca_InvalidRoad : PySem.W.findIn K (.ref C_InvalidRoad) "__class__" = some (some (.builtin "object.__class__")))
    (cm_InvalidRoad : PySem.W.mroIn K C_InvalidRoad (.type "object") = some true)
    (ga_InvalidText : PySem.W.findIn K (.ref C_InvalidText) "__getattribute__" = some (some (.builtin "BaseException.__getattribute__")))
    (gg_InvalidText : PySem.W.findIn K (.ref C_InvalidText) "__getattr__" = some none)
    (ca_InvalidText : PySem.W.findIn K (.ref C_InvalidText) "__class__" = some (some (.builtin "object.__class__")))
    (cm_InvalidText : PySem.W.mroIn K C_InvalidText (.type "object") = some true)
    (ga_InvalidCommand : PySem.W.findIn K (.ref C_InvalidCommand) "__getattribute__" = some (some (.builtin "BaseException.__getattribute__")))
    (gg_InvalidCommand : PySem.W.findIn K (.ref C_InvalidCommand) "__getattr__" = some none)
    (ca_InvalidCommand : PySem.W.findIn K (.ref C_InvalidCommand) "__class__" = some (some (.builtin "object.__class__")))
    (cm_InvalidCommand : PySem.W.mroIn K C_InvalidCommand (.type "object") = some true)
    (ga_InvalidFault : PySem.W.findIn K (.ref C_InvalidFault) "__getattribute__" = some (some (.builtin "BaseException.__getattribute__")))
    (gg_InvalidFault : PySem.W.findIn K (.ref C_InvalidFault) "__getattr__" = some none)
    (ca_InvalidFault : PySem.W.findIn K (.ref C_InvalidFault) "__class__" = some (some (.builtin "object.__class__")))
    (cm_InvalidFault : PySem.W.mroIn K C_InvalidFault (.type "object") = some true)
    (xn_InvalidCall_word : PySem.W.findIn K (.ref C_InvalidCall) "word" = some none)
    (xn_InvalidGoing_at : PySem.W.findIn K (.ref C_InvalidGoing) "at" = some none)
    (xn_InvalidHeard_at : PySem.W.findIn K (.ref C_InvalidHeard) "at" = some none)
    (xn_InvalidRoad_at : PySem.W.findIn K (.ref C_InvalidRoad) "at" = some none)
    (xn_InvalidText_at : PySem.W.findIn K (.ref C_InvalidText) "at" = some none)
    (xn_InvalidVoice_word : PySem.W.findIn K (.ref C_InvalidVoice) "word" = some none)
    (xn_NoCall_at : PySem.W.findIn K (.ref C_NoCall) "at" = some none)
    (xn_Refused_at : PySem.W.findIn K (.ref C_Refused) "at" = some none)
    (xk_NoCall_InvalidText : PySem.W.kitOne K (.ref C_NoCall) (.ref C_InvalidText) = some false)
    (xk_Refused_InvalidText : PySem.W.kitOne K (.ref C_Refused) (.ref C_InvalidText) = some false)
    (xk_InvalidCommand_InvalidText : PySem.W.kitOne K (.ref C_InvalidCommand) (.ref C_InvalidText) = some false)
    (xk_InvalidFault_InvalidText : PySem.W.kitOne K (.ref C_InvalidFault) (.ref C_InvalidText) = some false)
    (xk_InvalidHeard_InvalidText : PySem.W.kitOne K (.ref C_InvalidHeard) (.ref C_InvalidText) = some false)
    (xk_InvalidGoing_InvalidText : PySem.W.kitOne K (.ref C_InvalidGoing) (.ref C_InvalidText) = some false)
    (xk_InvalidRoad_InvalidText : PySem.W.kitOne K (.ref C_InvalidRoad) (.ref C_InvalidText) = some false)
    (xk_InvalidText_InvalidText : PySem.W.kitOne K (.ref C_InvalidText) (.ref C_InvalidText) = some true)
    (xk_InvalidVoice_InvalidText : PySem.W.kitOne K (.ref C_InvalidVoice) (.ref C_InvalidText) = some false)
    (xk_InvalidCall_InvalidText : PySem.W.kitOne K (.ref C_InvalidCall) (.ref C_InvalidText) = some false)
    (xk_NoCall_InvalidVoice : PySem.W.kitOne K (.ref C_NoCall) (.ref C_InvalidVoice) = some false)
    (xk_Refused_InvalidVoice : PySem.W.kitOne K (.ref C_Refused) (.ref C_InvalidVoice) = some false)
    (xk_InvalidCommand_InvalidVoice : PySem.W.kitOne K (.ref C_InvalidCommand) (.ref C_InvalidVoice) = some false)
    (xk_InvalidFault_InvalidVoice : PySem.W.kitOne K (.ref C_InvalidFault) (.ref C_InvalidVoice) = some false)
    (xk_InvalidHeard_InvalidVoice : PySem.W.kitOne K (.ref C_InvalidHeard) (.ref C_InvalidVoice) = some false)
    (xk_InvalidGoing_InvalidVoice : PySem.W.kitOne K (.ref C_InvalidGoing) (.ref C_InvalidVoice) = some false)
    (xk_InvalidRoad_InvalidVoice : PySem.W.kitOne K (.ref C_InvalidRoad) (.ref C_InvalidVoice) = some false)
    (xk_InvalidText_InvalidVoice : PySem.W.kitOne K (.ref C_InvalidText) (.ref C_InvalidVoice) = some false)
    (xk_InvalidVoice_InvalidVoice : PySem.W.kitOne K (.ref C_InvalidVoice) (.ref C_InvalidVoice) = some true)
    (xk_InvalidCall_InvalidVoice : PySem.W.kitOne K (.ref C_InvalidCall) (.ref C_InvalidVoice) = some false)
    (xk_NoCall_InvalidCall : PySem.W.kitOne K (.ref C_NoCall) (.ref C_InvalidCall) = some false)
    (xk_Refused_InvalidCall : PySem.W.kitOne K (.ref C_Refused) (.ref C_InvalidCall) = some false)
    (xk_InvalidCommand_InvalidCall : PySem.W.kitOne K (.ref C_InvalidCommand) (.ref C_InvalidCall) = some false)
    (xk_InvalidFault_InvalidCall : PySem.W.kitOne K (.ref C_InvalidFault) (.ref C_InvalidCall) = some false)
    (xk_InvalidHeard_InvalidCall : PySem.W.kitOne K (.ref C_InvalidHeard) (.ref C_InvalidCall) = some false)
    (xk_InvalidGoing_InvalidCall : PySem.W.kitOne K (.ref C_InvalidGoing) (.ref C_InvalidCall) = some false)
    (xk_InvalidRoad_InvalidCall : PySem.W.kitOne K (.ref C_InvalidRoad) (.ref C_InvalidCall) = some false)
    (xk_InvalidText_InvalidCall : PySem.W.kitOne K (.ref C_InvalidText) (.ref C_InvalidCall) = some false)
    (xk_InvalidVoice_InvalidCall : PySem.W.kitOne K (.ref C_InvalidVoice) (.ref C_InvalidCall) = some false)
    (xk_InvalidCall_InvalidCall : PySem.W.kitOne K (.ref C_InvalidCall) (.ref C_InvalidCall) = some true)
    (xk_NoCall_InvalidHeard : PySem.W.kitOne K (.ref C_NoCall) (.ref C_InvalidHeard) = some false)
    (xk_Refused_InvalidHeard : PySem.W.kitOne K (.ref C_Refused) (.ref C_InvalidHeard) = some false)
    (xk_InvalidCommand_InvalidHeard : PySem.W.kitOne K (.ref C_InvalidCommand) (.ref C_InvalidHeard) = some false)
    (xk_InvalidFault_InvalidHeard : PySem.W.kitOne K (.ref C_InvalidFault) (.ref C_InvalidHeard) = some false)
    (xk_InvalidHeard_InvalidHeard : PySem.W.kitOne K (.ref C_InvalidHeard) (.ref C_InvalidHeard) = some true)
    (xk_InvalidGoing_InvalidHeard : PySem.W.kitOne K (.ref C_InvalidGoing) (.ref C_InvalidHeard) = some false)
    (xk_InvalidRoad_InvalidHeard : PySem.W.kitOne K (.ref C_InvalidRoad) (.ref C_InvalidHeard) = some false)
    (xk_InvalidText_InvalidHeard : PySem.W.kitOne K (.ref C_InvalidText) (.ref C_InvalidHeard) = some false)
    (xk_InvalidVoice_InvalidHeard : PySem.W.kitOne K (.ref C_InvalidVoice) (.ref C_InvalidHeard) = some false)
    (xk_InvalidCall_InvalidHeard : PySem.W.kitOne K (.ref C_InvalidCall) (.ref C_InvalidHeard) = some false)
    (xk_NoCall_InvalidGoing : PySem.W.kitOne K (.ref C_NoCall) (.ref C_InvalidGoing) = some false)
    (xk_Refused_InvalidGoing : PySem.W.kitOne K (.ref C_Refused) (.ref C_InvalidGoing) = some false)
    (xk_InvalidCommand_InvalidGoing : PySem.W.kitOne K (.ref C_InvalidCommand) (.ref C_InvalidGoing) = some false)
    (xk_InvalidFault_InvalidGoing : PySem.W.kitOne K (.ref C_InvalidFault) (.ref C_InvalidGoing) = some false)
    (xk_InvalidHeard_InvalidGoing : PySem.W.kitOne K (.ref C_InvalidHeard) (.ref C_InvalidGoing) = some false)
    (xk_InvalidGoing_InvalidGoing : PySem.W.kitOne K (.ref C_InvalidGoing) (.ref C_InvalidGoing) = some true)
    (xk_InvalidRoad_InvalidGoing : PySem.W.kitOne K (.ref C_InvalidRoad) (.ref C_InvalidGoing) = some false)
    (xk_InvalidText_InvalidGoing : PySem.W.kitOne K (.ref C_InvalidText) (.ref C_InvalidGoing) = some false)
    (xk_InvalidVoice_InvalidGoing : PySem.W.kitOne K (.ref C_InvalidVoice) (.ref C_InvalidGoing) = some false)
    (xk_InvalidCall_InvalidGoing : PySem.W.kitOne K (.ref C_InvalidCall) (.ref C_InvalidGoing) = some false)
    (xk_NoCall_InvalidRoad : PySem.W.kitOne K (.ref C_NoCall) (.ref C_InvalidRoad) = some false)
    (xk_Refused_InvalidRoad : PySem.W.kitOne K (.ref C_Refused) (.ref C_InvalidRoad) = some false)
    (xk_InvalidCommand_InvalidRoad : PySem.W.kitOne K (.ref C_InvalidCommand) (.ref C_InvalidRoad) = some false)
    (xk_InvalidFault_InvalidRoad : PySem.W.kitOne K (.ref C_InvalidFault) (.ref C_InvalidRoad) = some false)
    (xk_InvalidHeard_InvalidRoad : PySem.W.kitOne K (.ref C_InvalidHeard) (.ref C_InvalidRoad) = some false)
    (xk_InvalidGoing_InvalidRoad : PySem.W.kitOne K (.ref C_InvalidGoing) (.ref C_InvalidRoad) = some false)
    (xk_InvalidRoad_InvalidRoad : PySem.W.kitOne K (.ref C_InvalidRoad) (.ref C_InvalidRoad) = some true)
    (xk_InvalidText_InvalidRoad : PySem.W.kitOne K (.ref C_InvalidText) (.ref C_InvalidRoad) = some false)
    (xk_InvalidVoice_InvalidRoad : PySem.W.kitOne K (.ref C_InvalidVoice) (.ref C_InvalidRoad) = some false)
    (xk_InvalidCall_InvalidRoad : PySem.W.kitOne K (.ref C_InvalidCall) (.ref C_InvalidRoad) = some false)
    (xk_NoCall_InvalidCommand : PySem.W.kitOne K (.ref C_NoCall) (.ref C_InvalidCommand) = some false)
    (xk_Refused_InvalidCommand : PySem.W.kitOne K (.ref C_Refused) (.ref C_InvalidCommand) = some false)
    (xk_InvalidCommand_InvalidCommand : PySem.W.kitOne K (.ref C_InvalidCommand) (.ref C_InvalidCommand) = some true)
    (xk_InvalidFault_InvalidCommand : PySem.W.kitOne K (.ref C_InvalidFault) (.ref C_InvalidCommand) = some false)
    (xk_InvalidHeard_InvalidCommand : PySem.W.kitOne K (.ref C_InvalidHeard) (.ref C_InvalidCommand) = some false)
    (xk_InvalidGoing_InvalidCommand : PySem.W.kitOne K (.ref C_InvalidGoing) (.ref C_InvalidCommand) = some false)
    (xk_InvalidRoad_InvalidCommand : PySem.W.kitOne K (.ref C_InvalidRoad) (.ref C_InvalidCommand) = some false)
    (xk_InvalidText_InvalidCommand : PySem.W.kitOne K (.ref C_InvalidText) (.ref C_InvalidCommand) = some false)
    (xk_InvalidVoice_InvalidCommand : PySem.W.kitOne K (.ref C_InvalidVoice) (.ref C_InvalidCommand) = some false)
    (xk_InvalidCall_InvalidCommand : PySem.W.kitOne K (.ref C_InvalidCall) (.ref C_InvalidCommand) = some false)
    (xk_NoCall_InvalidFault : PySem.W.kitOne K (.ref C_NoCall) (.ref C_InvalidFault) = some false)
    (xk_Refused_InvalidFault : PySem.W.kitOne K (.ref C_Refused) (.ref C_InvalidFault) = some false)
    (xk_InvalidCommand_InvalidFault : PySem.W.kitOne K (.ref C_InvalidCommand) (.ref C_InvalidFault) = some false)
    (xk_InvalidFault_InvalidFault : PySem.W.kitOne K (.ref C_InvalidFault) (.ref C_InvalidFault) = some true)
    (xk_InvalidHeard_InvalidFault : PySem.W.kitOne K (.ref C_InvalidHeard) (.ref C_InvalidFault) = some false)
    (xk_InvalidGoing_InvalidFault : PySem.W.kitOne K (.ref C_InvalidGoing) (.ref C_InvalidFault) = some false)
    (xk_InvalidRoad_InvalidFault : PySem.W.kitOne K (.ref C_InvalidRoad) (.ref C_InvalidFault) = some false)
    (xk_InvalidText_InvalidFault : PySem.W.kitOne K (.ref C_InvalidText) (.ref C_InvalidFault) = some false)
    (xk_InvalidVoice_InvalidFault : PySem.W.kitOne K (.ref C_InvalidVoice) (.ref C_InvalidFault) = some false)
    (xk_InvalidCall_InvalidFault : PySem.W.kitOne K (.ref C_InvalidCall) (.ref C_InvalidFault) = some false)
    (xk_NoCall_Refused : PySem.W.kitOne K (.ref C_NoCall) (.ref C_Refused) = some false)
    (xk_Refused_Refused : PySem.W.kitOne K (.ref C_Refused) (.ref C_Refused) = some true)
    (xk_InvalidCommand_Refused : PySem.W.kitOne K (.ref C_InvalidCommand) (.ref C_Refused) = some false)
    (xk_InvalidFault_Refused : PySem.W.kitOne K (.ref C_InvalidFault) (.ref C_Refused) = some false)
    (xk_InvalidHeard_Refused : PySem.W.kitOne K (.ref C_InvalidHeard) (.ref C_Refused) = some false)
    (xk_InvalidGoing_Refused : PySem.W.kitOne K (.ref C_InvalidGoing) (.ref C_Refused) = some false)
    (xk_InvalidRoad_Refused : PySem.W.kitOne K (.ref C_InvalidRoad) (.ref C_Refused) = some false)
    (xk_InvalidText_Refused : PySem.W.kitOne K (.ref C_InvalidText) (.ref C_Refused) = some false)
    (xk_InvalidVoice_Refused : PySem.W.kitOne K (.ref C_InvalidVoice) (.ref C_Refused) = some false)
    (xk_InvalidCall_Refused : PySem.W.kitOne K (.ref C_InvalidCall) (.ref C_Refused) = some false)
    (xk_NoCall_NoCall : PySem.W.kitOne K (.ref C_NoCall) (.ref C_NoCall) = some true)
    (xk_Refused_NoCall : PySem.W.kitOne K (.ref C_Refused) (.ref C_NoCall) = some false)
    (xk_InvalidCommand_NoCall : PySem.W.kitOne K (.ref C_InvalidCommand) (.ref C_NoCall) = some false)
    (xk_InvalidFault_NoCall : PySem.W.kitOne K (.ref C_InvalidFault) (.ref C_NoCall) = some false)
    (xk_InvalidHeard_NoCall : PySem.W.kitOne K (.ref C_InvalidHeard) (.ref C_NoCall) = some false)
    (xk_InvalidGoing_NoCall : PySem.W.kitOne K (.ref C_InvalidGoing) (.ref C_NoCall) = some false)
    (xk_InvalidRoad_NoCall : PySem.W.kitOne K (.ref C_InvalidRoad) (.ref C_NoCall) = some false)
    (xk_InvalidText_NoCall : PySem.W.kitOne K (.ref C_InvalidText) (.ref C_NoCall) = some false)
    (xk_InvalidVoice_NoCall : PySem.W.kitOne K (.ref C_InvalidVoice) (.ref C_NoCall) = some false)
    (xk_InvalidCall_NoCall : PySem.W.kitOne K (.ref C_InvalidCall) (.ref C_NoCall) = some false)
    (xk_NoCall_RoadError : PySem.W.kitOne K (.ref C_NoCall) (.ref C_RoadError) = some false)
    (xk_Refused_RoadError : PySem.W.kitOne K (.ref C_Refused) (.ref C_RoadError) = some true)
    (xk_InvalidCommand_RoadError : PySem.W.kitOne K (.ref C_InvalidCommand) (.ref C_RoadError) = some true)
    (xk_InvalidFault_RoadError : PySem.W.kitOne K (.ref C_InvalidFault) (.ref C_RoadError) = some true)
    (xk_InvalidHeard_RoadError : PySem.W.kitOne K (.ref C_InvalidHeard) (.ref C_RoadError) = some true)
    (xk_InvalidGoing_RoadError : PySem.W.kitOne K (.ref C_InvalidGoing) (.ref C_RoadError) = some true)
    (xk_InvalidRoad_RoadError : PySem.W.kitOne K (.ref C_InvalidRoad) (.ref C_RoadError) = some true)
    (xk_InvalidText_RoadError : PySem.W.kitOne K (.ref C_InvalidText) (.ref C_RoadError) = some true)
    (xk_InvalidVoice_RoadError : PySem.W.kitOne K (.ref C_InvalidVoice) (.ref C_RoadError) = some true)
    (xk_InvalidCall_RoadError : PySem.W.kitOne K (.ref C_InvalidCall) (.ref C_RoadError) = some true)
    (xb_NoCall_ValueError : PySem.W.subIn K (.ref C_NoCall) (.type "ValueError") = some false)
    (xb_Refused_ValueError : PySem.W.subIn K (.ref C_Refused) (.type "ValueError") = some true)
    (xb_InvalidCommand_ValueError : PySem.W.subIn K (.ref C_InvalidCommand) (.type "ValueError") = some true)
    (xb_InvalidFault_ValueError : PySem.W.subIn K (.ref C_InvalidFault) (.type "ValueError") = some true)
    (xb_InvalidHeard_ValueError : PySem.W.subIn K (.ref C_InvalidHeard) (.type "ValueError") = some true)
    (xb_InvalidGoing_ValueError : PySem.W.subIn K (.ref C_InvalidGoing) (.type "ValueError") = some true)
    (xb_InvalidRoad_ValueError : PySem.W.subIn K (.ref C_InvalidRoad) (.type "ValueError") = some true)
    (xb_InvalidText_ValueError : PySem.W.subIn K (.ref C_InvalidText) (.type "ValueError") = some true)
    (xb_InvalidVoice_ValueError : PySem.W.subIn K (.ref C_InvalidVoice) (.type "ValueError") = some true)
    (xb_InvalidCall_ValueError : PySem.W.subIn K (.ref C_InvalidCall) (.type "ValueError") = some true)
    (xb_NoCall_IndexError : PySem.W.subIn K (.ref C_NoCall) (.type "IndexError") = some true)
    (xb_Refused_IndexError : PySem.W.subIn K (.ref C_Refused) (.type "IndexError") = some false)
    (xb_InvalidCommand_IndexError : PySem.W.subIn K (.ref C_InvalidCommand) (.type "IndexError") = some false)
    (xb_InvalidFault_IndexError : PySem.W.subIn K (.ref C_InvalidFault) (.type "IndexError") = some false)
    (xb_InvalidHeard_IndexError : PySem.W.subIn K (.ref C_InvalidHeard) (.type "IndexError") = some false)
    (xb_InvalidGoing_IndexError : PySem.W.subIn K (.ref C_InvalidGoing) (.type "IndexError") = some false)
    (xb_InvalidRoad_IndexError : PySem.W.subIn K (.ref C_InvalidRoad) (.type "IndexError") = some false)
    (xb_InvalidText_IndexError : PySem.W.subIn K (.ref C_InvalidText) (.type "IndexError") = some false)
    (xb_InvalidVoice_IndexError : PySem.W.subIn K (.ref C_InvalidVoice) (.type "IndexError") = some false)
    (xb_InvalidCall_IndexError : PySem.W.subIn K (.ref C_InvalidCall) (.type "IndexError") = some false)
    {f1 : Addr} {oc1 kV1 dc1 pm1 cd1 ct1 : Value} {od1 an1 : Option Addr} {sl1 : Array (Option Value)}
    (a1 : PySem.W.nsIn K mainGlobals "_law_classes" = some (some (.ref f1))) (l1 : K.lookup f1 = some ⟨oc1, od1, .func (PySem.W.fnOf "_law_classes" "_law_classes" (defArgs st_l_classes) (defBody st_l_classes) (defScope st_l_classes) .none kV1 dc1 pm1 an1 cd1 ct1), sl1⟩) (c1 : PySem.W.codeIn K cd1 "_law_classes" = true) (k1 : PySem.W.keepIn K (.ref f1) = true)
    {f2 : Addr} {oc2 kV2 dc2 pm2 cd2 ct2 : Value} {od2 an2 : Option Addr} {sl2 : Array (Option Value)}
    (a2 : PySem.W.nsIn K mainGlobals "_law_are_own" = some (some (.ref f2))) (l2 : K.lookup f2 = some ⟨oc2, od2, .func (PySem.W.fnOf "_law_are_own" "_law_are_own" (defArgs st_l_are_own) (defBody st_l_are_own) (defScope st_l_are_own) .none kV2 dc2 pm2 an2 cd2 ct2), sl2⟩) (c2 : PySem.W.codeIn K cd2 "_law_are_own" = true) (k2 : PySem.W.keepIn K (.ref f2) = true)
    {f3 : Addr} {oc3 kV3 dc3 pm3 cd3 ct3 : Value} {od3 an3 : Option Addr} {sl3 : Array (Option Value)}
    (a3 : PySem.W.nsIn K mainGlobals "_law_deal" = some (some (.ref f3))) (l3 : K.lookup f3 = some ⟨oc3, od3, .func (PySem.W.fnOf "_law_deal" "_law_deal" (defArgs st_l_deal) (defBody st_l_deal) (defScope st_l_deal) .none kV3 dc3 pm3 an3 cd3 ct3), sl3⟩) (c3 : PySem.W.codeIn K cd3 "_law_deal" = true) (k3 : PySem.W.keepIn K (.ref f3) = true)
    {f4 : Addr} {oc4 kV4 dc4 pm4 cd4 ct4 : Value} {od4 an4 : Option Addr} {sl4 : Array (Option Value)}
    (a4 : PySem.W.nsIn K mainGlobals "_law_draw" = some (some (.ref f4))) (l4 : K.lookup f4 = some ⟨oc4, od4, .func (PySem.W.fnOf "_law_draw" "_law_draw" (defArgs st_l_draw) (defBody st_l_draw) (defScope st_l_draw) .none kV4 dc4 pm4 an4 cd4 ct4), sl4⟩) (c4 : PySem.W.codeIn K cd4 "_law_draw" = true) (k4 : PySem.W.keepIn K (.ref f4) = true)
    {f5 : Addr} {oc5 kV5 dc5 pm5 cd5 ct5 : Value} {od5 an5 : Option Addr} {sl5 : Array (Option Value)}
    (a5 : PySem.W.nsIn K mainGlobals "_law_pick" = some (some (.ref f5))) (l5 : K.lookup f5 = some ⟨oc5, od5, .func (PySem.W.fnOf "_law_pick" "_law_pick" (defArgs st_l_pick) (defBody st_l_pick) (defScope st_l_pick) .none kV5 dc5 pm5 an5 cd5 ct5), sl5⟩) (c5 : PySem.W.codeIn K cd5 "_law_pick" = true) (k5 : PySem.W.keepIn K (.ref f5) = true)
    {f6 : Addr} {oc6 kV6 dc6 pm6 cd6 ct6 : Value} {od6 an6 : Option Addr} {sl6 : Array (Option Value)}
    (a6 : PySem.W.nsIn K mainGlobals "_law_thing" = some (some (.ref f6))) (l6 : K.lookup f6 = some ⟨oc6, od6, .func (PySem.W.fnOf "_law_thing" "_law_thing" (defArgs st_l_thing) (defBody st_l_thing) (defScope st_l_thing) .none kV6 dc6 pm6 an6 cd6 ct6), sl6⟩) (c6 : PySem.W.codeIn K cd6 "_law_thing" = true) (k6 : PySem.W.keepIn K (.ref f6) = true)
    {f7 : Addr} {oc7 kV7 dc7 pm7 cd7 ct7 : Value} {od7 an7 : Option Addr} {sl7 : Array (Option Value)}
    (a7 : PySem.W.nsIn K mainGlobals "law" = some (some (.ref f7))) (l7 : K.lookup f7 = some ⟨oc7, od7, .func (PySem.W.fnOf "law" "law" (defArgs st_law) (defBody st_law) (defScope st_law) .none kV7 dc7 pm7 an7 cd7 ct7), sl7⟩) (c7 : PySem.W.codeIn K cd7 "law" = true) (k7 : PySem.W.keepIn K (.ref f7) = true)
    (z_int : PySem.W.nsIn K mainGlobals "int" = some none)
    (z_abs : PySem.W.nsIn K mainGlobals "abs" = some none)
    (z_len : PySem.W.nsIn K mainGlobals "len" = some none)
    (z_range : PySem.W.nsIn K mainGlobals "range" = some none)
    (z_tuple : PySem.W.nsIn K mainGlobals "tuple" = some none)
    (z_repr : PySem.W.nsIn K mainGlobals "repr" = some none)
    (z_isinstance : PySem.W.nsIn K mainGlobals "isinstance" = some none)
    (z_ValueError : PySem.W.nsIn K mainGlobals "ValueError" = some none)
    (z_IndexError : PySem.W.nsIn K mainGlobals "IndexError" = some none)
    (z_enumerate : PySem.W.nsIn K mainGlobals "enumerate" = some none)
    (z_min : PySem.W.nsIn K mainGlobals "min" = some none)
    (z_max : PySem.W.nsIn K mainGlobals "max" = some none)
    : ∃ fd : FuncData, Fun K "law" "law" st_law fa fd ∧ (∀ (s : Shared) (u : Value), BindsTo s fd ⟨[u], []⟩ [("_law_script", u)]) ∧ ∃ cl : Str → Addr, ∀ (base : Heap) (cdv : Value) (A : Around) (outer : List PySem.Env) (s0 : Shared) (H : Hp) (E : XK),
      A.guards = some [] → Room 9 (A.deeper (envOfC "law" (defScope st_law) s0.heap.objs.size fa cdv)) →
        PSs (cxOf (L2.CX P w) P w K mg base ["_law_script", "_law_spot", "_law_deal_here", "_law_numbers", "_law_more", "_law_gone", "_law_kept", "_law_other", "_law_told", "_law_named", "_law_one"] "law" (defScope st_law) fa cdv A outer s0 H E) (defBody st_law) (tS ⟨K, cl, none, w⟩ (fun c d _ H' => E c d H') s_law) := by
  have e := hfa.symm.trans (PySem.W.mg_of X G a7)
  cases e
  let cl : Str → Addr := fun c => if c = "InvalidVoice" then C_InvalidVoice else if c = "InvalidCall" then C_InvalidCall else if c = "Refused" then C_Refused else if c = "InvalidHeard" then C_InvalidHeard else if c = "InvalidGoing" then C_InvalidGoing else if c = "InvalidRoad" then C_InvalidRoad else if c = "InvalidText" then C_InvalidText else if c = "NoCall" then C_NoCall else if c = "InvalidCommand" then C_InvalidCommand else if c = "InvalidFault" then C_InvalidFault else if c = "RoadError" then C_RoadError else 0
  have hcl_InvalidVoice : (⟨K, cl, none, w⟩ : Kx).cl "InvalidVoice" = C_InvalidVoice := by dsimp only [cl]; repeat (first | rw [if_pos rfl] | rw [if_neg (by decide)])
  have hcl_InvalidCall : (⟨K, cl, none, w⟩ : Kx).cl "InvalidCall" = C_InvalidCall := by dsimp only [cl]; repeat (first | rw [if_pos rfl] | rw [if_neg (by decide)])
  have hcl_Refused : (⟨K, cl, none, w⟩ : Kx).cl "Refused" = C_Refused := by dsimp only [cl]; repeat (first | rw [if_pos rfl] | rw [if_neg (by decide)])
  have hcl_InvalidHeard : (⟨K, cl, none, w⟩ : Kx).cl "InvalidHeard" = C_InvalidHeard := by dsimp only [cl]; repeat (first | rw [if_pos rfl] | rw [if_neg (by decide)])
  have hcl_InvalidGoing : (⟨K, cl, none, w⟩ : Kx).cl "InvalidGoing" = C_InvalidGoing := by dsimp only [cl]; repeat (first | rw [if_pos rfl] | rw [if_neg (by decide)])
  have hcl_InvalidRoad : (⟨K, cl, none, w⟩ : Kx).cl "InvalidRoad" = C_InvalidRoad := by dsimp only [cl]; repeat (first | rw [if_pos rfl] | rw [if_neg (by decide)])
  have hcl_InvalidText : (⟨K, cl, none, w⟩ : Kx).cl "InvalidText" = C_InvalidText := by dsimp only [cl]; repeat (first | rw [if_pos rfl] | rw [if_neg (by decide)])
  have hcl_NoCall : (⟨K, cl, none, w⟩ : Kx).cl "NoCall" = C_NoCall := by dsimp only [cl]; repeat (first | rw [if_pos rfl] | rw [if_neg (by decide)])
  have hcl_InvalidCommand : (⟨K, cl, none, w⟩ : Kx).cl "InvalidCommand" = C_InvalidCommand := by dsimp only [cl]; repeat (first | rw [if_pos rfl] | rw [if_neg (by decide)])
  have hcl_InvalidFault : (⟨K, cl, none, w⟩ : Kx).cl "InvalidFault" = C_InvalidFault := by dsimp only [cl]; repeat (first | rw [if_pos rfl] | rw [if_neg (by decide)])
  have hcl_RoadError : (⟨K, cl, none, w⟩ : Kx).cl "RoadError" = C_RoadError := by dsimp only [cl]; repeat (first | rw [if_pos rfl] | rw [if_neg (by decide)])
  have T : Tx P ⟨K, cl, none, w⟩ mg ⟨f1, (PySem.W.fnOf "_law_classes" "_law_classes" (defArgs st_l_classes) (defBody st_l_classes) (defScope st_l_classes) .none kV1 dc1 pm1 an1 cd1 ct1), f2, (PySem.W.fnOf "_law_are_own" "_law_are_own" (defArgs st_l_are_own) (defBody st_l_are_own) (defScope st_l_are_own) .none kV2 dc2 pm2 an2 cd2 ct2), f3, (PySem.W.fnOf "_law_deal" "_law_deal" (defArgs st_l_deal) (defBody st_l_deal) (defScope st_l_deal) .none kV3 dc3 pm3 an3 cd3 ct3), f4, (PySem.W.fnOf "_law_draw" "_law_draw" (defArgs st_l_draw) (defBody st_l_draw) (defScope st_l_draw) .none kV4 dc4 pm4 an4 cd4 ct4), f5, (PySem.W.fnOf "_law_pick" "_law_pick" (defArgs st_l_pick) (defBody st_l_pick) (defScope st_l_pick) .none kV5 dc5 pm5 an5 cd5 ct5), f6, (PySem.W.fnOf "_law_thing" "_law_thing" (defArgs st_l_thing) (defBody st_l_thing) (defScope st_l_thing) .none kV6 dc6 pm6 an6 cd6 ct6), fa, (PySem.W.fnOf "law" "law" (defArgs st_law) (defBody st_law) (defScope st_law) .none kV7 dc7 pm7 an7 cd7 ct7)⟩ :=
    { g_InvalidVoice := by rw [hcl_InvalidVoice]; exact PySem.W.mg_of X G a_InvalidVoice,
      g_InvalidCall := by rw [hcl_InvalidCall]; exact PySem.W.mg_of X G a_InvalidCall,
      g_Refused := by rw [hcl_Refused]; exact PySem.W.mg_of X G a_Refused,
      g_InvalidHeard := by rw [hcl_InvalidHeard]; exact PySem.W.mg_of X G a_InvalidHeard,
      g_InvalidGoing := by rw [hcl_InvalidGoing]; exact PySem.W.mg_of X G a_InvalidGoing,
      g_InvalidRoad := by rw [hcl_InvalidRoad]; exact PySem.W.mg_of X G a_InvalidRoad,
      g_InvalidText := by rw [hcl_InvalidText]; exact PySem.W.mg_of X G a_InvalidText,
      g_NoCall := by rw [hcl_NoCall]; exact PySem.W.mg_of X G a_NoCall,
      g_InvalidCommand := by rw [hcl_InvalidCommand]; exact PySem.W.mg_of X G a_InvalidCommand,
      g_InvalidFault := by rw [hcl_InvalidFault]; exact PySem.W.mg_of X G a_InvalidFault,
      g_RoadError := by rw [hcl_RoadError]; exact PySem.W.mg_of X G a_RoadError,
      R_InvalidVoice := by show ∃ fI, SupC P K mg _ _ _ _ _ _ _ fI; rw [hcl_InvalidVoice]; exact ⟨fe_InvalidVoice, ⟨PySem.F.excBase_ValueError, PySem.W.kxs_ValueError, PySem.F.store_ValueError, kr_InvalidVoice, kr2_InvalidVoice, PySem.W.any_some eh_InvalidVoice, kr3_InvalidVoice, e_op, e1_InvalidVoice, e2_InvalidVoice, e3_InvalidVoice, e4_InvalidVoice, eb_InvalidVoice, et_InvalidVoice, ek_InvalidVoice, e5_InvalidVoice, e6_InvalidVoice, ⟨_, _, _, _, _, _, _, _, _, _, _, _, _, _, _, _, _, _, _, _, _, _, _, _, e7_InvalidVoice, e8_InvalidVoice, sb_InvalidVoice, ss_InvalidVoice, rfl, fun _ _ => rfl, fun _ _ => rfl, e9_InvalidVoice, rr1_InvalidVoice, rr2_InvalidVoice, e0_InvalidVoice⟩, PySem.W.mg_none_of X G e_sup, rr_top, by decide, by decide⟩⟩,
      R_InvalidCall := by show ∃ fI, SupC P K mg _ _ _ _ _ _ _ fI; rw [hcl_InvalidCall]; exact ⟨fe_InvalidCall, ⟨PySem.F.excBase_ValueError, PySem.W.kxs_ValueError, PySem.F.store_ValueError, kr_InvalidCall, kr2_InvalidCall, PySem.W.any_some eh_InvalidCall, kr3_InvalidCall, e_op, e1_InvalidCall, e2_InvalidCall, e3_InvalidCall, e4_InvalidCall, eb_InvalidCall, et_InvalidCall, ek_InvalidCall, e5_InvalidCall, e6_InvalidCall, ⟨_, _, _, _, _, _, _, _, _, _, _, _, _, _, _, _, _, _, _, _, _, _, _, _, e7_InvalidCall, e8_InvalidCall, sb_InvalidCall, ss_InvalidCall, rfl, fun _ _ => rfl, fun _ _ => rfl, e9_InvalidCall, rr1_InvalidCall, rr2_InvalidCall, e0_InvalidCall⟩, PySem.W.mg_none_of X G e_sup, rr_top, by decide, by decide⟩⟩,
      R_Refused := by show ∃ fI, SupC P K mg _ _ _ _ _ _ _ fI; rw [hcl_Refused]; exact ⟨fe_Refused, ⟨PySem.F.excBase_ValueError, PySem.W.kxs_ValueError, PySem.F.store_ValueError, kr_Refused, kr2_Refused, PySem.W.any_some eh_Refused, kr3_Refused, e_op, e1_Refused, e2_Refused, e3_Refused, e4_Refused, eb_Refused, et_Refused, ek_Refused, e5_Refused, e6_Refused, ⟨_, _, _, _, _, _, _, _, _, _, _, _, _, _, _, _, _, _, _, _, _, _, _, _, e7_Refused, e8_Refused, sb_Refused, ss_Refused, rfl, fun _ _ => rfl, fun _ _ => rfl, e9_Refused, rr1_Refused, rr2_Refused, e0_Refused⟩, PySem.W.mg_none_of X G e_sup, rr_top, by decide, by decide⟩⟩,
      R_InvalidHeard := by show ∃ fI, SupC P K mg _ _ _ _ _ _ _ fI; rw [hcl_InvalidHeard]; exact ⟨fe_InvalidHeard, ⟨PySem.F.excBase_ValueError, PySem.W.kxs_ValueError, PySem.F.store_ValueError, kr_InvalidHeard, kr2_InvalidHeard, PySem.W.any_some eh_InvalidHeard, kr3_InvalidHeard, e_op, e1_InvalidHeard, e2_InvalidHeard, e3_InvalidHeard, e4_InvalidHeard, eb_InvalidHeard, et_InvalidHeard, ek_InvalidHeard, e5_InvalidHeard, e6_InvalidHeard, ⟨_, _, _, _, _, _, _, _, _, _, _, _, _, _, _, _, _, _, _, _, _, _, _, _, e7_InvalidHeard, e8_InvalidHeard, sb_InvalidHeard, ss_InvalidHeard, rfl, fun _ _ => rfl, fun _ _ => rfl, e9_InvalidHeard, rr1_InvalidHeard, rr2_InvalidHeard, e0_InvalidHeard⟩, PySem.W.mg_none_of X G e_sup, rr_top, by decide, by decide⟩⟩,
      R_InvalidGoing := by show ∃ fI, SupC P K mg _ _ _ _ _ _ _ fI; rw [hcl_InvalidGoing]; exact ⟨fe_InvalidGoing, ⟨PySem.F.excBase_ValueError, PySem.W.kxs_ValueError, PySem.F.store_ValueError, kr_InvalidGoing, kr2_InvalidGoing, PySem.W.any_some eh_InvalidGoing, kr3_InvalidGoing, e_op, e1_InvalidGoing, e2_InvalidGoing, e3_InvalidGoing, e4_InvalidGoing, eb_InvalidGoing, et_InvalidGoing, ek_InvalidGoing, e5_InvalidGoing, e6_InvalidGoing, ⟨_, _, _, _, _, _, _, _, _, _, _, _, _, _, _, _, _, _, _, _, _, _, _, _, e7_InvalidGoing, e8_InvalidGoing, sb_InvalidGoing, ss_InvalidGoing, rfl, fun _ _ => rfl, fun _ _ => rfl, e9_InvalidGoing, rr1_InvalidGoing, rr2_InvalidGoing, e0_InvalidGoing⟩, PySem.W.mg_none_of X G e_sup, rr_top, by decide, by decide⟩⟩,
      R_InvalidRoad := by show ∃ fI, SupC P K mg _ _ _ _ _ _ _ fI; rw [hcl_InvalidRoad]; exact ⟨fe_InvalidRoad, ⟨PySem.F.excBase_ValueError, PySem.W.kxs_ValueError, PySem.F.store_ValueError, kr_InvalidRoad, kr2_InvalidRoad, PySem.W.any_some eh_InvalidRoad, kr3_InvalidRoad, e_op, e1_InvalidRoad, e2_InvalidRoad, e3_InvalidRoad, e4_InvalidRoad, eb_InvalidRoad, et_InvalidRoad, ek_InvalidRoad, e5_InvalidRoad, e6_InvalidRoad, ⟨_, _, _, _, _, _, _, _, _, _, _, _, _, _, _, _, _, _, _, _, _, _, _, _, e7_InvalidRoad, e8_InvalidRoad, sb_InvalidRoad, ss_InvalidRoad, rfl, fun _ _ => rfl, fun _ _ => rfl, e9_InvalidRoad, rr1_InvalidRoad, rr2_InvalidRoad, e0_InvalidRoad⟩, PySem.W.mg_none_of X G e_sup, rr_top, by decide, by decide⟩⟩,
      R_InvalidText := by show ∃ fI, SupC P K mg _ _ _ _ _ _ _ fI; rw [hcl_InvalidText]; exact ⟨fe_InvalidText, ⟨PySem.F.excBase_ValueError, PySem.W.kxs_ValueError, PySem.F.store_ValueError, kr_InvalidText, kr2_InvalidText, PySem.W.any_some eh_InvalidText, kr3_InvalidText, e_op, e1_InvalidText, e2_InvalidText, e3_InvalidText, e4_InvalidText, eb_InvalidText, et_InvalidText, ek_InvalidText, e5_InvalidText, e6_InvalidText, ⟨_, _, _, _, _, _, _, _, _, _, _, _, _, _, _, _, _, _, _, _, _, _, _, _, e7_InvalidText, e8_InvalidText, sb_InvalidText, ss_InvalidText, rfl, fun _ _ => rfl, fun _ _ => rfl, e9_InvalidText, rr1_InvalidText, rr2_InvalidText, e0_InvalidText⟩, PySem.W.mg_none_of X G e_sup, rr_top, by decide, by decide⟩⟩,
      R_NoCall := by show ∃ fI, SupC P K mg _ _ _ _ _ _ _ fI; rw [hcl_NoCall]; exact ⟨fe_NoCall, ⟨PySem.F.excBase_IndexError, PySem.W.kxs_IndexError, PySem.F.store_IndexError, kr_NoCall, kr2_NoCall, PySem.W.any_some eh_NoCall, kr3_NoCall, e_op, e1_NoCall, e2_NoCall, e3_NoCall, e4_NoCall, eb_NoCall, et_NoCall, ek_NoCall, e5_NoCall, e6_NoCall, ⟨_, _, _, _, _, _, _, _, _, _, _, _, _, _, _, _, _, _, _, _, _, _, _, _, e7_NoCall, e8_NoCall, sb_NoCall, ss_NoCall, rfl, fun _ _ => rfl, fun _ _ => rfl, e9_NoCall, rr1_NoCall, rr2_NoCall, e0_NoCall⟩, PySem.W.mg_none_of X G e_sup, rr_top, by decide, by decide⟩⟩,
      R_InvalidCommand := by show Sup0 K _ _ _ _ _; rw [hcl_InvalidCommand]; exact ⟨PySem.F.excBase_ValueError, kr_InvalidCommand, eb_InvalidCommand, et_InvalidCommand, ek_InvalidCommand⟩,
      R_InvalidFault := by show Sup0 K _ _ _ _ _; rw [hcl_InvalidFault]; exact ⟨PySem.F.excBase_ValueError, kr_InvalidFault, eb_InvalidFault, et_InvalidFault, ek_InvalidFault⟩,
      xc_InvalidVoice := by show XcC K _; rw [hcl_InvalidVoice]; exact ⟨ga_InvalidVoice, gg_InvalidVoice, eb_InvalidVoice, eh_InvalidVoice, ca_InvalidVoice, xcn, xct, cm_InvalidVoice⟩,
      xc_InvalidCall := by show XcC K _; rw [hcl_InvalidCall]; exact ⟨ga_InvalidCall, gg_InvalidCall, eb_InvalidCall, eh_InvalidCall, ca_InvalidCall, xcn, xct, cm_InvalidCall⟩,
      xc_NoCall := by show XcC K _; rw [hcl_NoCall]; exact ⟨ga_NoCall, gg_NoCall, eb_NoCall, eh_NoCall, ca_NoCall, xcn, xct, cm_NoCall⟩,
      xc_Refused := by show XcC K _; rw [hcl_Refused]; exact ⟨ga_Refused, gg_Refused, eb_Refused, eh_Refused, ca_Refused, xcn, xct, cm_Refused⟩,
      xc_InvalidHeard := by show XcC K _; rw [hcl_InvalidHeard]; exact ⟨ga_InvalidHeard, gg_InvalidHeard, eb_InvalidHeard, eh_InvalidHeard, ca_InvalidHeard, xcn, xct, cm_InvalidHeard⟩,
      xc_InvalidGoing := by show XcC K _; rw [hcl_InvalidGoing]; exact ⟨ga_InvalidGoing, gg_InvalidGoing, eb_InvalidGoing, eh_InvalidGoing, ca_InvalidGoing, xcn, xct, cm_InvalidGoing⟩,
      xc_InvalidRoad := by show XcC K _; rw [hcl_InvalidRoad]; exact ⟨ga_InvalidRoad, gg_InvalidRoad, eb_InvalidRoad, eh_InvalidRoad, ca_InvalidRoad, xcn, xct, cm_InvalidRoad⟩,
      xc_InvalidText := by show XcC K _; rw [hcl_InvalidText]; exact ⟨ga_InvalidText, gg_InvalidText, eb_InvalidText, eh_InvalidText, ca_InvalidText, xcn, xct, cm_InvalidText⟩,
      xc_InvalidCommand := by show XcC K _; rw [hcl_InvalidCommand]; exact ⟨ga_InvalidCommand, gg_InvalidCommand, eb_InvalidCommand, eh_InvalidCommand, ca_InvalidCommand, xcn, xct, cm_InvalidCommand⟩,
      xc_InvalidFault := by show XcC K _; rw [hcl_InvalidFault]; exact ⟨ga_InvalidFault, gg_InvalidFault, eb_InvalidFault, eh_InvalidFault, ca_InvalidFault, xcn, xct, cm_InvalidFault⟩,
      xn_InvalidCall_word := by show PySem.W.findIn K (.ref _) _ = _; rw [hcl_InvalidCall]; exact xn_InvalidCall_word,
      xn_InvalidGoing_at := by show PySem.W.findIn K (.ref _) _ = _; rw [hcl_InvalidGoing]; exact xn_InvalidGoing_at,
      xn_InvalidHeard_at := by show PySem.W.findIn K (.ref _) _ = _; rw [hcl_InvalidHeard]; exact xn_InvalidHeard_at,
      xn_InvalidRoad_at := by show PySem.W.findIn K (.ref _) _ = _; rw [hcl_InvalidRoad]; exact xn_InvalidRoad_at,
      xn_InvalidText_at := by show PySem.W.findIn K (.ref _) _ = _; rw [hcl_InvalidText]; exact xn_InvalidText_at,
      xn_InvalidVoice_word := by show PySem.W.findIn K (.ref _) _ = _; rw [hcl_InvalidVoice]; exact xn_InvalidVoice_word,
      xn_NoCall_at := by show PySem.W.findIn K (.ref _) _ = _; rw [hcl_NoCall]; exact xn_NoCall_at,
      xn_Refused_at := by show PySem.W.findIn K (.ref _) _ = _; rw [hcl_Refused]; exact xn_Refused_at,
      xk_NoCall_InvalidText := by show PySem.W.kitOne K (.ref _) (.ref _) = _; rw [hcl_NoCall, hcl_InvalidText]; exact xk_NoCall_InvalidText,
      xk_Refused_InvalidText := by show PySem.W.kitOne K (.ref _) (.ref _) = _; rw [hcl_Refused, hcl_InvalidText]; exact xk_Refused_InvalidText,
      xk_InvalidCommand_InvalidText := by show PySem.W.kitOne K (.ref _) (.ref _) = _; rw [hcl_InvalidCommand, hcl_InvalidText]; exact xk_InvalidCommand_InvalidText,
      xk_InvalidFault_InvalidText := by show PySem.W.kitOne K (.ref _) (.ref _) = _; rw [hcl_InvalidFault, hcl_InvalidText]; exact xk_InvalidFault_InvalidText,
      xk_InvalidHeard_InvalidText := by show PySem.W.kitOne K (.ref _) (.ref _) = _; rw [hcl_InvalidHeard, hcl_InvalidText]; exact xk_InvalidHeard_InvalidText,
      xk_InvalidGoing_InvalidText := by show PySem.W.kitOne K (.ref _) (.ref _) = _; rw [hcl_InvalidGoing, hcl_InvalidText]; exact xk_InvalidGoing_InvalidText,
      xk_InvalidRoad_InvalidText := by show PySem.W.kitOne K (.ref _) (.ref _) = _; rw [hcl_InvalidRoad, hcl_InvalidText]; exact xk_InvalidRoad_InvalidText,
      xk_InvalidText_InvalidText := by show PySem.W.kitOne K (.ref _) (.ref _) = _; rw [hcl_InvalidText]; exact xk_InvalidText_InvalidText,
      xk_InvalidVoice_InvalidText := by show PySem.W.kitOne K (.ref _) (.ref _) = _; rw [hcl_InvalidVoice, hcl_InvalidText]; exact xk_InvalidVoice_InvalidText,
      xk_InvalidCall_InvalidText := by show PySem.W.kitOne K (.ref _) (.ref _) = _; rw [hcl_InvalidCall, hcl_InvalidText]; exact xk_InvalidCall_InvalidText,
      xk_NoCall_InvalidVoice := by show PySem.W.kitOne K (.ref _) (.ref _) = _; rw [hcl_NoCall, hcl_InvalidVoice]; exact xk_NoCall_InvalidVoice,
      xk_Refused_InvalidVoice := by show PySem.W.kitOne K (.ref _) (.ref _) = _; rw [hcl_Refused, hcl_InvalidVoice]; exact xk_Refused_InvalidVoice,
      xk_InvalidCommand_InvalidVoice := by show PySem.W.kitOne K (.ref _) (.ref _) = _; rw [hcl_InvalidCommand, hcl_InvalidVoice]; exact xk_InvalidCommand_InvalidVoice,
      xk_InvalidFault_InvalidVoice := by show PySem.W.kitOne K (.ref _) (.ref _) = _; rw [hcl_InvalidFault, hcl_InvalidVoice]; exact xk_InvalidFault_InvalidVoice,
      xk_InvalidHeard_InvalidVoice := by show PySem.W.kitOne K (.ref _) (.ref _) = _; rw [hcl_InvalidHeard, hcl_InvalidVoice]; exact xk_InvalidHeard_InvalidVoice,
      xk_InvalidGoing_InvalidVoice := by show PySem.W.kitOne K (.ref _) (.ref _) = _; rw [hcl_InvalidGoing, hcl_InvalidVoice]; exact xk_InvalidGoing_InvalidVoice,
      xk_InvalidRoad_InvalidVoice := by show PySem.W.kitOne K (.ref _) (.ref _) = _; rw [hcl_InvalidRoad, hcl_InvalidVoice]; exact xk_InvalidRoad_InvalidVoice,
      xk_InvalidText_InvalidVoice := by show PySem.W.kitOne K (.ref _) (.ref _) = _; rw [hcl_InvalidText, hcl_InvalidVoice]; exact xk_InvalidText_InvalidVoice,
      xk_InvalidVoice_InvalidVoice := by show PySem.W.kitOne K (.ref _) (.ref _) = _; rw [hcl_InvalidVoice]; exact xk_InvalidVoice_InvalidVoice,
      xk_InvalidCall_InvalidVoice := by show PySem.W.kitOne K (.ref _) (.ref _) = _; rw [hcl_InvalidCall, hcl_InvalidVoice]; exact xk_InvalidCall_InvalidVoice,
      xk_NoCall_InvalidCall := by show PySem.W.kitOne K (.ref _) (.ref _) = _; rw [hcl_NoCall, hcl_InvalidCall]; exact xk_NoCall_InvalidCall,
      xk_Refused_InvalidCall := by show PySem.W.kitOne K (.ref _) (.ref _) = _; rw [hcl_Refused, hcl_InvalidCall]; exact xk_Refused_InvalidCall,
      xk_InvalidCommand_InvalidCall := by show PySem.W.kitOne K (.ref _) (.ref _) = _; rw [hcl_InvalidCommand, hcl_InvalidCall]; exact xk_InvalidCommand_InvalidCall,
      xk_InvalidFault_InvalidCall := by show PySem.W.kitOne K (.ref _) (.ref _) = _; rw [hcl_InvalidFault, hcl_InvalidCall]; exact xk_InvalidFault_InvalidCall,
      xk_InvalidHeard_InvalidCall := by show PySem.W.kitOne K (.ref _) (.ref _) = _; rw [hcl_InvalidHeard, hcl_InvalidCall]; exact xk_InvalidHeard_InvalidCall,
      xk_InvalidGoing_InvalidCall := by show PySem.W.kitOne K (.ref _) (.ref _) = _; rw [hcl_InvalidGoing, hcl_InvalidCall]; exact xk_InvalidGoing_InvalidCall,
      xk_InvalidRoad_InvalidCall := by show PySem.W.kitOne K (.ref _) (.ref _) = _; rw [hcl_InvalidRoad, hcl_InvalidCall]; exact xk_InvalidRoad_InvalidCall,
      xk_InvalidText_InvalidCall := by show PySem.W.kitOne K (.ref _) (.ref _) = _; rw [hcl_InvalidText, hcl_InvalidCall]; exact xk_InvalidText_InvalidCall,
      xk_InvalidVoice_InvalidCall := by show PySem.W.kitOne K (.ref _) (.ref _) = _; rw [hcl_InvalidVoice, hcl_InvalidCall]; exact xk_InvalidVoice_InvalidCall,
      xk_InvalidCall_InvalidCall := by show PySem.W.kitOne K (.ref _) (.ref _) = _; rw [hcl_InvalidCall]; exact xk_InvalidCall_InvalidCall,
      xk_NoCall_InvalidHeard := by show PySem.W.kitOne K (.ref _) (.ref _) = _; rw [hcl_NoCall, hcl_InvalidHeard]; exact xk_NoCall_InvalidHeard,
      xk_Refused_InvalidHeard := by show PySem.W.kitOne K (.ref _) (.ref _) = _; rw [hcl_Refused, hcl_InvalidHeard]; exact xk_Refused_InvalidHeard,
      xk_InvalidCommand_InvalidHeard := by show PySem.W.kitOne K (.ref _) (.ref _) = _; rw [hcl_InvalidCommand, hcl_InvalidHeard]; exact xk_InvalidCommand_InvalidHeard,
      xk_InvalidFault_InvalidHeard := by show PySem.W.kitOne K (.ref _) (.ref _) = _; rw [hcl_InvalidFault, hcl_InvalidHeard]; exact xk_InvalidFault_InvalidHeard,
      xk_InvalidHeard_InvalidHeard := by show PySem.W.kitOne K (.ref _) (.ref _) = _; rw [hcl_InvalidHeard]; exact xk_InvalidHeard_InvalidHeard,
      xk_InvalidGoing_InvalidHeard := by show PySem.W.kitOne K (.ref _) (.ref _) = _; rw [hcl_InvalidGoing, hcl_InvalidHeard]; exact xk_InvalidGoing_InvalidHeard,
      xk_InvalidRoad_InvalidHeard := by show PySem.W.kitOne K (.ref _) (.ref _) = _; rw [hcl_InvalidRoad, hcl_InvalidHeard]; exact xk_InvalidRoad_InvalidHeard,
      xk_InvalidText_InvalidHeard := by show PySem.W.kitOne K (.ref _) (.ref _) = _; rw [hcl_InvalidText, hcl_InvalidHeard]; exact xk_InvalidText_InvalidHeard,
      xk_InvalidVoice_InvalidHeard := by show PySem.W.kitOne K (.ref _) (.ref _) = _; rw [hcl_InvalidVoice, hcl_InvalidHeard]; exact xk_InvalidVoice_InvalidHeard,
      xk_InvalidCall_InvalidHeard := by show PySem.W.kitOne K (.ref _) (.ref _) = _; rw [hcl_InvalidCall, hcl_InvalidHeard]; exact xk_InvalidCall_InvalidHeard,
      xk_NoCall_InvalidGoing := by show PySem.W.kitOne K (.ref _) (.ref _) = _; rw [hcl_NoCall, hcl_InvalidGoing]; exact xk_NoCall_InvalidGoing,
      xk_Refused_InvalidGoing := by show PySem.W.kitOne K (.ref _) (.ref _) = _; rw [hcl_Refused, hcl_InvalidGoing]; exact xk_Refused_InvalidGoing,
      xk_InvalidCommand_InvalidGoing := by show PySem.W.kitOne K (.ref _) (.ref _) = _; rw [hcl_InvalidCommand, hcl_InvalidGoing]; exact xk_InvalidCommand_InvalidGoing,
      xk_InvalidFault_InvalidGoing := by show PySem.W.kitOne K (.ref _) (.ref _) = _; rw [hcl_InvalidFault, hcl_InvalidGoing]; exact xk_InvalidFault_InvalidGoing,
      xk_InvalidHeard_InvalidGoing := by show PySem.W.kitOne K (.ref _) (.ref _) = _; rw [hcl_InvalidHeard, hcl_InvalidGoing]; exact xk_InvalidHeard_InvalidGoing,
      xk_InvalidGoing_InvalidGoing := by show PySem.W.kitOne K (.ref _) (.ref _) = _; rw [hcl_InvalidGoing]; exact xk_InvalidGoing_InvalidGoing,
      xk_InvalidRoad_InvalidGoing := by show PySem.W.kitOne K (.ref _) (.ref _) = _; rw [hcl_InvalidRoad, hcl_InvalidGoing]; exact xk_InvalidRoad_InvalidGoing,
      xk_InvalidText_InvalidGoing := by show PySem.W.kitOne K (.ref _) (.ref _) = _; rw [hcl_InvalidText, hcl_InvalidGoing]; exact xk_InvalidText_InvalidGoing,
      xk_InvalidVoice_InvalidGoing := by show PySem.W.kitOne K (.ref _) (.ref _) = _; rw [hcl_InvalidVoice, hcl_InvalidGoing]; exact xk_InvalidVoice_InvalidGoing,
      xk_InvalidCall_InvalidGoing := by show PySem.W.kitOne K (.ref _) (.ref _) = _; rw [hcl_InvalidCall, hcl_InvalidGoing]; exact xk_InvalidCall_InvalidGoing,
      xk_NoCall_InvalidRoad := by show PySem.W.kitOne K (.ref _) (.ref _) = _; rw [hcl_NoCall, hcl_InvalidRoad]; exact xk_NoCall_InvalidRoad,
      xk_Refused_InvalidRoad := by show PySem.W.kitOne K (.ref _) (.ref _) = _; rw [hcl_Refused, hcl_InvalidRoad]; exact xk_Refused_InvalidRoad,
      xk_InvalidCommand_InvalidRoad := by show PySem.W.kitOne K (.ref _) (.ref _) = _; rw [hcl_InvalidCommand, hcl_InvalidRoad]; exact xk_InvalidCommand_InvalidRoad,
      xk_InvalidFault_InvalidRoad := by show PySem.W.kitOne K (.ref _) (.ref _) = _; rw [hcl_InvalidFault, hcl_InvalidRoad]; exact xk_InvalidFault_InvalidRoad,
      xk_InvalidHeard_InvalidRoad := by show PySem.W.kitOne K (.ref _) (.ref _) = _; rw [hcl_InvalidHeard, hcl_InvalidRoad]; exact xk_InvalidHeard_InvalidRoad,
      xk_InvalidGoing_InvalidRoad := by show PySem.W.kitOne K (.ref _) (.ref _) = _; rw [hcl_InvalidGoing, hcl_InvalidRoad]; exact xk_InvalidGoing_InvalidRoad,
      xk_InvalidRoad_InvalidRoad := by show PySem.W.kitOne K (.ref _) (.ref _) = _; rw [hcl_InvalidRoad]; exact xk_InvalidRoad_InvalidRoad,
      xk_InvalidText_InvalidRoad := by show PySem.W.kitOne K (.ref _) (.ref _) = _; rw [hcl_InvalidText, hcl_InvalidRoad]; exact xk_InvalidText_InvalidRoad,
      xk_InvalidVoice_InvalidRoad := by show PySem.W.kitOne K (.ref _) (.ref _) = _; rw [hcl_InvalidVoice, hcl_InvalidRoad]; exact xk_InvalidVoice_InvalidRoad,
      xk_InvalidCall_InvalidRoad := by show PySem.W.kitOne K (.ref _) (.ref _) = _; rw [hcl_InvalidCall, hcl_InvalidRoad]; exact xk_InvalidCall_InvalidRoad,
      xk_NoCall_InvalidCommand := by show PySem.W.kitOne K (.ref _) (.ref _) = _; rw [hcl_NoCall, hcl_InvalidCommand]; exact xk_NoCall_InvalidCommand,
      xk_Refused_InvalidCommand := by show PySem.W.kitOne K (.ref _) (.ref _) = _; rw [hcl_Refused, hcl_InvalidCommand]; exact xk_Refused_InvalidCommand,
      xk_InvalidCommand_InvalidCommand := by show PySem.W.kitOne K (.ref _) (.ref _) = _; rw [hcl_InvalidCommand]; exact xk_InvalidCommand_InvalidCommand,
      xk_InvalidFault_InvalidCommand := by show PySem.W.kitOne K (.ref _) (.ref _) = _; rw [hcl_InvalidFault, hcl_InvalidCommand]; exact xk_InvalidFault_InvalidCommand,
      xk_InvalidHeard_InvalidCommand := by show PySem.W.kitOne K (.ref _) (.ref _) = _; rw [hcl_InvalidHeard, hcl_InvalidCommand]; exact xk_InvalidHeard_InvalidCommand,
      xk_InvalidGoing_InvalidCommand := by show PySem.W.kitOne K (.ref _) (.ref _) = _; rw [hcl_InvalidGoing, hcl_InvalidCommand]; exact xk_InvalidGoing_InvalidCommand,
      xk_InvalidRoad_InvalidCommand := by show PySem.W.kitOne K (.ref _) (.ref _) = _; rw [hcl_InvalidRoad, hcl_InvalidCommand]; exact xk_InvalidRoad_InvalidCommand,
      xk_InvalidText_InvalidCommand := by show PySem.W.kitOne K (.ref _) (.ref _) = _; rw [hcl_InvalidText, hcl_InvalidCommand]; exact xk_InvalidText_InvalidCommand,
      xk_InvalidVoice_InvalidCommand := by show PySem.W.kitOne K (.ref _) (.ref _) = _; rw [hcl_InvalidVoice, hcl_InvalidCommand]; exact xk_InvalidVoice_InvalidCommand,
      xk_InvalidCall_InvalidCommand := by show PySem.W.kitOne K (.ref _) (.ref _) = _; rw [hcl_InvalidCall, hcl_InvalidCommand]; exact xk_InvalidCall_InvalidCommand,
      xk_NoCall_InvalidFault := by show PySem.W.kitOne K (.ref _) (.ref _) = _; rw [hcl_NoCall, hcl_InvalidFault]; exact xk_NoCall_InvalidFault,
      xk_Refused_InvalidFault := by show PySem.W.kitOne K (.ref _) (.ref _) = _; rw [hcl_Refused, hcl_InvalidFault]; exact xk_Refused_InvalidFault,
      xk_InvalidCommand_InvalidFault := by show PySem.W.kitOne K (.ref _) (.ref _) = _; rw [hcl_InvalidCommand, hcl_InvalidFault]; exact xk_InvalidCommand_InvalidFault,
      xk_InvalidFault_InvalidFault := by show PySem.W.kitOne K (.ref _) (.ref _) = _; rw [hcl_InvalidFault]; exact xk_InvalidFault_InvalidFault,
      xk_InvalidHeard_InvalidFault := by show PySem.W.kitOne K (.ref _) (.ref _) = _; rw [hcl_InvalidHeard, hcl_InvalidFault]; exact xk_InvalidHeard_InvalidFault,
      xk_InvalidGoing_InvalidFault := by show PySem.W.kitOne K (.ref _) (.ref _) = _; rw [hcl_InvalidGoing, hcl_InvalidFault]; exact xk_InvalidGoing_InvalidFault,
      xk_InvalidRoad_InvalidFault := by show PySem.W.kitOne K (.ref _) (.ref _) = _; rw [hcl_InvalidRoad, hcl_InvalidFault]; exact xk_InvalidRoad_InvalidFault,
      xk_InvalidText_InvalidFault := by show PySem.W.kitOne K (.ref _) (.ref _) = _; rw [hcl_InvalidText, hcl_InvalidFault]; exact xk_InvalidText_InvalidFault,
      xk_InvalidVoice_InvalidFault := by show PySem.W.kitOne K (.ref _) (.ref _) = _; rw [hcl_InvalidVoice, hcl_InvalidFault]; exact xk_InvalidVoice_InvalidFault,
      xk_InvalidCall_InvalidFault := by show PySem.W.kitOne K (.ref _) (.ref _) = _; rw [hcl_InvalidCall, hcl_InvalidFault]; exact xk_InvalidCall_InvalidFault,
      xk_NoCall_Refused := by show PySem.W.kitOne K (.ref _) (.ref _) = _; rw [hcl_NoCall, hcl_Refused]; exact xk_NoCall_Refused,
      xk_Refused_Refused := by show PySem.W.kitOne K (.ref _) (.ref _) = _; rw [hcl_Refused]; exact xk_Refused_Refused,
      xk_InvalidCommand_Refused := by show PySem.W.kitOne K (.ref _) (.ref _) = _; rw [hcl_InvalidCommand, hcl_Refused]; exact xk_InvalidCommand_Refused,
      xk_InvalidFault_Refused := by show PySem.W.kitOne K (.ref _) (.ref _) = _; rw [hcl_InvalidFault, hcl_Refused]; exact xk_InvalidFault_Refused,
      xk_InvalidHeard_Refused := by show PySem.W.kitOne K (.ref _) (.ref _) = _; rw [hcl_InvalidHeard, hcl_Refused]; exact xk_InvalidHeard_Refused,
      xk_InvalidGoing_Refused := by show PySem.W.kitOne K (.ref _) (.ref _) = _; rw [hcl_InvalidGoing, hcl_Refused]; exact xk_InvalidGoing_Refused,
      xk_InvalidRoad_Refused := by show PySem.W.kitOne K (.ref _) (.ref _) = _; rw [hcl_InvalidRoad, hcl_Refused]; exact xk_InvalidRoad_Refused,
      xk_InvalidText_Refused := by show PySem.W.kitOne K (.ref _) (.ref _) = _; rw [hcl_InvalidText, hcl_Refused]; exact xk_InvalidText_Refused,
      xk_InvalidVoice_Refused := by show PySem.W.kitOne K (.ref _) (.ref _) = _; rw [hcl_InvalidVoice, hcl_Refused]; exact xk_InvalidVoice_Refused,
      xk_InvalidCall_Refused := by show PySem.W.kitOne K (.ref _) (.ref _) = _; rw [hcl_InvalidCall, hcl_Refused]; exact xk_InvalidCall_Refused,
      xk_NoCall_NoCall := by show PySem.W.kitOne K (.ref _) (.ref _) = _; rw [hcl_NoCall]; exact xk_NoCall_NoCall,
      xk_Refused_NoCall := by show PySem.W.kitOne K (.ref _) (.ref _) = _; rw [hcl_Refused, hcl_NoCall]; exact xk_Refused_NoCall,
      xk_InvalidCommand_NoCall := by show PySem.W.kitOne K (.ref _) (.ref _) = _; rw [hcl_InvalidCommand, hcl_NoCall]; exact xk_InvalidCommand_NoCall,
      xk_InvalidFault_NoCall := by show PySem.W.kitOne K (.ref _) (.ref _) = _; rw [hcl_InvalidFault, hcl_NoCall]; exact xk_InvalidFault_NoCall,
      xk_InvalidHeard_NoCall := by show PySem.W.kitOne K (.ref _) (.ref _) = _; rw [hcl_InvalidHeard, hcl_NoCall]; exact xk_InvalidHeard_NoCall,
      xk_InvalidGoing_NoCall := by show PySem.W.kitOne K (.ref _) (.ref _) = _; rw [hcl_InvalidGoing, hcl_NoCall]; exact xk_InvalidGoing_NoCall,
      xk_InvalidRoad_NoCall := by show PySem.W.kitOne K (.ref _) (.ref _) = _; rw [hcl_InvalidRoad, hcl_NoCall]; exact xk_InvalidRoad_NoCall,
      xk_InvalidText_NoCall := by show PySem.W.kitOne K (.ref _) (.ref _) = _; rw [hcl_InvalidText, hcl_NoCall]; exact xk_InvalidText_NoCall,
      xk_InvalidVoice_NoCall := by show PySem.W.kitOne K (.ref _) (.ref _) = _; rw [hcl_InvalidVoice, hcl_NoCall]; exact xk_InvalidVoice_NoCall,
      xk_InvalidCall_NoCall := by show PySem.W.kitOne K (.ref _) (.ref _) = _; rw [hcl_InvalidCall, hcl_NoCall]; exact xk_InvalidCall_NoCall,
      xk_NoCall_RoadError := by show PySem.W.kitOne K (.ref _) (.ref _) = _; rw [hcl_NoCall, hcl_RoadError]; exact xk_NoCall_RoadError,
      xk_Refused_RoadError := by show PySem.W.kitOne K (.ref _) (.ref _) = _; rw [hcl_Refused, hcl_RoadError]; exact xk_Refused_RoadError,
      xk_InvalidCommand_RoadError := by show PySem.W.kitOne K (.ref _) (.ref _) = _; rw [hcl_InvalidCommand, hcl_RoadError]; exact xk_InvalidCommand_RoadError,
      xk_InvalidFault_RoadError := by show PySem.W.kitOne K (.ref _) (.ref _) = _; rw [hcl_InvalidFault, hcl_RoadError]; exact xk_InvalidFault_RoadError,
      xk_InvalidHeard_RoadError := by show PySem.W.kitOne K (.ref _) (.ref _) = _; rw [hcl_InvalidHeard, hcl_RoadError]; exact xk_InvalidHeard_RoadError,
      xk_InvalidGoing_RoadError := by show PySem.W.kitOne K (.ref _) (.ref _) = _; rw [hcl_InvalidGoing, hcl_RoadError]; exact xk_InvalidGoing_RoadError,
      xk_InvalidRoad_RoadError := by show PySem.W.kitOne K (.ref _) (.ref _) = _; rw [hcl_InvalidRoad, hcl_RoadError]; exact xk_InvalidRoad_RoadError,
      xk_InvalidText_RoadError := by show PySem.W.kitOne K (.ref _) (.ref _) = _; rw [hcl_InvalidText, hcl_RoadError]; exact xk_InvalidText_RoadError,
      xk_InvalidVoice_RoadError := by show PySem.W.kitOne K (.ref _) (.ref _) = _; rw [hcl_InvalidVoice, hcl_RoadError]; exact xk_InvalidVoice_RoadError,
      xk_InvalidCall_RoadError := by show PySem.W.kitOne K (.ref _) (.ref _) = _; rw [hcl_InvalidCall, hcl_RoadError]; exact xk_InvalidCall_RoadError,
      xb_NoCall_ValueError := by show PySem.W.kitOne K (.ref _) _ = _; rw [hcl_NoCall]; exact kit_ty (by decide +kernel) xb_NoCall_ValueError,
      xb_Refused_ValueError := by show PySem.W.kitOne K (.ref _) _ = _; rw [hcl_Refused]; exact kit_ty (by decide +kernel) xb_Refused_ValueError,
      xb_InvalidCommand_ValueError := by show PySem.W.kitOne K (.ref _) _ = _; rw [hcl_InvalidCommand]; exact kit_ty (by decide +kernel) xb_InvalidCommand_ValueError,
      xb_InvalidFault_ValueError := by show PySem.W.kitOne K (.ref _) _ = _; rw [hcl_InvalidFault]; exact kit_ty (by decide +kernel) xb_InvalidFault_ValueError,
      xb_InvalidHeard_ValueError := by show PySem.W.kitOne K (.ref _) _ = _; rw [hcl_InvalidHeard]; exact kit_ty (by decide +kernel) xb_InvalidHeard_ValueError,
      xb_InvalidGoing_ValueError := by show PySem.W.kitOne K (.ref _) _ = _; rw [hcl_InvalidGoing]; exact kit_ty (by decide +kernel) xb_InvalidGoing_ValueError,
      xb_InvalidRoad_ValueError := by show PySem.W.kitOne K (.ref _) _ = _; rw [hcl_InvalidRoad]; exact kit_ty (by decide +kernel) xb_InvalidRoad_ValueError,
      xb_InvalidText_ValueError := by show PySem.W.kitOne K (.ref _) _ = _; rw [hcl_InvalidText]; exact kit_ty (by decide +kernel) xb_InvalidText_ValueError,
      xb_InvalidVoice_ValueError := by show PySem.W.kitOne K (.ref _) _ = _; rw [hcl_InvalidVoice]; exact kit_ty (by decide +kernel) xb_InvalidVoice_ValueError,
      xb_InvalidCall_ValueError := by show PySem.W.kitOne K (.ref _) _ = _; rw [hcl_InvalidCall]; exact kit_ty (by decide +kernel) xb_InvalidCall_ValueError,
      xb_NoCall_IndexError := by show PySem.W.kitOne K (.ref _) _ = _; rw [hcl_NoCall]; exact kit_ty (by decide +kernel) xb_NoCall_IndexError,
      xb_Refused_IndexError := by show PySem.W.kitOne K (.ref _) _ = _; rw [hcl_Refused]; exact kit_ty (by decide +kernel) xb_Refused_IndexError,
      xb_InvalidCommand_IndexError := by show PySem.W.kitOne K (.ref _) _ = _; rw [hcl_InvalidCommand]; exact kit_ty (by decide +kernel) xb_InvalidCommand_IndexError,
      xb_InvalidFault_IndexError := by show PySem.W.kitOne K (.ref _) _ = _; rw [hcl_InvalidFault]; exact kit_ty (by decide +kernel) xb_InvalidFault_IndexError,
      xb_InvalidHeard_IndexError := by show PySem.W.kitOne K (.ref _) _ = _; rw [hcl_InvalidHeard]; exact kit_ty (by decide +kernel) xb_InvalidHeard_IndexError,
      xb_InvalidGoing_IndexError := by show PySem.W.kitOne K (.ref _) _ = _; rw [hcl_InvalidGoing]; exact kit_ty (by decide +kernel) xb_InvalidGoing_IndexError,
      xb_InvalidRoad_IndexError := by show PySem.W.kitOne K (.ref _) _ = _; rw [hcl_InvalidRoad]; exact kit_ty (by decide +kernel) xb_InvalidRoad_IndexError,
      xb_InvalidText_IndexError := by show PySem.W.kitOne K (.ref _) _ = _; rw [hcl_InvalidText]; exact kit_ty (by decide +kernel) xb_InvalidText_IndexError,
      xb_InvalidVoice_IndexError := by show PySem.W.kitOne K (.ref _) _ = _; rw [hcl_InvalidVoice]; exact kit_ty (by decide +kernel) xb_InvalidVoice_IndexError,
      xb_InvalidCall_IndexError := by show PySem.W.kitOne K (.ref _) _ = _; rw [hcl_InvalidCall]; exact kit_ty (by decide +kernel) xb_InvalidCall_IndexError,
      F_l_classes := fun_mk (st := st_l_classes) l1 c1 k1,
      b_l_classes := (fun_mk (st := st_l_classes) l1 c1 k1).binds (ps := ["_law_made"]) fun _ _ _ _ _ _ us hl => match us, hl with | [_], _ => rfl,
      g_l_classes := PySem.W.mg_of X G a1,
      F_l_are_own := fun_mk (st := st_l_are_own) l2 c2 k2,
      b_l_are_own := (fun_mk (st := st_l_are_own) l2 c2 k2).binds (ps := ["_law_made", "_law_first"]) fun _ _ _ _ _ _ us hl => match us, hl with | [_, _], _ => rfl,
      g_l_are_own := PySem.W.mg_of X G a2,
      F_l_deal := fun_mk (st := st_l_deal) l3 c3 k3,
      b_l_deal := (fun_mk (st := st_l_deal) l3 c3 k3).binds (ps := ["_law_script", "_law_base"]) fun _ _ _ _ _ _ us hl => match us, hl with | [_, _], _ => rfl,
      g_l_deal := PySem.W.mg_of X G a3,
      F_l_draw := fun_mk (st := st_l_draw) l4 c4 k4,
      b_l_draw := (fun_mk (st := st_l_draw) l4 c4 k4).binds (ps := ["_law_deal_here", "_law_many"]) fun _ _ _ _ _ _ us hl => match us, hl with | [_, _], _ => rfl,
      g_l_draw := PySem.W.mg_of X G a4,
      F_l_pick := fun_mk (st := st_l_pick) l5 c5 k5,
      b_l_pick := (fun_mk (st := st_l_pick) l5 c5 k5).binds (ps := ["_law_deal_here", "_law_some"]) fun _ _ _ _ _ _ us hl => match us, hl with | [_, _], _ => rfl,
      g_l_pick := PySem.W.mg_of X G a5,
      F_l_thing := fun_mk (st := st_l_thing) l6 c6 k6,
      b_l_thing := (fun_mk (st := st_l_thing) l6 c6 k6).binds (ps := ["_law_deal_here", "_law_deep"]) fun _ _ _ _ _ _ us hl => match us, hl with | [_, _], _ => rfl,
      g_l_thing := PySem.W.mg_of X G a6,
      F_law := fun_mk (st := st_law) l7 c7 k7,
      b_law := (fun_mk (st := st_law) l7 c7 k7).binds (ps := ["_law_script"]) fun _ _ _ _ _ _ us hl => match us, hl with | [_], _ => rfl,
      g_law := PySem.W.mg_of X G a7,
      z_int := PySem.W.mg_none_of X G z_int,
      z_abs := PySem.W.mg_none_of X G z_abs,
      z_len := PySem.W.mg_none_of X G z_len,
      z_range := PySem.W.mg_none_of X G z_range,
      z_tuple := PySem.W.mg_none_of X G z_tuple,
      z_repr := PySem.W.mg_none_of X G z_repr,
      z_isinstance := PySem.W.mg_none_of X G z_isinstance,
      z_ValueError := PySem.W.mg_none_of X G z_ValueError,
      z_IndexError := PySem.W.mg_none_of X G z_IndexError,
      z_enumerate := PySem.W.mg_none_of X G z_enumerate,
      z_min := PySem.W.mg_none_of X G z_min,
      z_max := PySem.W.mg_none_of X G z_max }
  exact ⟨_, T.F_law, fun s v => .of_eq rfl, cl, fun base cdv A outer s0 H E hA hr => law_body T base cdv A outer s0 H E hA hr⟩
end K01
open PySem PySem.W PyProof.Rows
set_option maxRecDepth 100000 in
set_option maxHeartbeats 0 in
theorem PySem.Challenge.cw_turncalls_k01_errors_and_what_they_keep_holds : PySem.Challenge.rw_turncalls_k01_errors_and_what_they_keep.Holds := by
  w_on; o_law; k_head; (case hw => w_witness2)
  k_fill
  refine Mi.walk_law (l := PySem.Challenge.rw_turncalls_k01_errors_and_what_they_keep) (n := 63) (j := 9) (x := "_law_script") (st := K01.st_law) (N := ["_law_script", "_law_spot", "_law_deal_here", "_law_numbers", "_law_more", "_law_gone", "_law_kept", "_law_other", "_law_told", "_law_named", "_law_one"]) (s := K01.s_law) (cl := fun _ _ => 0) rfl (by decide) rfl (by decide) (fun w h Y => PySem.W.kIn_of Y) K01.sc_law ?F K01.main
  case F =>
    intro w mg fa h KX G hmg
    refine' K01.all_mk KX G hmg ?a_InvalidVoice ?a_InvalidCall ?a_Refused ?a_InvalidHeard ?a_InvalidGoing ?a_InvalidRoad ?a_InvalidText ?a_NoCall ?a_InvalidCommand ?a_InvalidFault ?a_RoadError ?eb_InvalidVoice ?et_InvalidVoice ?ek_InvalidVoice ?eh_InvalidVoice ?kr_InvalidVoice ?kr2_InvalidVoice ?kr3_InvalidVoice ?e_op ?e1_InvalidVoice ?e2_InvalidVoice ?e3_InvalidVoice ?e4_InvalidVoice ?e5_InvalidVoice ?e6_InvalidVoice ?e7_InvalidVoice ?e8_InvalidVoice ?e9_InvalidVoice ?rr1_InvalidVoice ?rr2_InvalidVoice ?e0_InvalidVoice ?e_sup ?rr_top ?eb_InvalidCall ?et_InvalidCall ?ek_InvalidCall ?eh_InvalidCall ?kr_InvalidCall ?kr2_InvalidCall ?kr3_InvalidCall ?e1_InvalidCall ?e2_InvalidCall ?e3_InvalidCall ?e4_InvalidCall ?e5_InvalidCall ?e6_InvalidCall ?e7_InvalidCall ?e8_InvalidCall ?e9_InvalidCall ?rr1_InvalidCall ?rr2_InvalidCall ?e0_InvalidCall ?eb_Refused ?et_Refused ?ek_Refused ?eh_Refused ?kr_Refused ?kr2_Refused ?kr3_Refused ?e1_Refused ?e2_Refused ?e3_Refused ?e4_Refused ?e5_Refused ?e6_Refused ?e7_Refused ?e8_Refused ?e9_Refused ?rr1_Refused ?rr2_Refused ?e0_Refused ?eb_InvalidHeard ?et_InvalidHeard ?ek_InvalidHeard ?eh_InvalidHeard ?kr_InvalidHeard ?kr2_InvalidHeard ?kr3_InvalidHeard ?e1_InvalidHeard ?e2_InvalidHeard ?e3_InvalidHeard ?e4_InvalidHeard ?e5_InvalidHeard ?e6_InvalidHeard ?e7_InvalidHeard ?e8_InvalidHeard ?e9_InvalidHeard ?rr1_InvalidHeard ?rr2_InvalidHeard ?e0_InvalidHeard ?eb_InvalidGoing ?et_InvalidGoing ?ek_InvalidGoing ?eh_InvalidGoing ?kr_InvalidGoing ?kr2_InvalidGoing ?kr3_InvalidGoing ?e1_InvalidGoing ?e2_InvalidGoing ?e3_InvalidGoing ?e4_InvalidGoing ?e5_InvalidGoing ?e6_InvalidGoing ?e7_InvalidGoing ?e8_InvalidGoing ?e9_InvalidGoing ?rr1_InvalidGoing ?rr2_InvalidGoing ?e0_InvalidGoing ?eb_InvalidRoad ?et_InvalidRoad ?ek_InvalidRoad ?eh_InvalidRoad ?kr_InvalidRoad ?kr2_InvalidRoad ?kr3_InvalidRoad ?e1_InvalidRoad ?e2_InvalidRoad ?e3_InvalidRoad ?e4_InvalidRoad ?e5_InvalidRoad ?e6_InvalidRoad ?e7_InvalidRoad ?e8_InvalidRoad ?e9_InvalidRoad ?rr1_InvalidRoad ?rr2_InvalidRoad ?e0_InvalidRoad ?eb_InvalidText ?et_InvalidText ?ek_InvalidText ?eh_InvalidText ?kr_InvalidText ?kr2_InvalidText ?kr3_InvalidText ?e1_InvalidText ?e2_InvalidText ?e3_InvalidText ?e4_InvalidText ?e5_InvalidText ?e6_InvalidText ?e7_InvalidText ?e8_InvalidText ?e9_InvalidText ?rr1_InvalidText ?rr2_InvalidText ?e0_InvalidText ?eb_NoCall ?et_NoCall ?ek_NoCall ?eh_NoCall ?kr_NoCall ?kr2_NoCall ?kr3_NoCall ?e1_NoCall ?e2_NoCall ?e3_NoCall ?e4_NoCall ?e5_NoCall ?e6_NoCall ?e7_NoCall ?e8_NoCall ?e9_NoCall ?rr1_NoCall ?rr2_NoCall ?e0_NoCall ?eb_InvalidCommand ?et_InvalidCommand ?ek_InvalidCommand ?eh_InvalidCommand ?kr_InvalidCommand ?eb_InvalidFault ?et_InvalidFault ?ek_InvalidFault ?eh_InvalidFault ?kr_InvalidFault ?ga_InvalidVoice ?gg_InvalidVoice ?ca_InvalidVoice ?xcn ?xct ?cm_InvalidVoice ?ga_InvalidCall ?gg_InvalidCall ?ca_InvalidCall ?cm_InvalidCall ?ga_NoCall ?gg_NoCall ?ca_NoCall ?cm_NoCall ?ga_Refused ?gg_Refused ?ca_Refused ?cm_Refused ?ga_InvalidHeard ?gg_InvalidHeard ?ca_InvalidHeard ?cm_InvalidHeard ?ga_InvalidGoing ?gg_InvalidGoing ?ca_InvalidGoing ?cm_InvalidGoing ?ga_InvalidRoad ?gg_InvalidRoad ?ca_InvalidRoad ?cm_InvalidRoad ?ga_InvalidText ?gg_InvalidText ?ca_InvalidText ?cm_InvalidText ?ga_InvalidCommand ?gg_InvalidCommand ?ca_InvalidCommand ?cm_InvalidCommand ?ga_InvalidFault ?gg_InvalidFault ?ca_InvalidFault ?cm_InvalidFault ?xn_InvalidCall_word ?xn_InvalidGoing_at ?xn_InvalidHeard_at ?xn_InvalidRoad_at ?xn_InvalidText_at ?xn_InvalidVoice_word ?xn_NoCall_at ?xn_Refused_at ?xk_NoCall_InvalidText ?xk_Refused_InvalidText ?xk_InvalidCommand_InvalidText ?xk_InvalidFault_InvalidText ?xk_InvalidHeard_InvalidText ?xk_InvalidGoing_InvalidText ?xk_InvalidRoad_InvalidText ?xk_InvalidText_InvalidText ?xk_InvalidVoice_InvalidText ?xk_InvalidCall_InvalidText ?xk_NoCall_InvalidVoice ?xk_Refused_InvalidVoice ?xk_InvalidCommand_InvalidVoice ?xk_InvalidFault_InvalidVoice ?xk_InvalidHeard_InvalidVoice ?xk_InvalidGoing_InvalidVoice ?xk_InvalidRoad_InvalidVoice ?xk_InvalidText_InvalidVoice ?xk_InvalidVoice_InvalidVoice ?xk_InvalidCall_InvalidVoice ?xk_NoCall_InvalidCall ?xk_Refused_InvalidCall ?xk_InvalidCommand_InvalidCall ?xk_InvalidFault_InvalidCall ?xk_InvalidHeard_InvalidCall ?xk_InvalidGoing_InvalidCall ?xk_InvalidRoad_InvalidCall ?xk_InvalidText_InvalidCall ?xk_InvalidVoice_InvalidCall ?xk_InvalidCall_InvalidCall ?xk_NoCall_InvalidHeard ?xk_Refused_InvalidHeard ?xk_InvalidCommand_InvalidHeard ?xk_InvalidFault_InvalidHeard ?xk_InvalidHeard_InvalidHeard ?xk_InvalidGoing_InvalidHeard ?xk_InvalidRoad_InvalidHeard ?xk_InvalidText_InvalidHeard ?xk_InvalidVoice_InvalidHeard ?xk_InvalidCall_InvalidHeard ?xk_NoCall_InvalidGoing ?xk_Refused_InvalidGoing ?xk_InvalidCommand_InvalidGoing ?xk_InvalidFault_InvalidGoing ?xk_InvalidHeard_InvalidGoing ?xk_InvalidGoing_InvalidGoing ?xk_InvalidRoad_InvalidGoing ?xk_InvalidText_InvalidGoing ?xk_InvalidVoice_InvalidGoing ?xk_InvalidCall_InvalidGoing ?xk_NoCall_InvalidRoad ?xk_Refused_InvalidRoad ?xk_InvalidCommand_InvalidRoad ?xk_InvalidFault_InvalidRoad ?xk_InvalidHeard_InvalidRoad ?xk_InvalidGoing_InvalidRoad ?xk_InvalidRoad_InvalidRoad ?xk_InvalidText_InvalidRoad ?xk_InvalidVoice_InvalidRoad ?xk_InvalidCall_InvalidRoad ?xk_NoCall_InvalidCommand ?xk_Refused_InvalidCommand ?xk_InvalidCommand_InvalidCommand ?xk_InvalidFault_InvalidCommand ?xk_InvalidHeard_InvalidCommand ?xk_InvalidGoing_InvalidCommand ?xk_InvalidRoad_InvalidCommand ?xk_InvalidText_InvalidCommand ?xk_InvalidVoice_InvalidCommand ?xk_InvalidCall_InvalidCommand ?xk_NoCall_InvalidFault ?xk_Refused_InvalidFault ?xk_InvalidCommand_InvalidFault ?xk_InvalidFault_InvalidFault ?xk_InvalidHeard_InvalidFault ?xk_InvalidGoing_InvalidFault ?xk_InvalidRoad_InvalidFault ?xk_InvalidText_InvalidFault ?xk_InvalidVoice_InvalidFault ?xk_InvalidCall_InvalidFault ?xk_NoCall_Refused ?xk_Refused_Refused ?xk_InvalidCommand_Refused ?xk_InvalidFault_Refused ?xk_InvalidHeard_Refused ?xk_InvalidGoing_Refused ?xk_InvalidRoad_Refused ?xk_InvalidText_Refused ?xk_InvalidVoice_Refused ?xk_InvalidCall_Refused ?xk_NoCall_NoCall ?xk_Refused_NoCall ?xk_InvalidCommand_NoCall ?xk_InvalidFault_NoCall ?xk_InvalidHeard_NoCall ?xk_InvalidGoing_NoCall ?xk_InvalidRoad_NoCall ?xk_InvalidText_NoCall ?xk_InvalidVoice_NoCall ?xk_InvalidCall_NoCall ?xk_NoCall_RoadError ?xk_Refused_RoadError ?xk_InvalidCommand_RoadError ?xk_InvalidFault_RoadError ?xk_InvalidHeard_RoadError ?xk_InvalidGoing_RoadError ?xk_InvalidRoad_RoadError ?xk_InvalidText_RoadError ?xk_InvalidVoice_RoadError ?xk_InvalidCall_RoadError ?xb_NoCall_ValueError ?xb_Refused_ValueError ?xb_InvalidCommand_ValueError ?xb_InvalidFault_ValueError ?xb_InvalidHeard_ValueError ?xb_InvalidGoing_ValueError ?xb_InvalidRoad_ValueError ?xb_InvalidText_ValueError ?xb_InvalidVoice_ValueError ?xb_InvalidCall_ValueError ?xb_NoCall_IndexError ?xb_Refused_IndexError ?xb_InvalidCommand_IndexError ?xb_InvalidFault_IndexError ?xb_InvalidHeard_IndexError ?xb_InvalidGoing_IndexError ?xb_InvalidRoad_IndexError ?xb_InvalidText_IndexError ?xb_InvalidVoice_IndexError ?xb_InvalidCall_IndexError ?a1 ?l1 ?c1 ?k1 ?a2 ?l2 ?c2 ?k2 ?a3 ?l3 ?c3 ?k3 ?a4 ?l4 ?c4 ?k4 ?a5 ?l5 ?c5 ?k5 ?a6 ?l6 ?c6 ?k6 ?a7 ?l7 ?c7 ?k7 ?z_int ?z_abs ?z_len ?z_range ?z_tuple ?z_repr ?z_isinstance ?z_ValueError ?z_IndexError ?z_enumerate ?z_min ?z_max
    (case a_InvalidVoice => k_is)
    (case a_InvalidCall => k_is)
    (case a_Refused => k_is)
    (case a_InvalidHeard => k_is)
    (case a_InvalidGoing => k_is)
    (case a_InvalidRoad => k_is)
    (case a_InvalidText => k_is)
    (case a_NoCall => k_is)
    (case a_InvalidCommand => k_is)
    (case a_InvalidFault => k_is)
    (case a_RoadError => k_is)
    (case eb_InvalidVoice => k_is)
    (case et_InvalidVoice => k_is)
    (case ek_InvalidVoice => k_is)
    (case eh_InvalidVoice => k_is)
    (case kr_InvalidVoice => first | kernel_rfl | rfl | decide +kernel)
    (case kr2_InvalidVoice => first | kernel_rfl | rfl | decide +kernel)
    (case kr3_InvalidVoice => first | kernel_rfl | rfl | decide +kernel)
    (case e_op => k_is)
    (case e1_InvalidVoice => k_is)
    (case e2_InvalidVoice => k_is)
    (case e3_InvalidVoice => k_is)
    (case e4_InvalidVoice => k_is)
    (case e5_InvalidVoice => k_is)
    (case e6_InvalidVoice => k_is)
    (case e7_InvalidVoice => k_is)
    (case e8_InvalidVoice => k_is)
    (case e9_InvalidVoice => k_is)
    (case rr1_InvalidVoice => first | exact rfl | decide +kernel)
    (case rr2_InvalidVoice => first | exact rfl | decide +kernel)
    (case e0_InvalidVoice => k_is)
    (case e_sup => k_is)
    (case rr_top => first | exact rfl | decide +kernel)
    (case eb_InvalidCall => k_is)
    (case et_InvalidCall => k_is)
    (case ek_InvalidCall => k_is)
    (case eh_InvalidCall => k_is)
    (case kr_InvalidCall => first | kernel_rfl | rfl | decide +kernel)
    (case kr2_InvalidCall => first | kernel_rfl | rfl | decide +kernel)
    (case kr3_InvalidCall => first | kernel_rfl | rfl | decide +kernel)
    (case e1_InvalidCall => k_is)
    (case e2_InvalidCall => k_is)
    (case e3_InvalidCall => k_is)
    (case e4_InvalidCall => k_is)
    (case e5_InvalidCall => k_is)
    (case e6_InvalidCall => k_is)
    (case e7_InvalidCall => k_is)
    (case e8_InvalidCall => k_is)
    (case e9_InvalidCall => k_is)
    (case rr1_InvalidCall => first | exact rfl | decide +kernel)
    (case rr2_InvalidCall => first | exact rfl | decide +kernel)
    (case e0_InvalidCall => k_is)
    (case eb_Refused => k_is)
    (case et_Refused => k_is)
    (case ek_Refused => k_is)
    (case eh_Refused => k_is)
    (case kr_Refused => first | kernel_rfl | rfl | decide +kernel)
    (case kr2_Refused => first | kernel_rfl | rfl | decide +kernel)
    (case kr3_Refused => first | kernel_rfl | rfl | decide +kernel)
    (case e1_Refused => k_is)
    (case e2_Refused => k_is)
    (case e3_Refused => k_is)
    (case e4_Refused => k_is)
    (case e5_Refused => k_is)
    (case e6_Refused => k_is)
    (case e7_Refused => k_is)
    (case e8_Refused => k_is)
    (case e9_Refused => k_is)
    (case rr1_Refused => first | exact rfl | decide +kernel)
    (case rr2_Refused => first | exact rfl | decide +kernel)
    (case e0_Refused => k_is)
    (case eb_InvalidHeard => k_is)
    (case et_InvalidHeard => k_is)
    (case ek_InvalidHeard => k_is)
    (case eh_InvalidHeard => k_is)
    (case kr_InvalidHeard => first | kernel_rfl | rfl | decide +kernel)
    (case kr2_InvalidHeard => first | kernel_rfl | rfl | decide +kernel)
    (case kr3_InvalidHeard => first | kernel_rfl | rfl | decide +kernel)
    (case e1_InvalidHeard => k_is)
    (case e2_InvalidHeard => k_is)
    (case e3_InvalidHeard => k_is)
    (case e4_InvalidHeard => k_is)
    (case e5_InvalidHeard => k_is)
    (case e6_InvalidHeard => k_is)
    (case e7_InvalidHeard => k_is)
    (case e8_InvalidHeard => k_is)
    (case e9_InvalidHeard => k_is)
    (case rr1_InvalidHeard => first | exact rfl | decide +kernel)
    (case rr2_InvalidHeard => first | exact rfl | decide +kernel)
    (case e0_InvalidHeard => k_is)
    (case eb_InvalidGoing => k_is)
    (case et_InvalidGoing => k_is)
    (case ek_InvalidGoing => k_is)
    (case eh_InvalidGoing => k_is)
    (case kr_InvalidGoing => first | kernel_rfl | rfl | decide +kernel)
    (case kr2_InvalidGoing => first | kernel_rfl | rfl | decide +kernel)
    (case kr3_InvalidGoing => first | kernel_rfl | rfl | decide +kernel)
    (case e1_InvalidGoing => k_is)
    (case e2_InvalidGoing => k_is)
    (case e3_InvalidGoing => k_is)
    (case e4_InvalidGoing => k_is)
    (case e5_InvalidGoing => k_is)
    (case e6_InvalidGoing => k_is)
    (case e7_InvalidGoing => k_is)
    (case e8_InvalidGoing => k_is)
    (case e9_InvalidGoing => k_is)
    (case rr1_InvalidGoing => first | exact rfl | decide +kernel)
    (case rr2_InvalidGoing => first | exact rfl | decide +kernel)
    (case e0_InvalidGoing => k_is)
    (case eb_InvalidRoad => k_is)
    (case et_InvalidRoad => k_is)
    (case ek_InvalidRoad => k_is)
    (case eh_InvalidRoad => k_is)
    (case kr_InvalidRoad => first | kernel_rfl | rfl | decide +kernel)
    (case kr2_InvalidRoad => first | kernel_rfl | rfl | decide +kernel)
    (case kr3_InvalidRoad => first | kernel_rfl | rfl | decide +kernel)
    (case e1_InvalidRoad => k_is)
    (case e2_InvalidRoad => k_is)
    (case e3_InvalidRoad => k_is)
    (case e4_InvalidRoad => k_is)
    (case e5_InvalidRoad => k_is)
    (case e6_InvalidRoad => k_is)
    (case e7_InvalidRoad => k_is)
    (case e8_InvalidRoad => k_is)
    (case e9_InvalidRoad => k_is)
    (case rr1_InvalidRoad => first | exact rfl | decide +kernel)
    (case rr2_InvalidRoad => first | exact rfl | decide +kernel)
    (case e0_InvalidRoad => k_is)
    (case eb_InvalidText => k_is)
    (case et_InvalidText => k_is)
    (case ek_InvalidText => k_is)
    (case eh_InvalidText => k_is)
    (case kr_InvalidText => first | kernel_rfl | rfl | decide +kernel)
    (case kr2_InvalidText => first | kernel_rfl | rfl | decide +kernel)
    (case kr3_InvalidText => first | kernel_rfl | rfl | decide +kernel)
    (case e1_InvalidText => k_is)
    (case e2_InvalidText => k_is)
    (case e3_InvalidText => k_is)
    (case e4_InvalidText => k_is)
    (case e5_InvalidText => k_is)
    (case e6_InvalidText => k_is)
    (case e7_InvalidText => k_is)
    (case e8_InvalidText => k_is)
    (case e9_InvalidText => k_is)
    (case rr1_InvalidText => first | exact rfl | decide +kernel)
    (case rr2_InvalidText => first | exact rfl | decide +kernel)
    (case e0_InvalidText => k_is)
    (case eb_NoCall => k_is)
    (case et_NoCall => k_is)
    (case ek_NoCall => k_is)
    (case eh_NoCall => k_is)
    (case kr_NoCall => first | kernel_rfl | rfl | decide +kernel)
    (case kr2_NoCall => first | kernel_rfl | rfl | decide +kernel)
    (case kr3_NoCall => first | kernel_rfl | rfl | decide +kernel)
    (case e1_NoCall => k_is)
    (case e2_NoCall => k_is)
    (case e3_NoCall => k_is)
    (case e4_NoCall => k_is)
    (case e5_NoCall => k_is)
    (case e6_NoCall => k_is)
    (case e7_NoCall => k_is)
    (case e8_NoCall => k_is)
    (case e9_NoCall => k_is)
    (case rr1_NoCall => first | exact rfl | decide +kernel)
    (case rr2_NoCall => first | exact rfl | decide +kernel)
    (case e0_NoCall => k_is)
    (case eb_InvalidCommand => k_is)
    (case et_InvalidCommand => k_is)
    (case ek_InvalidCommand => k_is)
    (case eh_InvalidCommand => k_is)
    (case kr_InvalidCommand => first | kernel_rfl | rfl | decide +kernel)
    (case eb_InvalidFault => k_is)
    (case et_InvalidFault => k_is)
    (case ek_InvalidFault => k_is)
    (case eh_InvalidFault => k_is)
    (case kr_InvalidFault => first | kernel_rfl | rfl | decide +kernel)
    (case ga_InvalidVoice => k_is)
    (case gg_InvalidVoice => k_is)
    (case ca_InvalidVoice => k_is)
    (case xcn => k_is)
    (case xct => k_is)
    (case cm_InvalidVoice => k_is)
    (case ga_InvalidCall => k_is)
    (case gg_InvalidCall => k_is)
    (case ca_InvalidCall => k_is)
    (case cm_InvalidCall => k_is)
    (case ga_NoCall => k_is)
    (case gg_NoCall => k_is)
    (case ca_NoCall => k_is)
    (case cm_NoCall => k_is)
    (case ga_Refused => k_is)
    (case gg_Refused => k_is)
    (case ca_Refused => k_is)
    (case cm_Refused => k_is)
    (case ga_InvalidHeard => k_is)
    (case gg_InvalidHeard => k_is)
    (case ca_InvalidHeard => k_is)
    (case cm_InvalidHeard => k_is)
    (case ga_InvalidGoing => k_is)
    (case gg_InvalidGoing => k_is)
    (case ca_InvalidGoing => k_is)
    (case cm_InvalidGoing => k_is)
    (case ga_InvalidRoad => k_is)
    (case gg_InvalidRoad => k_is)
    (case ca_InvalidRoad => k_is)
    (case cm_InvalidRoad => k_is)
    (case ga_InvalidText => k_is)
    (case gg_InvalidText => k_is)
    (case ca_InvalidText => k_is)
    (case cm_InvalidText => k_is)
    (case ga_InvalidCommand => k_is)
    (case gg_InvalidCommand => k_is)
    (case ca_InvalidCommand => k_is)
    (case cm_InvalidCommand => k_is)
    (case ga_InvalidFault => k_is)
    (case gg_InvalidFault => k_is)
    (case ca_InvalidFault => k_is)
    (case cm_InvalidFault => k_is)
    (case xn_InvalidCall_word => k_is)
    (case xn_InvalidGoing_at => k_is)
    (case xn_InvalidHeard_at => k_is)
    (case xn_InvalidRoad_at => k_is)
    (case xn_InvalidText_at => k_is)
    (case xn_InvalidVoice_word => k_is)
    (case xn_NoCall_at => k_is)
    (case xn_Refused_at => k_is)
    (case xk_NoCall_InvalidText => first | kit_is | k_is)
    (case xk_Refused_InvalidText => first | kit_is | k_is)
    (case xk_InvalidCommand_InvalidText => first | kit_is | k_is)
    (case xk_InvalidFault_InvalidText => first | kit_is | k_is)
    (case xk_InvalidHeard_InvalidText => first | kit_is | k_is)
    (case xk_InvalidGoing_InvalidText => first | kit_is | k_is)
    (case xk_InvalidRoad_InvalidText => first | kit_is | k_is)
    (case xk_InvalidText_InvalidText => first | kit_is | k_is)
    (case xk_InvalidVoice_InvalidText => first | kit_is | k_is)
    (case xk_InvalidCall_InvalidText => first | kit_is | k_is)
    (case xk_NoCall_InvalidVoice => first | kit_is | k_is)
    (case xk_Refused_InvalidVoice => first | kit_is | k_is)
    (case xk_InvalidCommand_InvalidVoice => first | kit_is | k_is)
    (case xk_InvalidFault_InvalidVoice => first | kit_is | k_is)
    (case xk_InvalidHeard_InvalidVoice => first | kit_is | k_is)
    (case xk_InvalidGoing_InvalidVoice => first | kit_is | k_is)
    (case xk_InvalidRoad_InvalidVoice => first | kit_is | k_is)
    (case xk_InvalidText_InvalidVoice => first | kit_is | k_is)
    (case xk_InvalidVoice_InvalidVoice => first | kit_is | k_is)
    (case xk_InvalidCall_InvalidVoice => first | kit_is | k_is)
    (case xk_NoCall_InvalidCall => first | kit_is | k_is)
    (case xk_Refused_InvalidCall => first | kit_is | k_is)
    (case xk_InvalidCommand_InvalidCall => first | kit_is | k_is)
    (case xk_InvalidFault_InvalidCall => first | kit_is | k_is)
    (case xk_InvalidHeard_InvalidCall => first | kit_is | k_is)
    (case xk_InvalidGoing_InvalidCall => first | kit_is | k_is)
    (case xk_InvalidRoad_InvalidCall => first | kit_is | k_is)
    (case xk_InvalidText_InvalidCall => first | kit_is | k_is)
    (case xk_InvalidVoice_InvalidCall => first | kit_is | k_is)
    (case xk_InvalidCall_InvalidCall => first | kit_is | k_is)
    (case xk_NoCall_InvalidHeard => first | kit_is | k_is)
    (case xk_Refused_InvalidHeard => first | kit_is | k_is)
    (case xk_InvalidCommand_InvalidHeard => first | kit_is | k_is)
    (case xk_InvalidFault_InvalidHeard => first | kit_is | k_is)
    (case xk_InvalidHeard_InvalidHeard => first | kit_is | k_is)
    (case xk_InvalidGoing_InvalidHeard => first | kit_is | k_is)
    (case xk_InvalidRoad_InvalidHeard => first | kit_is | k_is)
    (case xk_InvalidText_InvalidHeard => first | kit_is | k_is)
    (case xk_InvalidVoice_InvalidHeard => first | kit_is | k_is)
    (case xk_InvalidCall_InvalidHeard => first | kit_is | k_is)
    (case xk_NoCall_InvalidGoing => first | kit_is | k_is)
    (case xk_Refused_InvalidGoing => first | kit_is | k_is)
    (case xk_InvalidCommand_InvalidGoing => first | kit_is | k_is)
    (case xk_InvalidFault_InvalidGoing => first | kit_is | k_is)
    (case xk_InvalidHeard_InvalidGoing => first | kit_is | k_is)
    (case xk_InvalidGoing_InvalidGoing => first | kit_is | k_is)
    (case xk_InvalidRoad_InvalidGoing => first | kit_is | k_is)
    (case xk_InvalidText_InvalidGoing => first | kit_is | k_is)
    (case xk_InvalidVoice_InvalidGoing => first | kit_is | k_is)
    (case xk_InvalidCall_InvalidGoing => first | kit_is | k_is)
    (case xk_NoCall_InvalidRoad => first | kit_is | k_is)
    (case xk_Refused_InvalidRoad => first | kit_is | k_is)
    (case xk_InvalidCommand_InvalidRoad => first | kit_is | k_is)
    (case xk_InvalidFault_InvalidRoad => first | kit_is | k_is)
    (case xk_InvalidHeard_InvalidRoad => first | kit_is | k_is)
    (case xk_InvalidGoing_InvalidRoad => first | kit_is | k_is)
    (case xk_InvalidRoad_InvalidRoad => first | kit_is | k_is)
    (case xk_InvalidText_InvalidRoad => first | kit_is | k_is)
    (case xk_InvalidVoice_InvalidRoad => first | kit_is | k_is)
    (case xk_InvalidCall_InvalidRoad => first | kit_is | k_is)
    (case xk_NoCall_InvalidCommand => first | kit_is | k_is)
    (case xk_Refused_InvalidCommand => first | kit_is | k_is)
    (case xk_InvalidCommand_InvalidCommand => first | kit_is | k_is)
    (case xk_InvalidFault_InvalidCommand => first | kit_is | k_is)
    (case xk_InvalidHeard_InvalidCommand => first | kit_is | k_is)
    (case xk_InvalidGoing_InvalidCommand => first | kit_is | k_is)
    (case xk_InvalidRoad_InvalidCommand => first | kit_is | k_is)
    (case xk_InvalidText_InvalidCommand => first | kit_is | k_is)
    (case xk_InvalidVoice_InvalidCommand => first | kit_is | k_is)
    (case xk_InvalidCall_InvalidCommand => first | kit_is | k_is)
    (case xk_NoCall_InvalidFault => first | kit_is | k_is)
    (case xk_Refused_InvalidFault => first | kit_is | k_is)
    (case xk_InvalidCommand_InvalidFault => first | kit_is | k_is)
    (case xk_InvalidFault_InvalidFault => first | kit_is | k_is)
    (case xk_InvalidHeard_InvalidFault => first | kit_is | k_is)
    (case xk_InvalidGoing_InvalidFault => first | kit_is | k_is)
    (case xk_InvalidRoad_InvalidFault => first | kit_is | k_is)
    (case xk_InvalidText_InvalidFault => first | kit_is | k_is)
    (case xk_InvalidVoice_InvalidFault => first | kit_is | k_is)
    (case xk_InvalidCall_InvalidFault => first | kit_is | k_is)
    (case xk_NoCall_Refused => first | kit_is | k_is)
    (case xk_Refused_Refused => first | kit_is | k_is)
    (case xk_InvalidCommand_Refused => first | kit_is | k_is)
    (case xk_InvalidFault_Refused => first | kit_is | k_is)
    (case xk_InvalidHeard_Refused => first | kit_is | k_is)
    (case xk_InvalidGoing_Refused => first | kit_is | k_is)
    (case xk_InvalidRoad_Refused => first | kit_is | k_is)
    (case xk_InvalidText_Refused => first | kit_is | k_is)
    (case xk_InvalidVoice_Refused => first | kit_is | k_is)
    (case xk_InvalidCall_Refused => first | kit_is | k_is)
    (case xk_NoCall_NoCall => first | kit_is | k_is)
    (case xk_Refused_NoCall => first | kit_is | k_is)
    (case xk_InvalidCommand_NoCall => first | kit_is | k_is)
    (case xk_InvalidFault_NoCall => first | kit_is | k_is)
    (case xk_InvalidHeard_NoCall => first | kit_is | k_is)
    (case xk_InvalidGoing_NoCall => first | kit_is | k_is)
    (case xk_InvalidRoad_NoCall => first | kit_is | k_is)
    (case xk_InvalidText_NoCall => first | kit_is | k_is)
    (case xk_InvalidVoice_NoCall => first | kit_is | k_is)
    (case xk_InvalidCall_NoCall => first | kit_is | k_is)
    (case xk_NoCall_RoadError => first | kit_is | k_is)
    (case xk_Refused_RoadError => first | kit_is | k_is)
    (case xk_InvalidCommand_RoadError => first | kit_is | k_is)
    (case xk_InvalidFault_RoadError => first | kit_is | k_is)
    (case xk_InvalidHeard_RoadError => first | kit_is | k_is)
    (case xk_InvalidGoing_RoadError => first | kit_is | k_is)
    (case xk_InvalidRoad_RoadError => first | kit_is | k_is)
    (case xk_InvalidText_RoadError => first | kit_is | k_is)
    (case xk_InvalidVoice_RoadError => first | kit_is | k_is)
    (case xk_InvalidCall_RoadError => first | kit_is | k_is)
    (case xb_NoCall_ValueError => k_is)
    (case xb_Refused_ValueError => k_is)
    (case xb_InvalidCommand_ValueError => k_is)
    (case xb_InvalidFault_ValueError => k_is)
    (case xb_InvalidHeard_ValueError => k_is)
    (case xb_InvalidGoing_ValueError => k_is)
    (case xb_InvalidRoad_ValueError => k_is)
    (case xb_InvalidText_ValueError => k_is)
    (case xb_InvalidVoice_ValueError => k_is)
    (case xb_InvalidCall_ValueError => k_is)
    (case xb_NoCall_IndexError => k_is)
    (case xb_Refused_IndexError => k_is)
    (case xb_InvalidCommand_IndexError => k_is)
    (case xb_InvalidFault_IndexError => k_is)
    (case xb_InvalidHeard_IndexError => k_is)
    (case xb_InvalidGoing_IndexError => k_is)
    (case xb_InvalidRoad_IndexError => k_is)
    (case xb_InvalidText_IndexError => k_is)
    (case xb_InvalidVoice_IndexError => k_is)
    (case xb_InvalidCall_IndexError => k_is)
    (case a1 => k_is)
    (case l1 => k_is)
    (case c1 => k_is)
    (case k1 => k_is)
    (case a2 => k_is)
    (case l2 => k_is)
    (case c2 => k_is)
    (case k2 => k_is)
    (case a3 => k_is)
    (case l3 => k_is)
    (case c3 => k_is)
    (case k3 => k_is)
    (case a4 => k_is)
    (case l4 => k_is)
    (case c4 => k_is)
    (case k4 => k_is)
    (case a5 => k_is)
    (case l5 => k_is)
    (case c5 => k_is)
    (case k5 => k_is)
    (case a6 => k_is)
    (case l6 => k_is)
    (case c6 => k_is)
    (case k6 => k_is)
    (case a7 => k_is)
    (case l7 => k_is)
    (case c7 => k_is)
    (case k7 => k_is)
    (case z_int => k_is)
    (case z_abs => k_is)
    (case z_len => k_is)
    (case z_range => k_is)
    (case z_tuple => k_is)
    (case z_repr => k_is)
    (case z_isinstance => k_is)
    (case z_ValueError => k_is)
    (case z_IndexError => k_is)
    (case z_enumerate => k_is)
    (case z_min => k_is)
    (case z_max => k_is)
