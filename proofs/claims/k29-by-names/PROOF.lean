import PyProof.Rows.All
import Wide.All
import OpenK.AllK
import Wide.FinOn
import HandS.ForMost
import HandS.ForExc
import HandS.CallSlots
import HandS.Dict
import KE.KDictKeyed
import HandS.TupAny
import HandS.IsInst
import HandS.Style
import HandS.RaiseMore
import KE.GoesEnum
import KE.GoesMore
import PyProof.ReprRoads
import HandS.EndBits
import HandS.FStr
import HandS.OwnEq
import KE.KCallOwn
import HandS.Defaults
import KE.KExcSuper
import KE.KExcMake
import KE.KExcInit
import HandS.ExcInit
import HandS.TryMany
import HandS.ExcField
import HandS.ExcIs
import KE.KExcIs
import HandS.Set
import HandS.Strs
import HandS.SetBool
import HandS.SetFor
import PyProof.Rows.SortShellAny
import HandS.ClsMeth
import HandS.MakeKwOnly
import HandS.Conv
import HandS.Property
import HandS.Star
import HandS.Flow
import KE.KUnpack
import PyProof.Rows.TupTab
import PySem.Challenge.RW_turncalls_k29_deciding_by_names
set_option Elab.async false
set_option linter.all false
set_option maxRecDepth 100000
set_option maxHeartbeats 4000000
namespace Mi
open PySem L2
/-! ### mirror values, errors, objects of the store -/
inductive Val where
  | non | bl (b : Bool) | int (i : Int) | str (x : Str)
  | tup (xs : List Val) | lst (xs : List Val) | rol (xs : List Val)
  | ins (c : Str) (ks : List Str) (xs : List Val)
  | ref (i : Nat)
  | exv (c : Str) (ks : List Str) (xs : List Val)
  | cls (c : Str)
  /-- a tuple whose object is known -/
  | tpd (xs : List Val)
structure Exc where
  cls : Str
  ks : List Str
  xs : List Val
inductive SO where
  | lst (xs : List Val)
  | ins (c : Str) (ks : List Str) (xs : List Val)
  /-- a dict whose keys are ints and texts -/
  | dk (ks : List Key) (xs : List Val)
  /-- a dict whose keys are tuples -/
  | dn (ks : List Val) (xs : List Val)
abbrev Env := List (Option Val)
abbrev Sto := List SO
abbrev Res (α : Type) := Option (Except Exc α × Sto)
abbrev M (α : Type) := Env → Sto → Res α
/-! ### how they stand in the heap -/
/-- what is fixed: the written part, where the classes stand -/
structure Kx where
  K : PySem.W.Frag
  cl : Str → Addr
  /-- the error that is being handled: where, its class, its dict -/
  ex : Option (Addr × Value × Option Addr) := none
  w : World
structure Wd where
  rho : List Addr
  fz : Addr → Prop
/-- a list that is read alone: the script, a list of the module's own top -/
def RoL (k : Kx) (H : Hp) (p : Addr) (vs : List V) : Prop := (∃ o, H p = some (.frz o (.lst vs))) ∨ SqL k.K (fun _ => none) p vs
mutual
def RepV (k : Kx) (W : Wd) (H : Hp) : Val → V → Prop
  | .non, v => v = .non
  | .bl b, v => v = .bl b
  | .int i, v => v = .int i
  | .str x, v => v = .str x
  | .tup xs, v => ∃ p vs, v = .ref p ∧ SqT k.K H p vs ∧ RepL k W H xs vs
  | .lst xs, v => ∃ p vs, v = .ref p ∧ W.fz p ∧ H p = some (.lst vs) ∧ RepL k W H xs vs
  | .rol xs, v => ∃ p vs, v = .ref p ∧ RoL k H p vs ∧ RepL k W H xs vs
  | .ins c ks xs, v => ∃ p dx vs, v = .ref p ∧ W.fz p ∧ H p = some (.ins (k.cl c) dx (ks.zip vs)) ∧ ks.length = xs.length ∧ RepL k W H xs vs
  | .ref i, v => ∃ p, v = .ref p ∧ W.rho[i]? = some p
  | .cls c, v => v = .ref (k.cl c)
  | .tpd xs, v => ∃ p o vs, v = .ref p ∧ H p = some (.frz o (.tup vs)) ∧ o.dict = none ∧ RepL k W H xs vs
  | .exv c ks xs, v => ∃ a cls d, k.ex = some (a, cls, d) ∧ v = .ref a ∧ cls = .ref (k.cl c) ∧ ks.length = xs.length ∧ (ks = [] ∧ d = none ∨ ∃ dx vs, d = some dx ∧ H dx = some (.xd (ks.zip vs)) ∧ RepL k W H xs vs)
def RepL (k : Kx) (W : Wd) (H : Hp) : List Val → List V → Prop
  | [], vs => vs = []
  | x :: xs, vs => ∃ v r, vs = v :: r ∧ RepV k W H x v ∧ RepL k W H xs r
end
def Imm : HO → Prop
  | .tup _ => True
  | .frz _ _ => True
  | .xd _ => True
  | _ => False
structure Le (W W' : Wd) (H H' : Hp) : Prop where
  rho : ∃ more, W'.rho = W.rho ++ more
  fz : ∀ p, W.fz p → W'.fz p
  imm : ∀ p o, H p = some o → Imm o → H' p = some o
  keep : ∀ p o, H p = some o → W.fz p → H' p = some o
  rest : ∀ p o, H p = some o → p ∉ W.rho → H' p = some o
  newr : ∀ p, p ∈ W'.rho → p ∈ W.rho ∨ H p = none
  newf : ∀ p, W'.fz p → W.fz p ∨ H p = none
  dom : ∀ p, H p ≠ none → H' p ≠ none
theorem Le.refl (W : Wd) (H : Hp) : Le W W H H := ⟨⟨[], by simp⟩, fun _ h => h, fun _ _ h _ => h, fun _ _ h _ => h, fun _ _ h _ => h, fun _ h => .inl h, fun _ h => .inl h, fun _ h => h⟩
theorem Le.trans {W W1 W2 : Wd} {H H1 H2 : Hp} (a : Le W W1 H H1) (b : Le W1 W2 H1 H2) : Le W W2 H H2 := by
  obtain ⟨m1, e1⟩ := a.rho
  obtain ⟨m2, e2⟩ := b.rho
  have back : ∀ p, H1 p = none → H p = none := fun p h => by
    cases q : H p with
    | none => rfl
    | some o => exact absurd h (a.dom p (by rw [q]; exact fun z => nomatch z))
  refine ⟨⟨m1 ++ m2, by rw [e2, e1, List.append_assoc]⟩, fun p h => b.fz p (a.fz p h), fun p o h i => b.imm p o (a.imm p o h i) i, fun p o h f => b.keep p o (a.keep p o h f) (a.fz p f), fun p o h n => b.rest p o (a.rest p o h n) fun m => ?_, fun p m => ?_, fun p f => ?_, fun p h => b.dom p (a.dom p h)⟩
  · rcases a.newr p m with z | z
    · exact n z
    · rw [h] at z
      cases z
  · rcases b.newr p m with z | z
    · exact a.newr p z
    · exact .inr (back p z)
  · rcases b.newf p f with z | z
    · exact a.newf p z
    · exact .inr (back p z)
theorem Le.sqT {k : Kx} {W W' : Wd} {H H' : Hp} {p : Addr} {vs : List V} (l : Le W W' H H') (h : SqT k.K H p vs) : SqT k.K H' p vs := by
  rcases h with (h | ⟨o, h⟩) | h
  · exact .inl (.inl (l.imm _ _ h trivial))
  · exact .inl (.inr ⟨o, l.imm _ _ h trivial⟩)
  · exact .inr h
theorem Le.at {W W' : Wd} {H H' : Hp} {i : Nat} {p : Addr} (l : Le W W' H H') (h : W.rho[i]? = some p) : W'.rho[i]? = some p := by
  obtain ⟨m, e⟩ := l.rho
  rw [e, List.getElem?_append_left (List.getElem?_eq_some_iff.mp h).1]
  exact h
mutual
theorem RepV.more {k : Kx} {W W' : Wd} {H : Hp} (er : ∀ (i : Nat) p, W.rho[i]? = some p → W'.rho[i]? = some p) (ef : ∀ p, W.fz p → W'.fz p) : ∀ {x : Val} {v : V}, RepV k W H x v → RepV k W' H x v
  | .non, _, h => h
  | .bl _, _, h => h
  | .int _, _, h => h
  | .str _, _, h => h
  | .tup xs, _, h => by
    obtain ⟨p, vs, e, s, r⟩ := h
    exact ⟨p, vs, e, s, RepL.more er ef r⟩
  | .lst xs, _, h => by
    obtain ⟨p, vs, e, f, s, r⟩ := h
    exact ⟨p, vs, e, ef _ f, s, RepL.more er ef r⟩
  | .rol xs, _, h => by
    obtain ⟨p, vs, e, s, r⟩ := h
    exact ⟨p, vs, e, s, RepL.more er ef r⟩
  | .ins c ks xs, _, h => by
    obtain ⟨p, dx, vs, e, f, s, n, r⟩ := h
    exact ⟨p, dx, vs, e, ef _ f, s, n, RepL.more er ef r⟩
  | .ref i, _, h => by
    obtain ⟨p, e, s⟩ := h
    exact ⟨p, e, er _ _ s⟩
  | .cls _, _, h => h
  | .tpd xs, _, h => by
    obtain ⟨p, o, vs, e, s, d, r⟩ := h
    exact ⟨p, o, vs, e, s, d, RepL.more er ef r⟩
  | .exv c ks xs, _, h => by
    obtain ⟨a, cls, d, h1, h2, h3, h4, h5⟩ := h
    refine ⟨a, cls, d, h1, h2, h3, h4, ?_⟩
    rcases h5 with h5 | ⟨dx, vs, e1, e2, r⟩
    · exact .inl h5
    · exact .inr ⟨dx, vs, e1, e2, RepL.more er ef r⟩
theorem RepL.more {k : Kx} {W W' : Wd} {H : Hp} (er : ∀ (i : Nat) p, W.rho[i]? = some p → W'.rho[i]? = some p) (ef : ∀ p, W.fz p → W'.fz p) : ∀ {xs : List Val} {vs : List V}, RepL k W H xs vs → RepL k W' H xs vs
  | [], _, h => h
  | x :: xs, _, h => by
    obtain ⟨v, r, e, h1, h2⟩ := h
    exact ⟨v, r, e, RepV.more er ef h1, RepL.more er ef h2⟩
end
mutual
/-- an object that no value speaks of may change -/
theorem RepV.aside {k : Kx} {W : Wd} {H : Hp} {D : Addr} {acc : List V} {o : HO} (hf : ¬ W.fz D) (hD : H D = some (.lst acc)) : ∀ {x : Val} {v : V}, RepV k W H x v → RepV k W (upd H D o) x v
  | .non, _, h => h
  | .bl _, _, h => h
  | .int _, _, h => h
  | .str _, _, h => h
  | .tup xs, _, h => by
    obtain ⟨p, vs, e, s, r⟩ := h
    refine ⟨p, vs, e, ?_, RepL.aside hf hD r⟩
    rcases s with (s | ⟨u, s⟩) | s
    · exact .inl (.inl (by rw [upd_ne (ne_of s hD (fun z => nomatch z))]; exact s))
    · exact .inl (.inr ⟨u, by rw [upd_ne (ne_of s hD (fun z => nomatch z))]; exact s⟩)
    · exact .inr s
  | .lst xs, _, h => by
    obtain ⟨p, vs, e, f, s, r⟩ := h
    have ne : p ≠ D := fun z => hf (z ▸ f)
    exact ⟨p, vs, e, f, by rw [upd_ne ne]; exact s, RepL.aside hf hD r⟩
  | .rol xs, _, h => by
    obtain ⟨p, vs, e, s, r⟩ := h
    refine ⟨p, vs, e, ?_, RepL.aside hf hD r⟩
    rcases s with ⟨u, s⟩ | s
    · exact .inl ⟨u, by rw [upd_ne (ne_of s hD (fun z => nomatch z))]; exact s⟩
    · exact .inr s
  | .ins c ks xs, _, h => by
    obtain ⟨p, dx, vs, e, f, s, n, r⟩ := h
    have ne : p ≠ D := fun z => hf (z ▸ f)
    exact ⟨p, dx, vs, e, f, by rw [upd_ne ne]; exact s, n, RepL.aside hf hD r⟩
  | .ref i, _, h => h
  | .cls _, _, h => h
  | .tpd xs, _, h => by
    obtain ⟨p, o, vs, e, s, d, r⟩ := h
    exact ⟨p, o, vs, e, by rw [upd_ne (ne_of s hD (fun z => nomatch z))]; exact s, d, RepL.aside hf hD r⟩
  | .exv c ks xs, _, h => by
    obtain ⟨a, cls, d, h1, h2, h3, h4, h5⟩ := h
    refine ⟨a, cls, d, h1, h2, h3, h4, ?_⟩
    rcases h5 with h5 | ⟨dx, vs, e1, e2, r⟩
    · exact .inl h5
    · exact .inr ⟨dx, vs, e1, by rw [upd_ne (ne_of e2 hD (fun z => nomatch z))]; exact e2, RepL.aside hf hD r⟩
theorem RepL.aside {k : Kx} {W : Wd} {H : Hp} {D : Addr} {acc : List V} {o : HO} (hf : ¬ W.fz D) (hD : H D = some (.lst acc)) : ∀ {xs : List Val} {vs : List V}, RepL k W H xs vs → RepL k W (upd H D o) xs vs
  | [], _, h => h
  | x :: xs, _, h => by
    obtain ⟨v, r, e, h1, h2⟩ := h
    exact ⟨v, r, e, RepV.aside hf hD h1, RepL.aside hf hD h2⟩
end
mutual
theorem RepV.le {k : Kx} {W W' : Wd} {H H' : Hp} (l : Le W W' H H') : ∀ {x : Val} {v : V}, RepV k W H x v → RepV k W' H' x v
  | .non, _, h => h
  | .bl _, _, h => h
  | .int _, _, h => h
  | .str _, _, h => h
  | .tup xs, _, h => by
    obtain ⟨p, vs, e, s, r⟩ := h
    exact ⟨p, vs, e, l.sqT s, RepL.le l r⟩
  | .lst xs, _, h => by
    obtain ⟨p, vs, e, f, s, r⟩ := h
    exact ⟨p, vs, e, l.fz _ f, l.keep _ _ s f, RepL.le l r⟩
  | .rol xs, _, h => by
    obtain ⟨p, vs, e, s, r⟩ := h
    refine ⟨p, vs, e, ?_, RepL.le l r⟩
    rcases s with ⟨o, s⟩ | s
    · exact .inl ⟨o, l.imm _ _ s trivial⟩
    · exact .inr s
  | .ins c ks xs, _, h => by
    obtain ⟨p, dx, vs, e, f, s, n, r⟩ := h
    exact ⟨p, dx, vs, e, l.fz _ f, l.keep _ _ s f, n, RepL.le l r⟩
  | .ref i, _, h => by
    obtain ⟨p, e, s⟩ := h
    exact ⟨p, e, l.at s⟩
  | .cls _, _, h => h
  | .tpd xs, _, h => by
    obtain ⟨p, o, vs, e, s, d, r⟩ := h
    exact ⟨p, o, vs, e, l.imm _ _ s trivial, d, RepL.le l r⟩
  | .exv c ks xs, _, h => by
    obtain ⟨a, cls, d, h1, h2, h3, h4, h5⟩ := h
    refine ⟨a, cls, d, h1, h2, h3, h4, ?_⟩
    rcases h5 with h5 | ⟨dx, vs, e1, e2, r⟩
    · exact .inl h5
    · exact .inr ⟨dx, vs, e1, l.imm _ _ e2 trivial, RepL.le l r⟩
theorem RepL.le {k : Kx} {W W' : Wd} {H H' : Hp} (l : Le W W' H H') : ∀ {xs : List Val} {vs : List V}, RepL k W H xs vs → RepL k W' H' xs vs
  | [], _, h => h
  | x :: xs, _, h => by
    obtain ⟨v, r, e, h1, h2⟩ := h
    exact ⟨v, r, e, RepV.le l h1, RepL.le l h2⟩
end
theorem RepL.len {k : Kx} {W : Wd} {H : Hp} : ∀ {xs : List Val} {vs : List V}, RepL k W H xs vs → vs.length = xs.length
  | [], _, h => by
    have e : _ = _ := h
    rw [e]
    rfl
  | x :: xs, _, h => by
    obtain ⟨v, r, rfl, h1, h2⟩ := h
    simp [RepL.len h2]
theorem RepL.get {k : Kx} {W : Wd} {H : Hp} : ∀ {xs : List Val} {vs : List V} {i : Nat} {x : Val}, RepL k W H xs vs → xs[i]? = some x → ∃ v, vs[i]? = some v ∧ RepV k W H x v
  | [], _, _, _, h, e => by simp at e
  | y :: xs, _, i, x, h, e => by
    obtain ⟨v, r, rfl, h1, h2⟩ := h
    cases i with
    | zero =>
      have e' : y = x := by simpa using e
      subst e'
      exact ⟨v, rfl, h1⟩
    | succ i => exact RepL.get (i := i) h2 (by simpa using e)
theorem RepL.append {k : Kx} {W : Wd} {H : Hp} : ∀ {xs ys : List Val} {vs us : List V}, RepL k W H xs vs → RepL k W H ys us → RepL k W H (xs ++ ys) (vs ++ us)
  | [], _, _, _, h, g => by
    have e : _ = _ := h
    rw [e]
    exact g
  | x :: xs, _, _, _, h, g => by
    obtain ⟨v, r, rfl, h1, h2⟩ := h
    exact ⟨v, _, rfl, h1, RepL.append h2 g⟩
theorem RepL.cons {k : Kx} {W : Wd} {H : Hp} {x : Val} {xs : List Val} {v : V} {vs : List V} (h : RepV k W H x v) (t : RepL k W H xs vs) : RepL k W H (x :: xs) (v :: vs) := ⟨v, vs, rfl, h, t⟩
theorem RepL.take {k : Kx} {W : Wd} {H : Hp} : ∀ {xs : List Val} {vs : List V} (n : Nat), RepL k W H xs vs → RepL k W H (xs.take n) (vs.take n)
  | [], _, n, h => by
    have e : _ = _ := h
    rw [e]
    cases n <;> rfl
  | x :: xs, _, 0, h => rfl
  | x :: xs, _, n + 1, h => by
    obtain ⟨v, r, rfl, h1, h2⟩ := h
    exact ⟨v, _, rfl, h1, RepL.take n h2⟩
theorem RepL.drop {k : Kx} {W : Wd} {H : Hp} : ∀ {xs : List Val} {vs : List V} (n : Nat), RepL k W H xs vs → RepL k W H (xs.drop n) (vs.drop n)
  | [], _, n, h => by
    have e : _ = _ := h
    rw [e]
    cases n <;> rfl
  | x :: xs, _, 0, h => h
  | x :: xs, _, n + 1, h => by
    obtain ⟨v, r, rfl, h1, h2⟩ := h
    exact RepL.drop n h2
theorem RepL.set {k : Kx} {W : Wd} {H : Hp} {x : Val} {v : V} (h : RepV k W H x v) : ∀ {xs : List Val} {vs : List V} (n : Nat), RepL k W H xs vs → RepL k W H (xs.set n x) (vs.set n v)
  | [], _, n, g => by
    have e : _ = _ := g
    rw [e]
    cases n <;> rfl
  | y :: xs, _, 0, g => by
    obtain ⟨u, r, rfl, h1, h2⟩ := g
    exact ⟨v, r, rfl, h, h2⟩
  | y :: xs, _, n + 1, g => by
    obtain ⟨u, r, rfl, h1, h2⟩ := g
    exact ⟨u, _, rfl, h1, RepL.set h n h2⟩
theorem RepL.eraseIdx {k : Kx} {W : Wd} {H : Hp} : ∀ {xs : List Val} {vs : List V} (n : Nat), RepL k W H xs vs → RepL k W H (xs.eraseIdx n) (vs.eraseIdx n)
  | [], _, n, g => by
    have e : _ = _ := g
    rw [e]
    cases n <;> rfl
  | y :: xs, _, 0, g => by
    obtain ⟨u, r, rfl, h1, h2⟩ := g
    exact h2
  | y :: xs, _, n + 1, g => by
    obtain ⟨u, r, rfl, h1, h2⟩ := g
    exact ⟨u, _, rfl, h1, RepL.eraseIdx n h2⟩
theorem RepL.reverse {k : Kx} {W : Wd} {H : Hp} : ∀ {xs : List Val} {vs : List V}, RepL k W H xs vs → RepL k W H xs.reverse vs.reverse
  | [], _, h => by
    have e : _ = _ := h
    rw [e]
    rfl
  | x :: xs, _, h => by
    obtain ⟨v, r, rfl, h1, h2⟩ := h
    rw [List.reverse_cons, List.reverse_cons]
    exact RepL.append (RepL.reverse h2) ⟨v, [], rfl, h1, rfl⟩
theorem RepL.map {k : Kx} {W : Wd} {H : Hp} {α : Type} {f : α → Val} {g : α → V} (h : ∀ a, RepV k W H (f a) (g a)) : ∀ l : List α, RepL k W H (l.map f) (l.map g)
  | [] => rfl
  | a :: l => ⟨_, _, rfl, h a, RepL.map h l⟩
def RepE (k : Kx) (W : Wd) (H : Hp) : Env → L2.St → Prop
  | [], σ => σ = []
  | e :: es, σ => ∃ o r, σ = o :: r ∧ (∀ x, e = some x → ∃ v, o = some v ∧ RepV k W H x v) ∧ RepE k W H es r
theorem RepE.le {k : Kx} {W W' : Wd} {H H' : Hp} (l : Le W W' H H') : ∀ {env : Env} {σ : L2.St}, RepE k W H env σ → RepE k W' H' env σ
  | [], _, h => h
  | e :: es, _, h => by
    obtain ⟨o, r, e1, h1, h2⟩ := h
    refine ⟨o, r, e1, fun x hx => ?_, RepE.le l h2⟩
    obtain ⟨v, e2, h3⟩ := h1 x hx
    exact ⟨v, e2, h3.le l⟩
theorem RepE.get {k : Kx} {W : Wd} {H : Hp} : ∀ {env : Env} {σ : L2.St} {i : Nat} {x : Val}, RepE k W H env σ → env[i]? = some (some x) → ∃ v, σ[i]? = some (some v) ∧ RepV k W H x v
  | [], _, _, _, h, e => by simp at e
  | y :: es, _, i, x, h, e => by
    obtain ⟨o, r, rfl, h1, h2⟩ := h
    cases i with
    | zero =>
      have e' : y = some x := by simpa using e
      obtain ⟨v, e2, h3⟩ := h1 x e'
      exact ⟨v, by rw [e2]; rfl, h3⟩
    | succ i => exact RepE.get (i := i) h2 (by simpa using e)
theorem RepE.set {k : Kx} {W : Wd} {H : Hp} {x : Val} {v : V} (h : RepV k W H x v) : ∀ {env : Env} {σ : L2.St} (n : Nat), RepE k W H env σ → RepE k W H (env.set n (some x)) (σ.set n (some v))
  | [], _, n, g => by
    have e : _ = _ := g
    rw [e]
    cases n <;> rfl
  | y :: es, _, 0, g => by
    obtain ⟨o, r, rfl, h1, h2⟩ := g
    exact ⟨some v, r, rfl, fun z hz => ⟨v, rfl, by cases hz; exact h⟩, h2⟩
  | y :: es, _, n + 1, g => by
    obtain ⟨o, r, rfl, h1, h2⟩ := g
    exact ⟨o, _, rfl, h1, RepE.set h n h2⟩
/-- names forgotten -/
theorem RepE.wipe1 {k : Kx} {W : Wd} {H : Hp} : ∀ {env : Env} {σ : L2.St} (n : Nat) (o : Option V), RepE k W H env σ → RepE k W H (env.set n none) (σ.set n o)
  | [], _, n, _, g => by
    have e : _ = _ := g
    rw [e]
    cases n <;> rfl
  | y :: es, _, 0, o, g => by
    obtain ⟨o', r, rfl, h1, h2⟩ := g
    exact ⟨o, r, rfl, fun z hz => (by cases hz), h2⟩
  | y :: es, _, n + 1, o, g => by
    obtain ⟨o', r, rfl, h1, h2⟩ := g
    exact ⟨o', _, rfl, h1, RepE.wipe1 n o h2⟩
theorem RepE.len {k : Kx} {W : Wd} {H : Hp} : ∀ {env : Env} {σ : L2.St}, RepE k W H env σ → σ.length = env.length
  | [], _, h => by
    have e : _ = _ := h
    rw [e]
    rfl
  | y :: es, _, h => by
    obtain ⟨o, r, rfl, h1, h2⟩ := h
    simp [RepE.len h2]
mutual
/-- a value as a key of a dict -/
def nkOf : Val → Option NestedKey
  | .non => some .none
  | .bl b => some (.num (if b then 1 else 0))
  | .int i => some (.num i)
  | .str x => some (.text x)
  | .tup xs => match nksOf xs with
    | some ks => some (.tup ks)
    | none => none
  | _ => none
def nksOf : List Val → Option (List NestedKey)
  | [] => some []
  | x :: xs => match nkOf x, nksOf xs with
    | some a, some b => some (a :: b)
    | _, _ => none
end
/-- may stand as a key of a dict of tuples -/
def tupKey (a : Val) : Option NestedKey := match a with
  | .tup xs => match nkOf (.tup xs) with
    | some n => if n.depth ≤ 8 then some n else none
    | none => none
  | _ => none
def keysD : List Val → Option (List NestedKey)
  | [] => some []
  | x :: xs => match tupKey x, keysD xs with
    | some a, some b => some (a :: b)
    | _, _ => none
/-- a dict whose keys are tuples: which keys, where they stand, what it holds -/
def DctO (w : World) (p : Addr) (ks : List NestedKey) (as : List Addr) (us : List V) : HO := .ext fun h =>
  (p == sysModules) = false ∧ ∃ xs : List (NestedKey × Addr × Value), xs.map (·.1) = ks ∧ xs.map (·.2.1) = as ∧ Vals us (xs.map (·.2.2)) ∧ (xs.map (·.1)).Nodup ∧
    ∃ o es ep, h.get? p = some o ∧ o.ExactDict ∧ o.data = .dict es ep ∧ es.toList = xs.map fun x => ⟨x.1.hash w, .ref x.2.1, x.2.2⟩
def RepO (k : Kx) (W : Wd) (H : Hp) : SO → Addr → Prop
  | .lst xs, p => ∃ vs, H p = some (.lst vs) ∧ RepL k W H xs vs
  | .ins c ks xs, p => ∃ dx vs, H p = some (.ins (k.cl c) dx (ks.zip vs)) ∧ ks.length = xs.length ∧ RepL k W H xs vs
  | .dk ks xs, p => ∃ us, H p = some (.dK (ks.zip us)) ∧ ks.length = xs.length ∧ RepL k W H xs us
  | .dn ks xs, p => ∃ ns as us, H p = some (DctO k.w p ns as us) ∧ keysD ks = some ns ∧ RepL k W H ks (as.map V.ref) ∧ RepL k W H xs us
structure Ok (k : Kx) (W : Wd) (H : Hp) (st : Sto) : Prop where
  nd : W.rho.Nodup
  len : W.rho.length = st.length
  fzs : ∀ p, W.fz p → H p ≠ none
  apart : ∀ p ∈ W.rho, ¬ W.fz p
  obj : ∀ (i : Nat) o p, st[i]? = some o → W.rho[i]? = some p → RepO k W H o p
theorem Ok.at {k : Kx} {W : Wd} {H : Hp} {st : Sto} {i : Nat} {o : SO} (h : Ok k W H st) (e : st[i]? = some o) : ∃ p, W.rho[i]? = some p ∧ RepO k W H o p := by
  have hi : i < W.rho.length := by
    rw [h.len]
    exact (List.getElem?_eq_some_iff.mp e).1
  exact ⟨W.rho[i], List.getElem?_eq_getElem hi, h.obj i o _ e (List.getElem?_eq_getElem hi)⟩
theorem Ok.there {k : Kx} {W : Wd} {H : Hp} {st : Sto} {p : Addr} (h : Ok k W H st) (hp : p ∈ W.rho) : H p ≠ none := by
  obtain ⟨i, hi, e⟩ := List.getElem_of_mem hp
  have hs : i < st.length := by
    rw [← h.len]
    exact hi
  have r := h.obj i st[i] p (List.getElem?_eq_getElem hs) (by rw [List.getElem?_eq_getElem hi, e])
  cases q : st[i] with
  | lst xs =>
    rw [q] at r
    obtain ⟨vs, z, _⟩ := r
    rw [z]
    exact fun z => nomatch z
  | ins c ks xs =>
    rw [q] at r
    obtain ⟨dx, vs, z, _⟩ := r
    rw [z]
    exact fun z => nomatch z
  | dk ks xs =>
    rw [q] at r
    obtain ⟨us, z, _⟩ := r
    rw [z]
    exact fun z => nomatch z
  | dn ks xs =>
    rw [q] at r
    obtain ⟨ns, as, us, z, _⟩ := r
    rw [z]
    exact fun z => nomatch z
/-- an object that is no store object and not frozen is laid (a new one) -/
theorem upd_dom {H : Hp} {p q : Addr} {o : HO} (h : H q ≠ none) : upd H p o q ≠ none := by
  by_cases e : q = p
  · rw [e, upd_same]
    exact fun z => nomatch z
  · rw [upd_ne e]
    exact h
theorem Le.new {W : Wd} {H : Hp} {p : Addr} {o : HO} (h : H p = none) : Le W W H (upd H p o) :=
  ⟨⟨[], by simp⟩, fun _ h => h, fun q u e _ => by rw [upd_ne (ne_of_none e h)]; exact e, fun q u e _ => by rw [upd_ne (ne_of_none e h)]; exact e, fun q u e _ => by rw [upd_ne (ne_of_none e h)]; exact e, fun _ h => .inl h, fun _ h => .inl h, fun _ h => upd_dom h⟩
theorem RepO.le {k : Kx} {W W' : Wd} {H H' : Hp} (l : Le W W' H H') {o : SO} {p : Addr} (e : H' p = H p) (h : RepO k W H o p) : RepO k W' H' o p := by
  cases o with
  | lst xs =>
    obtain ⟨vs, z, r⟩ := h
    exact ⟨vs, e.trans z, r.le l⟩
  | ins c ks xs =>
    obtain ⟨dx, vs, z, n, r⟩ := h
    exact ⟨dx, vs, e.trans z, n, r.le l⟩
  | dk ks xs =>
    obtain ⟨us, z, n, r⟩ := h
    exact ⟨us, e.trans z, n, r.le l⟩
  | dn ks xs =>
    obtain ⟨ns, as, us, z, n, r, r2⟩ := h
    exact ⟨ns, as, us, e.trans z, n, r.le l, r2.le l⟩
theorem Ok.new {k : Kx} {W : Wd} {H : Hp} {st : Sto} {p : Addr} {o : HO} (h : Ok k W H st) (hp : H p = none) : Ok k W (upd H p o) st :=
  ⟨h.nd, h.len, fun q f => by
    by_cases e : q = p
    · rw [e, upd_same]
      exact fun z => nomatch z
    · rw [upd_ne e]
      exact h.fzs q f, h.apart, fun i u q e1 e2 => by
    have hq : q ∈ W.rho := List.mem_of_getElem? e2
    have ne : q ≠ p := fun z => h.there hq (by rw [z]; exact hp)
    exact (h.obj i u q e1 e2).le (Le.new hp) (upd_ne ne)⟩
/-- a new frozen object -/
def Wd.fr (W : Wd) (p : Addr) : Wd := ⟨W.rho, fun q => W.fz q ∨ q = p⟩
theorem RepV.fr {k : Kx} {W : Wd} {H : Hp} {p : Addr} {x : Val} {v : V} (h : RepV k W H x v) : RepV k (W.fr p) H x v := RepV.more (W := W) (W' := W.fr p) (fun _ _ h => h) (fun _ h => Or.inl h) h
theorem RepO.fr {k : Kx} {W : Wd} {H : Hp} {p q : Addr} {o : SO} (h : RepO k W H o q) : RepO k (W.fr p) H o q := by
  cases o with
  | lst xs =>
    obtain ⟨vs, z, r⟩ := h
    exact ⟨vs, z, r.more (W := W) (W' := W.fr p) (fun _ _ h => h) fun _ h => Or.inl h⟩
  | ins c ks xs =>
    obtain ⟨dx, vs, z, n, r⟩ := h
    exact ⟨dx, vs, z, n, r.more (W := W) (W' := W.fr p) (fun _ _ h => h) fun _ h => Or.inl h⟩
  | dk ks xs =>
    obtain ⟨us, z, n, r⟩ := h
    exact ⟨us, z, n, r.more (W := W) (W' := W.fr p) (fun _ _ h => h) fun _ h => Or.inl h⟩
  | dn ks xs =>
    obtain ⟨ns, as, us, z, n, r, r2⟩ := h
    exact ⟨ns, as, us, z, n, r.more (W := W) (W' := W.fr p) (fun _ _ h => h) (fun _ h => Or.inl h), r2.more (W := W) (W' := W.fr p) (fun _ _ h => h) fun _ h => Or.inl h⟩
theorem Ok.fr {k : Kx} {W : Wd} {H : Hp} {st : Sto} {p : Addr} (h : Ok k W H st) (hp : H p ≠ none) (hq : p ∉ W.rho) : Ok k (W.fr p) H st :=
  ⟨h.nd, h.len, fun q f => by
    rcases f with f | f
    · exact h.fzs q f
    · rw [f]
      exact hp, fun q m f => by
    rcases f with f | f
    · exact h.apart q m f
    · exact hq (f ▸ m), fun i u q e1 e2 => (h.obj i u q e1 e2).fr⟩
theorem Ok.newFr {k : Kx} {W : Wd} {H : Hp} {st : Sto} {p : Addr} {o : HO} (h : Ok k W H st) (hp : H p = none) : Le W (W.fr p) H (upd H p o) ∧ Ok k (W.fr p) (upd H p o) st :=
  ⟨⟨⟨[], by simp [Wd.fr]⟩, fun _ h => .inl h, (Le.new (W := W) hp).imm, (Le.new (W := W) hp).keep, (Le.new (W := W) hp).rest, fun _ h => .inl h, fun q f => by
    rcases f with f | f
    · exact .inl f
    · exact .inr (f ▸ hp), fun _ h => upd_dom h⟩, (h.new hp).fr (by rw [upd_same]; exact fun z => nomatch z) fun z => h.there z hp⟩
/-- a new store object -/
def Wd.ob (W : Wd) (p : Addr) : Wd := ⟨W.rho ++ [p], W.fz⟩
theorem Ok.newOb {k : Kx} {W : Wd} {H : Hp} {st : Sto} {p : Addr} {o : HO} {u : SO} (h : Ok k W H st) (hp : H p = none) (hu : RepO k (W.ob p) (upd H p o) u p) :
    Le W (W.ob p) H (upd H p o) ∧ Ok k (W.ob p) (upd H p o) (st ++ [u]) := by
  have l : Le W (W.ob p) H (upd H p o) := ⟨⟨[p], rfl⟩, fun _ h => h, (Le.new (W := W) hp).imm, (Le.new (W := W) hp).keep, (Le.new (W := W) hp).rest, fun q m => by
    rcases List.mem_append.mp (show q ∈ W.rho ++ [p] from m) with m | m
    · exact .inl m
    · exact .inr (by rw [List.mem_singleton.mp m]; exact hp), fun _ h => .inl h, fun _ h => upd_dom h⟩
  refine ⟨l, ⟨?_, ?_, fun q f => ?_, fun q m f => ?_, fun i v q e1 e2 => ?_⟩⟩
  · show (W.rho ++ [p]).Nodup
    rw [List.nodup_append]
    exact ⟨h.nd, by simp, fun a ha b hb e => h.there ha (by rw [e, List.mem_singleton.mp hb]; exact hp)⟩
  · show (W.rho ++ [p]).length = (st ++ [u]).length
    rw [List.length_append, List.length_append, h.len]
    rfl
  · by_cases e : q = p
    · rw [e, upd_same]
      exact fun z => nomatch z
    · rw [upd_ne e]
      exact h.fzs q f
  · rcases List.mem_append.mp (show q ∈ W.rho ++ [p] from m) with m | m
    · exact h.apart q m f
    · rw [List.mem_singleton.mp m] at f
      exact h.fzs p f hp
  · have e2' : (W.rho ++ [p])[i]? = some q := e2
    by_cases hi : i < st.length
    · rw [List.getElem?_append_left hi] at e1
      rw [List.getElem?_append_left (by rw [h.len]; exact hi)] at e2'
      have ne : q ≠ p := fun z => h.there (List.mem_of_getElem? e2') (by rw [z]; exact hp)
      exact (h.obj i v q e1 e2').le l (upd_ne ne)
    · rw [List.getElem?_append_right (by omega)] at e1
      rw [List.getElem?_append_right (by rw [h.len]; omega), h.len] at e2'
      have hz : i - st.length = 0 := by
        by_cases z : i - st.length = 0
        · exact z
        · rw [List.getElem?_eq_none (by simp; omega)] at e1
          cases e1
      rw [hz] at e1 e2'
      cases e1
      cases e2'
      exact hu
theorem nodup_ix_addr {l : List Addr} (nd : l.Nodup) {i j : Nat} {x : Addr} (a : l[i]? = some x) (b : l[j]? = some x) : i = j := by
  obtain ⟨h1, e1⟩ := List.getElem?_eq_some_iff.mp a
  obtain ⟨h2, e2⟩ := List.getElem?_eq_some_iff.mp b
  exact (List.getElem_inj nd).mp (e1.trans e2.symm)
/-- a store object is changed -/
theorem Ok.put {k : Kx} {W : Wd} {H : Hp} {st : Sto} {i : Nat} {p : Addr} {o o' : HO} {u : SO} (h : Ok k W H st) (hi : W.rho[i]? = some p) (ho : H p = some o) (hm : ¬ Imm o) (hu : RepO k W (upd H p o') u p) :
    Le W W H (upd H p o') ∧ Ok k W (upd H p o') (st.set i u) := by
  have hp : p ∈ W.rho := List.mem_of_getElem? hi
  have l : Le W W H (upd H p o') := ⟨⟨[], by simp⟩, fun _ h => h, fun q v e m => by
    have ne : q ≠ p := fun z => by
      rw [z, ho] at e
      cases e
      exact hm m
    rw [upd_ne ne]
    exact e, fun q v e f => by
    have ne : q ≠ p := fun z => h.apart p hp (z ▸ f)
    rw [upd_ne ne]
    exact e, fun q v e f => by
    have ne : q ≠ p := fun z => f (z ▸ hp)
    rw [upd_ne ne]
    exact e, fun _ h => .inl h, fun _ h => .inl h, fun _ h => upd_dom h⟩
  refine ⟨l, ⟨h.nd, by rw [List.length_set]; exact h.len, fun q f => ?_, h.apart, fun j v q e1 e2 => ?_⟩⟩
  · by_cases e : q = p
    · rw [e, upd_same]
      exact fun z => nomatch z
    · rw [upd_ne e]
      exact h.fzs q f
  · by_cases e : j = i
    · subst e
      rw [hi] at e2
      cases e2
      have hl : j < st.length := by
        rw [← h.len]
        exact (List.getElem?_eq_some_iff.mp hi).1
      rw [List.getElem?_set_self hl] at e1
      cases e1
      exact hu
    · rw [List.getElem?_set_ne (Ne.symm e)] at e1
      have ne : q ≠ p := fun z => by
        subst z
        exact e (nodup_ix_addr h.nd e2 hi)
      exact (h.obj j v q e1 e2).le l (upd_ne ne)
end Mi
namespace Mi
open PySem L2
/-! ### ends, readings -/
def RepX (k : Kx) (W : Wd) (H : Hp) (x : Exc) (c : Value) (d : Option Addr) : Prop :=
  c = .ref (k.cl x.cls) ∧ x.ks.length = x.xs.length ∧ (x.ks = [] ∧ d = none ∨ ∃ a vs, d = some a ∧ H a = some (.xd (x.ks.zip vs)) ∧ RepL k W H x.xs vs)
def Fin {α β : Type} (k : Kx) (R : Wd → Hp → α → β → Prop) (E : XK) (W : Wd) (H : Hp) (Q : β → Hp → Prop) : Except Exc α × Sto → Prop
  | (.ok r, st) => ∀ W' H' v, Le W W' H H' → Ok k W' H' st → R W' H' r v → Q v H'
  | (.error x, st) => ∀ W' H' c d, Le W W' H H' → Ok k W' H' st → RepX k W' H' x c d → E c d H'
theorem Fin.le {α β : Type} {k : Kx} {R : Wd → Hp → α → β → Prop} {E : XK} {W W1 : Wd} {H H1 : Hp} {Q : β → Hp → Prop} {o : Except Exc α × Sto} (l : Le W W1 H H1) (h : Fin k R E W H Q o) : Fin k R E W1 H1 Q o := by
  obtain ⟨r, st⟩ := o
  cases r with
  | ok r => exact fun W' H' v l' => h W' H' v (l.trans l')
  | error x => exact fun W' H' c d l' => h W' H' c d (l.trans l')
theorem Fin.mono {α β : Type} {k : Kx} {R : Wd → Hp → α → β → Prop} {E : XK} {W : Wd} {H : Hp} {Q Q' : β → Hp → Prop} {o : Except Exc α × Sto} (h : Fin k R E W H Q o) (q : ∀ v H, Q v H → Q' v H) : Fin k R E W H Q' o := by
  obtain ⟨r, st⟩ := o
  cases r with
  | ok r => exact fun W' H' v l o r => q _ _ (h W' H' v l o r)
  | error x => exact h
/-- at the world W -/
def At {α β : Type} (k : Kx) (R : Wd → Hp → α → β → Prop) (E : WX) (m : M α) (W : Wd) (σ : L2.St) (H : Hp) (Q : β → Hp → Prop) : Prop :=
  ∃ env st o, Ok k W H st ∧ RepE k W H env σ ∧ m env st = some o ∧ Fin k R (fun c d H' => E c d σ H') W H Q o
def tG {α β : Type} (k : Kx) (R : Wd → Hp → α → β → Prop) (E : WX) (m : M α) (σ : L2.St) (H : Hp) (Q : β → Hp → Prop) : Prop := ∃ W, At k R E m W σ H Q
def RB : Wd → Hp → Bool → Bool → Prop := fun _ _ a b => b = a
def tM (k : Kx) (E : WX) (m : M Val) : TE := fun σ H Q => tG k (RepV k) E m σ H Q
def tMb (k : Kx) (E : WX) (m : M Bool) : TT := fun σ H Q => tG k RB E m σ H Q
def tMa (k : Kx) (E : WX) (m : M (List Val)) : TA := fun σ H Q => tG k (RepL k) E m σ H Q
/-! ### the mirror's own words -/
def ret {α : Type} (a : α) : M α := fun _ st => some (.ok a, st)
def stuck {α : Type} : M α := fun _ _ => none
def bnd {α β : Type} (m : M α) (f : α → M β) : M β := fun env st =>
  match m env st with
  | some (.ok a, st1) => f a env st1
  | some (.error x, st1) => some (.error x, st1)
  | none => none
def lift {α : Type} (o : Sto → Option α) : M α := fun _ st => (o st).map fun c => (.ok c, st)
def var (i : Nat) : M Val := fun env st => match env[i]? with
  | some (some v) => some (.ok v, st)
  | _ => none
section
variable {k : Kx} {E : WX} {σ : L2.St} {W : Wd} {H : Hp}
theorem tG.mono {α β : Type} {R : Wd → Hp → α → β → Prop} {m : M α} {Q Q' : β → Hp → Prop} (h : tG k R E m σ H Q) (q : ∀ v H, Q v H → Q' v H) : tG k R E m σ H Q' := by
  obtain ⟨W, env, st, o, h1, h2, h3, h4⟩ := h
  exact ⟨W, env, st, o, h1, h2, h3, h4.mono q⟩
theorem At.bnd {α β γ δ : Type} {R1 : Wd → Hp → α → β → Prop} {R2 : Wd → Hp → γ → δ → Prop} {m : M α} {f : α → M γ} {Q : δ → Hp → Prop} (P : Wd → Hp → Prop) (mono : ∀ {W W' : Wd} {H H' : Hp}, Le W W' H H' → P W H → P W' H') (hp : P W H)
    (h : At k R2 E (bnd m f) W σ H Q) : tG k R1 E m σ H fun x H1 => ∃ W1 a, P W1 H1 ∧ R1 W1 H1 a x ∧ At k R2 E (f a) W1 σ H1 Q := by
  obtain ⟨env, st, o, h1, h2, h3, h4⟩ := h
  unfold Mi.bnd at h3
  cases e : m env st with
  | none =>
    rw [e] at h3
    cases h3
  | some p =>
    rw [e] at h3
    obtain ⟨r, st1⟩ := p
    cases r with
    | ok a => exact ⟨W, env, st, _, h1, h2, e, fun W' H' v l o' r' => ⟨W', a, mono l hp, r', env, st1, o, o', h2.le l, h3, h4.le l⟩⟩
    | error x =>
      cases h3
      exact ⟨W, env, st, _, h1, h2, e, h4⟩
theorem tG.bnd {α β γ δ : Type} {R1 : Wd → Hp → α → β → Prop} {R2 : Wd → Hp → γ → δ → Prop} {m : M α} {f : α → M γ} {Q : δ → Hp → Prop} (h : tG k R2 E (bnd m f) σ H Q) : tG k R1 E m σ H fun x H1 => ∃ W1 a, R1 W1 H1 a x ∧ At k R2 E (f a) W1 σ H1 Q := by
  obtain ⟨W, h⟩ := h
  exact (At.bnd (R1 := R1) (fun _ _ => True) (fun _ _ => trivial) trivial h).mono fun v H ⟨W1, a, _, h1, h2⟩ => ⟨W1, a, h1, h2⟩
theorem At.lift {α β : Type} {R : Wd → Hp → α → β → Prop} {o : Sto → Option α} {Q : β → Hp → Prop} (h : At k R E (lift o) W σ H Q) : ∃ c st, o st = some c ∧ Ok k W H st ∧ ∀ W' H' v, Le W W' H H' → Ok k W' H' st → R W' H' c v → Q v H' := by
  obtain ⟨env, st, r, h1, h2, h3, h4⟩ := h
  unfold Mi.lift at h3
  cases e : o st with
  | none =>
    rw [e] at h3
    cases h3
  | some c =>
    rw [e] at h3
    cases h3
    exact ⟨c, st, e, h1, h4⟩
/-- two operands -/
theorem tG.bin {γ δ : Type} {R2 : Wd → Hp → γ → δ → Prop} {ma mb : M Val} {f : Val → Val → M γ} {Q : δ → Hp → Prop} (h : tG k R2 E (Mi.bnd ma fun a => Mi.bnd mb fun b => f a b) σ H Q) :
    tM k E ma σ H fun x H1 => tM k E mb σ H1 fun y H2 => ∃ W a b, RepV k W H2 a x ∧ RepV k W H2 b y ∧ At k R2 E (f a b) W σ H2 Q := by
  refine tG.mono (tG.bnd (R1 := RepV k) h) fun x H1 ⟨W1, a, ra, h1⟩ => ?_
  exact (At.bnd (R1 := RepV k) (fun W H => RepV k W H a x) (fun l r => r.le l) ra h1).mono fun y H2 ⟨W2, b, r1, r2, h2⟩ => ⟨W2, a, b, r1, r2, h2⟩
end
section
variable {X : Cx} {k : Kx} {E : WX}
theorem imp {e : Expr} {t u : TE} (h : PE X e t) (i : ∀ σ H Q, u σ H Q → t σ H Q) : PE X e u := ⟨fun pins s σ H Q I q => h.run pins s σ H Q I (i σ H Q q)⟩
theorem impT {e : Expr} {t u : TT} (h : PT X e t) (i : ∀ σ H Q, u σ H Q → t σ H Q) : PT X e u := ⟨fun pins s σ H Q I q => h.run pins s σ H Q I (i σ H Q q)⟩
theorem impW {e : Expr} {t u : TT} (h : PW X e t) (i : ∀ σ H Q, u σ H Q → t σ H Q) : PW X e u := ⟨fun wh pins s σ H Q I q => h.run wh pins s σ H Q I (i σ H Q q)⟩
theorem impA {e : List Expr} {t u : TA} (h : PA X e t) (i : ∀ σ H Q, u σ H Q → t σ H Q) : PA X e u := ⟨fun pos pins s σ H Q I q => h.run pos pins s σ H Q I (i σ H Q q)⟩
theorem impS {e : Stmt} {t u : TS} (h : PS X e t) (i : ∀ D σ H, u D σ H → t D σ H) : PS X e u := ⟨fun pins s σ H D I q => h.run pins s σ H D I (i D σ H q)⟩
theorem impSs {e : List Stmt} {t u : TS} (h : PSs X e t) (i : ∀ D σ H, u D σ H → t D σ H) : PSs X e u := ⟨fun pins s σ H D I q => h.run pins s σ H D I (i D σ H q)⟩
/-! ### names, constants -/
theorem me_var (i : Nat) {x : Str} {pos : Pos} (h : PE X (.Name x pos) (tVar i)) : PE X (.Name x pos) (tM k E (var i)) := imp h fun σ H Q ⟨W, env, st, o, h1, h2, h3, h4⟩ => by
  unfold var at h3
  split at h3
  · next v e =>
    cases h3
    obtain ⟨u, e2, r⟩ := h2.get e
    exact ⟨u, e2, h4 W H u (Le.refl W H) h1 r⟩
  · cases h3
/-- a value that stands everywhere for the same thing -/
def Cst (k : Kx) (a : Val) (v : V) : Prop := ∀ W H, RepV k W H a v
theorem me_c {e : Expr} {a : Val} {v : V} (h : PE X e (tC v)) (c : Cst k a v) : PE X e (tM k E (ret a)) := imp h fun σ H Q ⟨W, env, st, o, h1, h2, h3, h4⟩ => by
  cases h3
  exact h4 W H v (Le.refl W H) h1 (c W H)
theorem me_int {i : Int} {j pos} : PE X (.Constant (.int i) j pos) (tM k E (ret (.int i))) := me_c pe_int fun _ _ => rfl
theorem me_bl {b : Bool} {j pos} : PE X (.Constant (.bool b) j pos) (tM k E (ret (.bl b))) := me_c pe_bl fun _ _ => rfl
theorem me_non {j pos} : PE X (.Constant .none j pos) (tM k E (ret .non)) := me_c pe_non fun _ _ => rfl
theorem me_str {x : Str} {j pos} : PE X (.Constant (.str x) j pos) (tM k E (ret (.str x))) := me_c pe_str fun _ _ => rfl
theorem me_glob {x : Str} {a : Val} {v : V} {u : Value} {pos : Pos} (hg : Gl X x) (hm : X.mg x = some u) (r : RelV v u) (c : Cst k a v) (hd : (x == ("__debug__" : Str)) = false := by decide) : PE X (.Name x pos) (tM k E (ret a)) := me_c (pe_glob hg hm r hd) c
/-! ### operators -/
/-- f is what r asks for (nothing of the store is changed) -/
def Rd2 (k : Kx) (f : Sto → Val → Val → Option Val) (r : R2) : Prop := ∀ W H st a b x y c Q, Ok k W H st → RepV k W H a x → RepV k W H b y → f st a b = some c → (∀ W' H' v, Le W W' H H' → Ok k W' H' st → RepV k W' H' c v → Q v H') → r x y H Q
def bin (f : Sto → Val → Val → Option Val) (ma mb : M Val) : M Val := bnd ma fun a => bnd mb fun b => lift fun st => f st a b
def un (f : Sto → Val → Option Val) (ma : M Val) : M Val := bnd ma fun a => lift fun st => f st a
theorem bin_read {f : Sto → Val → Val → Option Val} {r : R2} (hr : Rd2 k f r) {ma mb : M Val} {σ : L2.St} {H : Hp} {Q : VK} (h : tM k E (bin f ma mb) σ H Q) : tOp r (tM k E ma) (tM k E mb) σ H Q := by
  refine tG.mono (tG.bin h) fun x H1 h1 => tG.mono h1 fun y H2 ⟨W, a, b, ra, rb, h2⟩ => ?_
  obtain ⟨c, st, e, o, q⟩ := h2.lift
  exact hr W H2 st a b x y c Q o ra rb e q
theorem me_op {a b : Expr} {op : Operator} {pos : Pos} {f : Sto → Val → Val → Option Val} {r : R2} {ma mb : M Val} (hr : Rd2 k f r) (ho : OpR X (binaryOp op) r) (ha : PE X a (tM k E ma)) (hb : PE X b (tM k E mb)) : PE X (.BinOp a op b pos) (tM k E (bin f ma mb)) :=
  imp (pe_op ho ha hb) fun _ _ _ h => bin_read hr h
theorem me_cmp {a b : Expr} {op : CmpOp} {pos : Pos} {f : Sto → Val → Val → Option Val} {r : R2} {ma mb : M Val} (hr : Rd2 k f r) (ho : OpR X (compareOp op) r) (hm : behindInMarks op b = false) (ha : PE X a (tM k E ma)) (hb : PE X b (tM k E mb)) :
    PE X (.Compare a [op] [b] pos) (tM k E (bin f ma mb)) := imp (pe_cmpR ho ha hb hm) fun _ _ _ h => bin_read hr h
def asBool : Val → Option Bool
  | .bl b => some b
  | _ => none
def asB (m : M Val) : M Bool := bnd m fun a => lift fun _ => asBool a
theorem asB_read {m : M Val} {σ : L2.St} {H : Hp} {Q : Bool → Hp → Prop} (h : tMb k E (asB m) σ H Q) : tM k E m σ H fun x H1 => ∃ c, x = .bl c ∧ Q c H1 := by
  refine tG.mono (tG.bnd (R1 := RepV k) h) fun x H1 ⟨W, a, ra, h1⟩ => ?_
  obtain ⟨c, st, e, o, q⟩ := h1.lift
  cases a with
  | bl b =>
    cases e
    exact ⟨_, ra, q W H1 _ (Le.refl W H1) o rfl⟩
  | _ => cases e
/-- a comparison as a test -/
theorem mt_cmp {a b : Expr} {op : CmpOp} {pos : Pos} {f : Sto → Val → Val → Option Val} {r : R2} {ma mb : M Val} (hr : Rd2 k f r) (ho : OpR X (compareOp op) r) (hm : behindInMarks op b = false) (ha : PE X a (tM k E ma)) (hb : PE X b (tM k E mb)) :
    PT X (.Compare a [op] [b] pos) (tMb k E (asB (bin f ma mb))) := impT (pt_cmpR ho ha hb hm) fun σ H Q h => by
  have h1 := bin_read (Q := fun x H1 => ∃ c, x = .bl c ∧ Q c H1) hr (asB_read h)
  exact h1
theorem mt_val {e : Expr} {m : M Val} (h : PE X e (tM k E m)) (he : ∀ whole, isTrue e X.env whole = (do let v ← whole; standAt e.pos; holding [v] (truthy v)) := by intro _; rfl) : PT X e (tMb k E (asB m)) :=
  impT (pt_val h he) fun σ H Q h => asB_read h
def andB (a b : M Bool) : M Bool := bnd a fun c => if c then b else ret false
def orB (a b : M Bool) : M Bool := bnd a fun c => if c then ret true else b
def notB (a : M Bool) : M Bool := bnd a fun c => ret (!c)
theorem At.tG {α β : Type} {R : Wd → Hp → α → β → Prop} {m : M α} {W : Wd} {σ : L2.St} {H : Hp} {Q : β → Hp → Prop} (h : At k R E m W σ H Q) : tG k R E m σ H Q := ⟨W, h⟩
theorem At.ret {α β : Type} {R : Wd → Hp → α → β → Prop} {a : α} {W : Wd} {σ : L2.St} {H : Hp} {Q : β → Hp → Prop} (h : At k R E (ret a) W σ H Q) {v : β} (r : R W H a v) : Q v H := by
  obtain ⟨env, st, o, h1, h2, h3, h4⟩ := h
  cases h3
  exact h4 W H v (Le.refl W H) h1 r
theorem mw_and1 {a : Expr} {pos : Pos} {m : M Bool} (ha : PT X a (tMb k E m)) : PW X (.BoolOp .And [a] pos) (tMb k E m) := pw_and1 ha
theorem mw_or1 {a : Expr} {pos : Pos} {m : M Bool} (ha : PT X a (tMb k E m)) : PW X (.BoolOp .Or [a] pos) (tMb k E m) := pw_or1 ha
theorem mw_and {a b : Expr} {rest : List Expr} {pos : Pos} {m n : M Bool} (ha : PT X a (tMb k E m)) (hb : PW X (.BoolOp .And (b :: rest) pos) (tMb k E n)) : PW X (.BoolOp .And (a :: b :: rest) pos) (tMb k E (andB m n)) :=
  impW (pw_and ha hb) fun σ H Q h => tG.mono (tG.bnd (R1 := RB) h) fun c H1 ⟨W, a, ra, h1⟩ => by
    cases ra
    cases c with
    | true => exact h1.tG
    | false => exact h1.ret rfl
theorem mw_or {a b : Expr} {rest : List Expr} {pos : Pos} {m n : M Bool} (ha : PT X a (tMb k E m)) (hb : PW X (.BoolOp .Or (b :: rest) pos) (tMb k E n)) : PW X (.BoolOp .Or (a :: b :: rest) pos) (tMb k E (orB m n)) :=
  impW (pw_or ha hb) fun σ H Q h => tG.mono (tG.bnd (R1 := RB) h) fun c H1 ⟨W, a, ra, h1⟩ => by
    cases ra
    cases c with
    | true => exact h1.ret rfl
    | false => exact h1.tG
theorem mt_not {a : Expr} {pos : Pos} {m : M Bool} (ha : PT X a (tMb k E m)) : PT X (.UnaryOp .Not a pos) (tMb k E (notB m)) :=
  impT (pt_not ha) fun σ H Q h => tG.mono (tG.bnd (R1 := RB) h) fun c H1 ⟨W, a, ra, h1⟩ => by
    cases ra
    exact h1.ret rfl
/-- and, or, not as values (bools; the last one may be anything) -/
def andV (a b : M Val) : M Val := bnd (asB a) fun c => if c then b else ret (.bl false)
def orV (a b : M Val) : M Val := bnd (asB a) fun c => if c then ret (.bl true) else b
def notV (a : M Val) : M Val := bnd (asB a) fun c => ret (.bl (!c))
theorem valB {γ δ : Type} {R2 : Wd → Hp → γ → δ → Prop} {m : M Val} {f : Bool → M γ} {σ : L2.St} {H : Hp} {Q : δ → Hp → Prop} (h : tG k R2 E (bnd (asB m) f) σ H Q) : tM k E m σ H fun x H1 => ∃ c, x = .bl c ∧ ∃ W, At k R2 E (f c) W σ H1 Q := by
  have h1 := asB_read (k := k) (E := E) (tG.bnd (R1 := RB) h)
  exact tG.mono h1 fun x H1 ⟨c, e, W, a, ra, h2⟩ => by
    cases ra
    exact ⟨c, e, W, h2⟩
theorem me_one {a : Expr} {op : BoolOp} {pos : Pos} {m : M Val} (ha : PE X a (tM k E m)) : PE X (.BoolOp op [a] pos) (tM k E m) := pe_one ha
theorem me_and {a b : Expr} {rest : List Expr} {pos : Pos} {m n : M Val} (ha : PE X a (tM k E m)) (hb : PE X (.BoolOp .And (b :: rest) pos) (tM k E n)) : PE X (.BoolOp .And (a :: b :: rest) pos) (tM k E (andV m n)) :=
  imp (pe_and ha hb) fun σ H Q h => tG.mono (valB h) fun x H1 ⟨c, e, W, h1⟩ => ⟨c, e, by
    cases c with
    | true => exact h1.tG
    | false => exact h1.ret rfl⟩
theorem me_or {a b : Expr} {rest : List Expr} {pos : Pos} {m n : M Val} (ha : PE X a (tM k E m)) (hb : PE X (.BoolOp .Or (b :: rest) pos) (tM k E n)) : PE X (.BoolOp .Or (a :: b :: rest) pos) (tM k E (orV m n)) :=
  imp (pe_or ha hb) fun σ H Q h => tG.mono (valB h) fun x H1 ⟨c, e, W, h1⟩ => ⟨c, e, by
    cases c with
    | true => exact h1.ret rfl
    | false => exact h1.tG⟩
theorem me_not {a : Expr} {pos : Pos} {m : M Val} (ha : PE X a (tM k E m)) : PE X (.UnaryOp .Not a pos) (tM k E (notV m)) :=
  imp (pe_not ha) fun σ H Q h => tG.mono (valB h) fun x H1 ⟨c, e, W, h1⟩ => ⟨c, e, h1.ret rfl⟩
def ifV (c : M Bool) (a b : M Val) : M Val := bnd c fun c => if c then a else b
theorem me_if {c a b : Expr} {pos : Pos} {mc : M Bool} {ma mb : M Val} (hc : PT X c (tMb k E mc)) (ha : PE X a (tM k E ma)) (hb : PE X b (tM k E mb)) : PE X (.IfExp c a b pos) (tM k E (ifV mc ma mb)) :=
  imp (pe_ifExp hc ha hb) fun σ H Q h => tG.mono (tG.bnd (R1 := RB) h) fun c H1 ⟨W, a, ra, h1⟩ => by
    cases ra
    cases c with
    | true => exact h1.tG
    | false => exact h1.tG
/-- a < b < c -/
def chain (f g : Sto → Val → Val → Option Val) (ma mb mc : M Val) : M Val := bnd ma fun a => bnd mb fun b => bnd (lift fun st => (f st a b).bind asBool) fun t => if t then bnd mc fun c => lift fun st => g st b c else ret (.bl false)
theorem chain_read {f g : Sto → Val → Val → Option Val} {r r' : R2} (hr : Rd2 k f r) (hr' : Rd2 k g r') {ma mb mc : M Val} {σ : L2.St} {H : Hp} {Q : VK} (h : tM k E (chain f g ma mb mc) σ H Q) : tChain r r' (tM k E ma) (tM k E mb) (tM k E mc) σ H Q := by
  refine tG.mono (tG.bin h) fun x H1 h1 => tG.mono h1 fun y H2 ⟨W, a, b, ra, rb, h2⟩ => ?_
  have h3 := At.bnd (R1 := RB) (fun W H => RepV k W H b y) (fun l r => r.le l) rb h2
  obtain ⟨W3, env, st, o, o1, e1, m1, f1⟩ := h3
  obtain ⟨env', st', o', o2, e2, m2, f2⟩ := h2
  unfold Mi.bnd Mi.lift at m2
  dsimp only at m2
  cases e : f st' a b with
  | none =>
    rw [e] at m2
    cases m2
  | some c =>
    rw [e] at m2
    cases c with
    | bl t =>
      refine hr W H2 st' a b x y (.bl t) _ o2 ra rb e fun W' H' v l ok rv => ⟨t, rv, ?_⟩
      have m3 : (if t then Mi.bnd mc fun c => Mi.lift fun st => g st b c else Mi.ret (.bl false)) env' st' = some o' := m2
      cases t with
      | true =>
        show tM k E mc σ H' fun w' H4 => r' y w' H4 Q
        have h4 : At k (RepV k) E (Mi.bnd mc fun c => Mi.lift fun st => g st b c) W' σ H' Q := ⟨env', st', o', ok, e2.le l, m3, f2.le l⟩
        refine tG.mono (At.bnd (R1 := RepV k) (fun W H => RepV k W H b y) (fun l r => r.le l) (rb.le l) h4) fun z H4 ⟨W4, c, rb4, rc, h5⟩ => ?_
        obtain ⟨d, st4, e4, o4, q4⟩ := h5.lift
        exact hr' W4 H4 st4 b c y z d Q o4 rb4 rc e4 q4
      | false =>
        show Q (.bl false) H'
        have h4 : At k (RepV k) E (Mi.ret (.bl false)) W' σ H' Q := ⟨env', st', o', ok, e2.le l, m3, f2.le l⟩
        exact h4.ret rfl
    | _ => cases m2
end
end Mi
namespace Mi
open PySem L2
theorem OpR_or {X : Cx} {f : Value → Value → Sem Value} {r r' : R2} (h : OpR X f r) (h' : OpR X f r') : OpR X f (fun x y H Q => r x y H Q ∨ r' x y H Q) := by
  intro pins s σ H x y v u Q I rx ry q
  rcases q with q | q
  · exact h pins s σ H x y v u Q I rx ry q
  · exact h' pins s σ H x y v u Q I rx ry q
theorem CallR_or {X : Cx} {f : Value} {r r' : List V → Hp → VK → Prop} (h : CallR X f r) (h' : CallR X f r') : CallR X f (fun xs H Q => r xs H Q ∨ r' xs H Q) := by
  intro pins s σ H xs us Q I rx q
  rcases q with q | q
  · exact h pins s σ H xs us Q I rx q
  · exact h' pins s σ H xs us Q I rx q
theorem SlR_or {X : Cx} {r r' : V → Option Int → Option Int → Hp → VK → Prop} (h : SlR X r) (h' : SlR X r') : SlR X (fun x lo hi H Q => r x lo hi H Q ∨ r' x lo hi H Q) := by
  intro pins s σ H x v vl vu lo hi sl Q I rx hs pl pu q
  rcases q with q | q
  · exact h pins s σ H x v vl vu lo hi sl Q I rx hs pl pu q
  · exact h' pins s σ H x v vl vu lo hi sl Q I rx hs pl pu q
/-! ### reading lists and tuples -/
def lstOf (st : Sto) : Val → Option (List Val)
  | .lst xs => some xs
  | .rol xs => some xs
  | .ref i => match st[i]? with
    | some (.lst xs) => some xs
    | _ => none
  | _ => none
def seqOf (st : Sto) (a : Val) : Option (List Val) := match a with
  | .tup xs => some xs
  | a => lstOf st a
abbrev LIM : Nat := 16000000
theorem lim_le {n : Nat} (h : n ≤ LIM) : n ≤ sizeLine := Nat.le_trans h (by decide)
theorem lim_lt {n : Nat} (h : n < LIM) : n < sizeLine := Nat.lt_of_lt_of_le h (by decide)
section
variable {k : Kx} {W : Wd} {H : Hp} {st : Sto} {a : Val} {x : V} {xs : List Val}
theorem lstOf_rep (o : Ok k W H st) (r : RepV k W H a x) (e : lstOf st a = some xs) : ∃ p vs, x = .ref p ∧ SqL k.K H p vs ∧ RepL k W H xs vs := by
  cases a with
  | lst ys =>
    cases e
    obtain ⟨p, vs, e, f, s, r⟩ := r
    exact ⟨p, vs, e, .inl (.inl s), r⟩
  | rol ys =>
    cases e
    obtain ⟨p, vs, e, s, r⟩ := r
    refine ⟨p, vs, e, ?_, r⟩
    rcases s with ⟨u, s⟩ | (s | ⟨u, s⟩) | s
    · exact .inl (.inr ⟨u, s⟩)
    · cases s
    · cases s
    · exact .inr s
  | ref i =>
    obtain ⟨p, e1, s⟩ := r
    dsimp only [lstOf] at e
    cases q : st[i]? with
    | none =>
      rw [q] at e
      cases e
    | some u =>
      rw [q] at e
      cases u with
      | lst ys =>
        cases e
        obtain ⟨vs, z, r⟩ := o.obj i _ p q s
        exact ⟨p, vs, e1, .inl (.inl z), r⟩
      | _ => cases e
  | _ => cases e
theorem seqOf_rep (o : Ok k W H st) (r : RepV k W H a x) (e : seqOf st a = some xs) : ∃ p vs, x = .ref p ∧ (SqL k.K H p vs ∨ SqT k.K H p vs) ∧ RepL k W H xs vs := by
  unfold seqOf at e
  split at e
  · cases e
    obtain ⟨p, vs, e, s, r⟩ := r
    exact ⟨p, vs, e, .inr s, r⟩
  · obtain ⟨p, vs, e, s, r⟩ := lstOf_rep o r e
    exact ⟨p, vs, e, .inl s, r⟩
/-- a new tuple, a new list that nobody changes -/
theorem newTup {Q : VK} {p : Addr} {vs : List V} (o : Ok k W H st) (hp : H p = none) (r : RepL k W H xs vs) (q : ∀ W' H' v, Le W W' H H' → Ok k W' H' st → RepV k W' H' (.tup xs) v → Q v H') : Q (.ref p) (upd H p (.tup vs)) :=
  q W _ _ (Le.new hp) (o.new hp) ⟨p, vs, rfl, .inl (.inl upd_same), r.le (Le.new hp)⟩
theorem newLst {Q : VK} {p : Addr} {vs : List V} (o : Ok k W H st) (hp : H p = none) (r : RepL k W H xs vs) (q : ∀ W' H' v, Le W W' H H' → Ok k W' H' st → RepV k W' H' (.lst xs) v → Q v H') : Q (.ref p) (upd H p (.lst vs)) := by
  obtain ⟨l, o'⟩ := o.newFr (o := .lst vs) hp
  exact q (W.fr p) _ _ l o' ⟨p, vs, rfl, .inr rfl, upd_same, r.le l⟩
theorem ints_rep : ∀ {xs : List Val} {vs : List V} {ns : List Int}, RepL k W H xs vs → xs = ns.map .int → vs = ns.map .int
  | [], vs, ns, r, e => by
    have e1 : vs = [] := r
    cases ns with
    | nil => exact e1
    | cons n ns => cases e
  | x :: xs, vs, ns, r, e => by
    obtain ⟨v, u, rfl, r1, r2⟩ := r
    cases ns with
    | nil => cases e
    | cons n ns =>
      injection e with e1 e2
      subst e1
      have e3 : v = .int n := r1
      rw [e3, ints_rep r2 e2]
      rfl
theorem bls_rep : ∀ {xs : List Val} {vs : List V} {ns : List Bool}, RepL k W H xs vs → xs = ns.map .bl → vs = ns.map .bl
  | [], vs, ns, r, e => by
    have e1 : vs = [] := r
    cases ns with
    | nil => exact e1
    | cons n ns => cases e
  | x :: xs, vs, ns, r, e => by
    obtain ⟨v, u, rfl, r1, r2⟩ := r
    cases ns with
    | nil => cases e
    | cons n ns =>
      injection e with e1 e2
      subst e1
      have e3 : v = .bl n := r1
      rw [e3, bls_rep r2 e2]
      rfl
end
def intOf : Val → Option Int
  | .int i => some i
  | _ => none
def strOf : Val → Option Str
  | .str i => some i
  | _ => none
def allOf {α : Type} (f : Val → Option α) : List Val → Option (List α)
  | [] => some []
  | x :: xs => match f x, allOf f xs with
    | some a, some r => some (a :: r)
    | _, _ => none
theorem allOf_map {α : Type} {f : Val → Option α} {g : α → Val} (h : ∀ x a, f x = some a → x = g a) : ∀ {xs : List Val} {as : List α}, allOf f xs = some as → xs = as.map g
  | [], as, e => by
    cases e
    rfl
  | x :: xs, as, e => by
    unfold allOf at e
    cases e1 : f x with
    | none =>
      rw [e1] at e
      cases e
    | some a =>
      cases e2 : allOf f xs with
      | none =>
        rw [e1, e2] at e
        cases e
      | some r =>
        rw [e1, e2] at e
        cases e
        rw [h x a e1, allOf_map h e2]
        rfl
theorem intOf_eq (x : Val) (a : Int) (h : intOf x = some a) : x = .int a := by
  cases x <;> first | (cases h; rfl) | cases h
theorem asBool_eq (x : Val) (a : Bool) (h : asBool x = some a) : x = .bl a := by
  cases x <;> first | (cases h; rfl) | cases h
/-! ### + - * // % ** -/
def addV (_ : Sto) : Val → Val → Option Val
  | .int i, .int j => some (.int (i + j))
  | .str i, .str j => if i.length + j.length ≤ LIM then some (.str (i ++ j)) else none
  | .lst xs, .lst ys => if xs.length + ys.length ≤ LIM then some (.lst (xs ++ ys)) else none
  | .tup xs, .tup ys => if xs.length + ys.length ≤ LIM then some (.tup (xs ++ ys)) else none
  | _, _ => none
def subV (_ : Sto) : Val → Val → Option Val
  | .int i, .int j => some (.int (i - j))
  | _, _ => none
def small64 (i : Int) : Bool := decide (-(2 ^ 64) < i) && decide (i < 2 ^ 64)
def mulV (_ : Sto) : Val → Val → Option Val
  | .int i, .int j => if small64 i || small64 j then some (.int (i * j)) else none
  | .lst xs, .int j => if xs.length * j.toNat ≤ LIM ∧ -(2 ^ 63) ≤ j ∧ j < 2 ^ 63 then some (.lst (List.replicate j.toNat xs).flatten) else none
  | _, _ => none
def fdivV (_ : Sto) : Val → Val → Option Val
  | .int i, .int j => if 0 < j ∧ j < 1073741824 then some (.int (i / j)) else none
  | _, _ => none
def modV (_ : Sto) : Val → Val → Option Val
  | .int i, .int j => if 0 < j then some (.int (i % j)) else none
  | _, _ => none
def cmpV (p : Int → Int → Bool) (_ : Sto) : Val → Val → Option Val
  | .int i, .int j => some (.bl (p i j))
  | _, _ => none
section
variable {k : Kx}
theorem rd_int {f : Sto → Val → Val → Option Val} {g : Int → Int → V} (h : ∀ st a b c, f st a b = some c → ∃ i j d, a = .int i ∧ b = .int j ∧ c = d ∧ Cst k d (g i j)) : Rd2 k f (rI0 g) := by
  intro W H st a b x y c Q o ra rb e q
  obtain ⟨i, j, d, rfl, rfl, rfl, hc⟩ := h st a b c e
  exact ⟨i, j, ra, rb, q W H _ (Le.refl W H) o (hc W H)⟩
theorem rd_sub : Rd2 k subV (rI0 fun i j => .int (i - j)) := rd_int fun st a b c e => by
  cases a <;> cases b <;> first | (cases e; exact ⟨_, _, _, rfl, rfl, rfl, fun _ _ => rfl⟩) | cases e
theorem rd_cmp (p : Int → Int → Bool) : Rd2 k (cmpV p) (rI0 fun i j => .bl (p i j)) := rd_int fun st a b c e => by
  cases a <;> cases b <;> first | (cases e; exact ⟨_, _, _, rfl, rfl, rfl, fun _ _ => rfl⟩) | cases e
theorem rd_add : Rd2 k addV (fun x y H Q => (rI0 (fun i j => .int (i + j)) x y H Q ∨ (∃ i j, x = .str i ∧ y = .str j ∧ i.length + j.length ≤ sizeLine ∧ Q (.str (i ++ j)) H)) ∨ (rCat x y H Q ∨ rCatA k.K x y H Q)) := by
  intro W H st a b x y c Q o ra rb e q
  cases a <;> cases b <;> first | cases e | skip
  · exact .inl (.inl ⟨_, _, ra, rb, q W H _ (Le.refl W H) o rfl⟩)
  · rename_i i j
    dsimp only [addV] at e
    split at e
    · rename_i hl
      cases e
      exact .inl (.inr ⟨i, j, ra, rb, lim_le hl, q W H _ (Le.refl W H) o rfl⟩)
    · cases e
  · rename_i xs ys
    dsimp only [addV] at e
    split at e
    · rename_i hl
      cases e
      obtain ⟨p, vs, e1, s1, r1⟩ := ra
      obtain ⟨p2, us, e2, s2, r2⟩ := rb
      refine .inr (.inr ⟨p, p2, vs, us, e1, e2, s1, s2, by rw [r1.len, r2.len]; exact lim_le hl, fun z => ?_, fun z1 z2 => ?_, fun _ _ p hp => newTup o hp (r1.append r2) q⟩)
      · subst z
        have hx : xs = [] := List.length_eq_zero_iff.mp (by rw [← r1.len]; rfl)
        subst hx
        exact q W H _ (Le.refl W H) o ⟨p2, us, rfl, s2, r2⟩
      · subst z2
        have hy : ys = [] := List.length_eq_zero_iff.mp (by rw [← r2.len]; rfl)
        subst hy
        rw [List.append_nil] at q
        exact q W H _ (Le.refl W H) o ⟨p, vs, rfl, s1, r1⟩
    · cases e
  · rename_i xs ys
    dsimp only [addV] at e
    split at e
    · rename_i hl
      cases e
      obtain ⟨p, vs, e1, f1, s1, r1⟩ := ra
      obtain ⟨p2, us, e2, f2, s2, r2⟩ := rb
      exact .inr (.inl ⟨p, p2, vs, us, e1, e2, s1, s2, by rw [r1.len, r2.len]; exact lim_le hl, fun p hp => newLst o hp (r1.append r2) q⟩)
    · cases e
theorem rd_mul : Rd2 k mulV (fun x y H Q => rI CMul (fun i j => .int (i * j)) x y H Q ∨ rRep x y H Q) := by
  intro W H st a b x y c Q o ra rb e q
  cases a <;> cases b <;> first | cases e | skip
  · rename_i i j
    dsimp only [mulV] at e
    split at e
    · rename_i hl
      cases e
      refine .inl ⟨i, j, ra, rb, ?_, q W H _ (Le.refl W H) o rfl⟩
      rcases Bool.or_eq_true_iff.mp hl with z | z
      · have z2 := Bool.and_eq_true_iff.mp z
        exact .inl ⟨of_decide_eq_true z2.1, of_decide_eq_true z2.2⟩
      · have z2 := Bool.and_eq_true_iff.mp z
        exact .inr ⟨of_decide_eq_true z2.1, of_decide_eq_true z2.2⟩
    · cases e
  · rename_i xs j
    dsimp only [mulV] at e
    split at e
    · rename_i hl
      cases e
      obtain ⟨p, vs, e1, f1, s1, r1⟩ := ra
      refine .inr ⟨p, j, vs, e1, rb, s1, hl.2.1, hl.2.2, by rw [r1.len]; exact lim_le hl.1, fun p hp => newLst o hp ?_ q⟩
      generalize j.toNat = n
      induction n with
      | zero => exact rfl
      | succ n ih =>
        rw [List.replicate_succ, List.replicate_succ, List.flatten_cons, List.flatten_cons]
        exact r1.append ih
    · cases e
theorem rd_fdiv : Rd2 k fdivV (rI CDiv fun i j => .int (i / j)) := by
  intro W H st a b x y c Q o ra rb e q
  cases a <;> cases b <;> first | cases e | skip
  dsimp only [fdivV] at e
  split at e
  · rename_i hl
    cases e
    exact ⟨_, _, ra, rb, hl, q W H _ (Le.refl W H) o rfl⟩
  · cases e
theorem rd_mod : Rd2 k modV (rI (fun _ j => 0 < j) fun i j => .int (i % j)) := by
  intro W H st a b x y c Q o ra rb e q
  cases a <;> cases b <;> first | cases e | skip
  dsimp only [modV] at e
  split at e
  · rename_i hl
    cases e
    exact ⟨_, _, ra, rb, hl, q W H _ (Le.refl W H) o rfl⟩
  · cases e
end
section
variable {X : Cx} {k : Kx} {E : WX} {a b : Expr} {ma mb : M Val} {pos : Pos}
theorem me_add (ha : PE X a (tM k E ma)) (hb : PE X b (tM k E mb)) (hk : X.K = k.K := by rfl) : PE X (.BinOp a .Add b pos) (tM k E (bin addV ma mb)) := me_op (hk ▸ rd_add) (OpR_or (OpR_or op_add op_add_str) (OpR_or op_cat op_catA)) ha hb
theorem me_sub (ha : PE X a (tM k E ma)) (hb : PE X b (tM k E mb)) : PE X (.BinOp a .Sub b pos) (tM k E (bin subV ma mb)) := me_op rd_sub op_sub ha hb
theorem me_mul (ha : PE X a (tM k E ma)) (hb : PE X b (tM k E mb)) : PE X (.BinOp a .Mult b pos) (tM k E (bin mulV ma mb)) := me_op rd_mul (OpR_or op_mul op_rep) ha hb
theorem me_fdiv (ha : PE X a (tM k E ma)) (hb : PE X b (tM k E mb)) : PE X (.BinOp a .FloorDiv b pos) (tM k E (bin fdivV ma mb)) := me_op rd_fdiv op_fdiv ha hb
theorem me_mod (ha : PE X a (tM k E ma)) (hb : PE X b (tM k E mb)) : PE X (.BinOp a .Mod b pos) (tM k E (bin modV ma mb)) := me_op rd_mod op_mod ha hb
end
end Mi
namespace Mi
open PySem L2
/-! ### data, == at any depth -/
mutual
def toD0 : Val → Option PyData
  | .non => some .none
  | .bl b => some (.bool b)
  | .int i => some (.int i)
  | .str x => some (.str x)
  | .tup xs => (toD0s xs).map .tuple
  | .lst xs => (toD0s xs).map .list
  | .rol xs => (toD0s xs).map .list
  | .ins _ _ _ => none
  | .ref _ => none
  | .exv _ _ _ => none
  | .cls _ => none
  | .tpd _ => none
def toD0s : List Val → Option (List PyData)
  | [] => some []
  | x :: xs => match toD0 x, toD0s xs with
    | some d, some ds => some (d :: ds)
    | _, _ => none
end
def toD (st : Sto) : Val → Option PyData
  | .ref i => match st[i]? with
    | some (.lst xs) => (toD0s xs).map .list
    | _ => none
  | a => toD0 a
def eqD (st : Sto) (a b : Val) : Option Val := match toD st a, toD st b with
  | some d, some e => if SeqAt.shaped d = true ∧ SeqAt.shaped e = true then some (.bl (d.eqv e)) else none
  | _, _ => none
def neD (st : Sto) (a b : Val) : Option Val := match toD st a, toD st b with
  | some d, some e => if SeqAt.shaped d = true ∧ SeqAt.shaped e = true then some (.bl (!d.eqv e)) else none
  | _, _ => none
def eqV (st : Sto) (a b : Val) : Option Val := match strOf a, strOf b with
  | some x, some y => some (.bl (x == y))
  | _, _ => eqD st a b
def neV (st : Sto) (a b : Val) : Option Val := match strOf a, strOf b with
  | some x, some y => some (.bl (!(x == y)))
  | _, _ => neD st a b
section
variable {k : Kx} {W : Wd} {H : Hp} {st : Sto}
theorem SqL.ro {K : PySem.W.Frag} {p : Addr} {vs : List V} {H : Hp} (h : SqL K (fun _ => none) p vs) : SqL K H p vs := by
  rcases h with (s | ⟨u, s⟩) | s
  · cases s
  · cases s
  · exact .inr s
theorem RoL.sq {p : Addr} {vs : List V} (h : RoL k H p vs) : SqL k.K H p vs := by
  rcases h with ⟨u, s⟩ | s
  · exact .inl (.inr ⟨u, s⟩)
  · exact SqL.ro s
mutual
theorem toD0_rep : ∀ {a : Val} {x : V} {d : PyData}, RepV k W H a x → toD0 a = some d → Dp k.K H x d
  | .non, x, d, r, e => by
    have r' : x = .non := r
    cases e
    rw [r']
    exact .non
  | .bl b, x, d, r, e => by
    have r' : x = .bl b := r
    cases e
    rw [r']
    exact .bl b
  | .int i, x, d, r, e => by
    have r' : x = .int i := r
    cases e
    rw [r']
    exact .int i
  | .str z, x, d, r, e => by
    have r' : x = .str z := r
    cases e
    rw [r']
    exact .str z
  | .tup xs, x, d, r, e => by
    obtain ⟨p, vs, e1, s, r⟩ := r
    dsimp only [toD0] at e
    cases q : toD0s xs with
    | none =>
      rw [q] at e
      cases e
    | some ds =>
      rw [q] at e
      cases e
      rw [e1]
      exact .tup s (toD0s_rep r q)
  | .lst xs, x, d, r, e => by
    obtain ⟨p, vs, e1, f, s, r⟩ := r
    dsimp only [toD0] at e
    cases q : toD0s xs with
    | none =>
      rw [q] at e
      cases e
    | some ds =>
      rw [q] at e
      cases e
      rw [e1]
      exact .lst (.inl (.inl s)) (toD0s_rep r q)
  | .rol xs, x, d, r, e => by
    obtain ⟨p, vs, e1, s, r⟩ := r
    dsimp only [toD0] at e
    cases q : toD0s xs with
    | none =>
      rw [q] at e
      cases e
    | some ds =>
      rw [q] at e
      cases e
      rw [e1]
      exact .lst (RoL.sq s) (toD0s_rep r q)
  | .ins _ _ _, _, _, _, e => by cases e
  | .ref _, _, _, _, e => by cases e
  | .exv _ _ _, x, d, r, e => by cases e
  | .cls _, x, d, r, e => by cases e
  | .tpd _, x, d, r, e => by cases e
theorem toD0s_rep : ∀ {xs : List Val} {vs : List V} {ds : List PyData}, RepL k W H xs vs → toD0s xs = some ds → DpAll k.K H vs ds
  | [], vs, ds, r, e => by
    have r' : vs = [] := r
    cases e
    rw [r']
    exact .nil
  | x :: xs, vs, ds, r, e => by
    obtain ⟨v, u, rfl, r1, r2⟩ := r
    dsimp only [toD0s] at e
    cases q1 : toD0 x with
    | none =>
      rw [q1] at e
      cases e
    | some d =>
      cases q2 : toD0s xs with
      | none =>
        rw [q1, q2] at e
        cases e
      | some ds' =>
        rw [q1, q2] at e
        cases e
        exact .cons (toD0_rep r1 q1) (toD0s_rep r2 q2)
end
theorem toD_rep {a : Val} {x : V} {d : PyData} (o : Ok k W H st) (r : RepV k W H a x) (e : toD st a = some d) : Dp k.K H x d := by
  unfold toD at e
  split at e
  · rename_i i
    split at e
    · rename_i xs q
      obtain ⟨p, e1, s⟩ := r
      obtain ⟨vs, z, r⟩ := o.obj i _ p q s
      cases q2 : toD0s xs with
      | none =>
        rw [q2] at e
        cases e
      | some ds =>
        rw [q2] at e
        cases e
        rw [e1]
        exact .lst (.inl (.inl z)) (toD0s_rep r q2)
    · cases e
  · exact toD0_rep r e
def orR (r q : R2) : R2 := fun x y H Q => r x y H Q ∨ q x y H Q
theorem OpR.or {X : Cx} {f : Value → Value → Sem Value} {r q : R2} (h : OpR X f r) (g : OpR X f q) : OpR X f (orR r q) := by
  intro pins s σ H x y v u Q I rx ry z
  rcases z with z | z
  · exact h pins s σ H x y v u Q I rx ry z
  · exact g pins s σ H x y v u Q I rx ry z
theorem strOf_is {a : Val} {x : Str} (h : strOf a = some x) : a = .str x := by
  cases a <;> cases h
  rfl
theorem rd_eq : Rd2 k eqV (orR (rEqD k.K) rEq) := by
  intro W H st a b x y c Q o ra rb e q
  unfold eqV at e
  split at e
  · rename_i u w hu hw
    have e1 := strOf_is hu
    have e2 := strOf_is hw
    subst e1 e2
    have r1 : x = .str u := ra
    have r2 : y = .str w := rb
    subst r1 r2
    cases e
    exact .inr ⟨rfl, q W H _ (Le.refl W H) o (by rw [dec_str]; rfl)⟩
  unfold eqD at e
  split at e
  · rename_i d f hd hf
    split at e
    · rename_i hs
      cases e
      exact .inl ⟨d, f, toD_rep o ra hd, toD_rep o rb hf, hs.1, hs.2, q W H _ (Le.refl W H) o rfl⟩
    · cases e
  · cases e
theorem rd_ne : Rd2 k neV (orR (rNeD k.K) rNe) := by
  intro W H st a b x y c Q o ra rb e q
  unfold neV at e
  split at e
  · rename_i u w hu hw
    have e1 := strOf_is hu
    have e2 := strOf_is hw
    subst e1 e2
    have r1 : x = .str u := ra
    have r2 : y = .str w := rb
    subst r1 r2
    cases e
    exact .inr ⟨rfl, q W H _ (Le.refl W H) o (by rw [dec_str]; rfl)⟩
  unfold neD at e
  split at e
  · rename_i d f hd hf
    split at e
    · rename_i hs
      cases e
      exact .inl ⟨d, f, toD_rep o ra hd, toD_rep o rb hf, hs.1, hs.2, q W H _ (Le.refl W H) o rfl⟩
    · cases e
  · cases e
end
/-! ### is None; in -/
def isNon : Val → Bool
  | .non => true
  | _ => false
def isNV (_ : Sto) (a b : Val) : Option Val := if isNon b then some (.bl (isNon a)) else none
def notNV (_ : Sto) (a b : Val) : Option Val := if isNon b then some (.bl (!isNon a)) else none
def flat : Val → Option V
  | .non => some .non
  | .bl b => some (.bl b)
  | .int i => some (.int i)
  | .str x => some (.str x)
  | _ => none
def inStr (a b : Str) : Bool := match a.cps.toList with
  | [c] => decide (c ∈ b.cps.toList)
  | _ => !(Builtin.Str.occurrences b a 0 b.length 1).isEmpty
/-- x in ..: a text in a text; a flat thing in a list or a tuple of such -/
def inB (st : Sto) (a b : Val) : Option Bool := match a, b with
  | .str x, .str y => some (inStr x y)
  | a, b => match flat a, seqOf st b with
    | some x, some ys => match allOf flat ys with
      | some us => some (inV x us)
      | none => none
    | _, _ => none
def inVal (st : Sto) (a b : Val) : Option Val := (inB st a b).map .bl
section
variable {k : Kx} {W : Wd} {H : Hp} {st : Sto}
theorem isNon_rep {a : Val} {x : V} (r : RepV k W H a x) : decide (x = .non) = isNon a := by
  cases a with
  | non =>
    have r' : x = .non := r
    rw [r']
    rfl
  | bl b =>
    have r' : x = .bl b := r
    rw [r']
    rfl
  | int b =>
    have r' : x = .int b := r
    rw [r']
    rfl
  | str b =>
    have r' : x = .str b := r
    rw [r']
    rfl
  | tup xs =>
    obtain ⟨p, vs, e, _⟩ := r
    rw [e]
    rfl
  | lst xs =>
    obtain ⟨p, vs, e, _⟩ := r
    rw [e]
    rfl
  | rol xs =>
    obtain ⟨p, vs, e, _⟩ := r
    rw [e]
    rfl
  | ins c ks xs =>
    obtain ⟨p, dx, vs, e, _⟩ := r
    rw [e]
    rfl
  | ref i =>
    obtain ⟨p, e, _⟩ := r
    rw [e]
    rfl
  | exv c ks xs =>
    obtain ⟨p, _, _, _, e, _⟩ := r
    rw [e]
    rfl
  | cls c =>
    have e : x = .ref (k.cl c) := r
    rw [e]
    rfl
  | tpd xs =>
    obtain ⟨p, _, _, e, _⟩ := r
    rw [e]
    rfl
theorem rd_isN : Rd2 k isNV (fun x y H Q => y = .non ∧ Q (.bl (decide (x = .non))) H) := by
  intro W H st a b x y c Q o ra rb e q
  unfold isNV at e
  split at e
  · rename_i hb
    cases e
    have hy := isNon_rep rb
    rw [hb] at hy
    refine ⟨of_decide_eq_true hy, ?_⟩
    rw [isNon_rep ra]
    exact q W H _ (Le.refl W H) o rfl
  · cases e
theorem rd_notN : Rd2 k notNV (fun x y H Q => y = .non ∧ Q (.bl (!decide (x = .non))) H) := by
  intro W H st a b x y c Q o ra rb e q
  unfold notNV at e
  split at e
  · rename_i hb
    cases e
    have hy := isNon_rep rb
    rw [hb] at hy
    refine ⟨of_decide_eq_true hy, ?_⟩
    rw [isNon_rep ra]
    exact q W H _ (Le.refl W H) o rfl
  · cases e
theorem flat_rep {a : Val} {x u : V} (r : RepV k W H a x) (e : flat a = some u) : x = u ∧ flatV u = true := by
  cases a <;> first | (cases e; exact ⟨r, rfl⟩) | cases e
theorem flats_rep : ∀ {xs : List Val} {vs us : List V}, RepL k W H xs vs → allOf flat xs = some us → vs = us ∧ us.all flatV = true
  | [], vs, us, r, e => by
    cases e
    exact ⟨r, rfl⟩
  | x :: xs, vs, us, r, e => by
    obtain ⟨v, w, rfl, r1, r2⟩ := r
    unfold allOf at e
    cases q1 : flat x with
    | none =>
      rw [q1] at e
      cases e
    | some d =>
      cases q2 : allOf flat xs with
      | none =>
        rw [q1, q2] at e
        cases e
      | some ds =>
        rw [q1, q2] at e
        cases e
        obtain ⟨e1, f1⟩ := flat_rep r1 q1
        obtain ⟨e2, f2⟩ := flats_rep r2 q2
        exact ⟨by rw [e1, e2], by rw [List.all_cons, f1, f2]; rfl⟩
abbrev rInU (K : PySem.W.Frag) (neg : Bool) : R2 := fun x y H Q => (rIn K neg x y H Q) ∨ ((∃ (c : Nat) (z : Str), x = .str ⟨#[c]⟩ ∧ y = .str z ∧ Q (.bl (if neg then !decide (c ∈ z.cps.toList) else decide (c ∈ z.cps.toList))) H) ∨
  (∃ i j, x = .str i ∧ y = .str j ∧ Q (.bl (if neg then !(!(Builtin.Str.occurrences j i 0 j.length 1).isEmpty) else !(Builtin.Str.occurrences j i 0 j.length 1).isEmpty)) H))
theorem inStr_cases (i j : Str) : (∃ c, i = ⟨#[c]⟩ ∧ inStr i j = decide (c ∈ j.cps.toList)) ∨ inStr i j = !(Builtin.Str.occurrences j i 0 j.length 1).isEmpty := by
  unfold inStr
  split
  · rename_i c hc
    refine .inl ⟨c, ?_, rfl⟩
    cases i with
    | mk cps =>
      have e1 : cps = #[c] := Array.toList_inj.mp hc
      rw [e1]
  · exact .inr rfl
theorem inB_read {neg : Bool} {a b : Val} {x y : V} {t : Bool} {Q : VK} (o : Ok k W H st) (ra : RepV k W H a x) (rb : RepV k W H b y) (e : inB st a b = some t) (q : Q (.bl (if neg then !t else t)) H) : rInU k.K neg x y H Q := by
  unfold inB at e
  split at e
  · rename_i i j
    cases e
    have ea : x = .str i := ra
    have eb : y = .str j := rb
    subst ea eb
    rcases inStr_cases i j with ⟨c, hi, z⟩ | z
    · rw [z] at q
      rw [hi]
      exact .inr (.inl ⟨c, j, rfl, rfl, q⟩)
    · rw [z] at q
      exact .inr (.inr ⟨i, j, rfl, rfl, q⟩)
  · split at e
    · rename_i u ys hu hys
      split at e
      · rename_i us hus
        cases e
        obtain ⟨e1, f1⟩ := flat_rep ra hu
        obtain ⟨p, vs, e2, s, r⟩ := seqOf_rep o rb hys
        obtain ⟨e3, f3⟩ := flats_rep r hus
        subst e1 e3
        exact .inl ⟨p, _, e2, s, f1, f3, q⟩
      · cases e
    · cases e
theorem rd_in : Rd2 k inVal (rInU k.K false) := by
  intro W H st a b x y c Q o ra rb e q
  unfold inVal at e
  cases h : inB st a b with
  | none =>
    rw [h] at e
    cases e
  | some t =>
    rw [h] at e
    cases e
    exact inB_read (neg := false) o ra rb h (q W H _ (Le.refl W H) o rfl)
end
theorem op_inU {X : Cx} : OpR X (compareOp .In) (rInU X.K false) := OpR_or op_in_seq (OpR_or op_in_sign op_in_str)
/-! ### a[i], a[i:j] -/
def idxV (st : Sto) (a b : Val) : Option Val := match b with
  | .int i => match a with
    | .str z => if z.length ≤ LIM then (atI z.cps.toList i).map fun c => .str ⟨#[c]⟩ else none
    | a => match seqOf st a with
      | some xs => atI xs i
      | none => none
  | _ => none
theorem atI_rep {k : Kx} {W : Wd} {H : Hp} {xs : List Val} {vs : List V} {i : Int} {x : Val} (r : RepL k W H xs vs) (h : atI xs i = some x) : ∃ v, atI vs i = some v ∧ RepV k W H x v := by
  unfold atI at h ⊢
  rw [r.len]
  cases e : ixN xs.length i with
  | none =>
    rw [e] at h
    cases h
  | some j =>
    rw [e] at h
    exact r.get h
theorem rd_idx {k : Kx} : Rd2 k idxV (fun x y H Q => rIxL k.K x y H Q ∨ (rIxT k.K x y H Q ∨ rIxS x y H Q)) := by
  intro W H st a b x y c Q o ra rb e q
  unfold idxV at e
  split at e
  · rename_i i
    split at e
    · rename_i z
      split at e
      · rename_i hl
        cases h : atI z.cps.toList i with
        | none =>
          rw [h] at e
          cases e
        | some d =>
          rw [h] at e
          cases e
          exact .inr (.inr ⟨z, i, d, ra, rb, lim_le hl, h, q W H _ (Le.refl W H) o rfl⟩)
      · cases e
    · split at e
      · rename_i xs hxs
        obtain ⟨p, vs, e1, s, r⟩ := seqOf_rep o ra hxs
        obtain ⟨v, hv, rv⟩ := atI_rep r e
        rcases s with s | s
        · exact .inl ⟨p, vs, i, v, e1, rb, s, hv, q W H v (Le.refl W H) o rv⟩
        · exact .inr (.inl ⟨p, vs, i, v, e1, rb, s, hv, q W H v (Le.refl W H) o rv⟩)
      · cases e
  · cases e
def cutL {α : Type} (xs : List α) (lo hi : Option Int) : List α := (xs.drop (HT.sIx xs.length 0 lo)).take (HT.sIx xs.length xs.length hi - HT.sIx xs.length 0 lo)
theorem cutL_rep {k : Kx} {W : Wd} {H : Hp} {xs : List Val} {vs : List V} (r : RepL k W H xs vs) (lo hi : Option Int) : RepL k W H (cutL xs lo hi) (cutV vs lo hi) := by
  unfold cutL cutV
  rw [r.len]
  exact (r.drop _).take _
def cutVal (st : Sto) (a : Val) (lo hi : Option Int) : Option Val := match a with
  | .str z => if z.length ≤ LIM then some (.str (cutS z lo hi)) else none
  | .tup xs => some (.tup (cutL xs lo hi))
  | a => match lstOf st a with
    | some xs => some (.lst (cutL xs lo hi))
    | none => none
def part (m : M Val) : M (Option Int) := bnd m fun a => lift fun _ => (intOf a).map some
def nopart : M (Option Int) := ret none
def RO : Wd → Hp → Option Int → Option Int → Prop := fun _ _ a b => b = a
def tMo (k : Kx) (E : WX) (m : M (Option Int)) : TO := fun σ H Q => tG k RO E m σ H Q
def sliceM (ma : M Val) (ml mh : M (Option Int)) : M Val := bnd ma fun a => bnd ml fun lo => bnd mh fun hi => lift fun st => cutVal st a lo hi
section
variable {X : Cx} {k : Kx} {E : WX}
theorem mo_none : PO X none (tMo k E nopart) := by
  refine ⟨fun pins s σ H Q I h => po_none.run pins s σ H Q I ?_⟩
  obtain ⟨W, h⟩ := h
  exact h.ret rfl
theorem mo_some {e : Expr} {m : M Val} (h : PE X e (tM k E m)) : PO X (some e) (tMo k E (part m)) := by
  refine ⟨fun pins s σ H Q I h' => (po_some h).run pins s σ H Q I ?_⟩
  show tM k E m σ H _
  refine tG.mono (tG.bnd (R1 := RepV k) h') fun x H1 ⟨W, a, ra, h1⟩ => ?_
  obtain ⟨c, st, e, o, q⟩ := h1.lift
  cases a with
  | int i =>
    cases e
    exact ⟨i, ra, q W H1 _ (Le.refl W H1) o rfl⟩
  | _ => cases e
theorem me_slice {e : Expr} {lo hi : Option Expr} {p2 pos : Pos} {ma : M Val} {ml mh : M (Option Int)} (he : PE X e (tM k E ma)) (hl : PO X lo (tMo k E ml)) (hh : PO X hi (tMo k E mh)) (hk : X.K = k.K := by rfl) :
    PE X (.Subscript e (.Slice lo hi none p2) pos) (tM k E (sliceM ma ml mh)) := by
  refine imp (pe_slice (SlR_or sl_list (SlR_or sl_tupA sl_str)) he hl hh) fun σ H Q h => ?_
  rw [hk]
  refine tG.mono (tG.bnd (R1 := RepV k) h) fun x H1 ⟨W, a, ra, h1⟩ => ?_
  refine tG.mono (At.bnd (R1 := RO) (fun W H => RepV k W H a x) (fun l r => r.le l) ra h1) fun lo H2 ⟨W2, lo', ra2, el, h2⟩ => ?_
  cases el
  refine tG.mono (At.bnd (R1 := RO) (fun W H => RepV k W H a x) (fun l r => r.le l) ra2 h2) fun hi H3 ⟨W3, hi', ra3, eh, h3⟩ => ?_
  cases eh
  obtain ⟨c, st, e, o, q⟩ := h3.lift
  have lists : ∀ xs, lstOf st a = some xs → c = .lst (cutL xs lo hi) → rSlL k.K x lo hi H3 Q := fun xs hxs hc => by
    subst hc
    obtain ⟨p, vs, e1, s, r⟩ := lstOf_rep o ra3 hxs
    exact ⟨p, vs, e1, s, fun p hp => newLst o hp (cutL_rep r _ _) q⟩
  cases a with
  | str z =>
    dsimp only [cutVal] at e
    split at e
    · rename_i hl
      cases e
      exact .inr (.inr ⟨z, ra3, lim_le hl, q W3 H3 _ (Le.refl _ _) o rfl⟩)
    · cases e
  | tup xs =>
    cases e
    obtain ⟨p, vs, e1, s, r⟩ := ra3
    refine .inr (.inl ⟨p, vs, e1, s, fun z => ?_, fun _ p hp => newTup o hp (cutL_rep r _ _) q⟩)
    have e2 : cutL xs lo hi = xs := by
      unfold cutL
      rw [r.len] at z
      rw [z.1, z.2]
      simp
    rw [e2] at q
    exact q W3 H3 _ (Le.refl _ _) o ⟨p, vs, rfl, s, r⟩
  | lst xs =>
    cases e
    exact .inl (lists xs rfl rfl)
  | rol xs =>
    cases e
    exact .inl (lists xs rfl rfl)
  | ref i =>
    dsimp only [cutVal] at e
    cases h : lstOf st (.ref i) with
    | none =>
      rw [h] at e
      cases e
    | some xs =>
      rw [h] at e
      cases e
      exact .inl (lists xs h rfl)
  | _ => cases e
def revV (st : Sto) (a : Val) : Option Val := (lstOf st a).map fun xs => .lst xs.reverse
theorem me_rev {e : Expr} {j : Nat} {p1 p2 p3 pos : Pos} {m : M Val} (he : PE X e (tM k E m)) (hk : X.K = k.K := by rfl) :
    PE X (.Subscript e (.Slice none none (some (.UnaryOp .USub (.Constant (.int 1) j p1) p2)) p3) pos) (tM k E (un revV m)) := by
  refine imp (pe_revL he) fun σ H Q h => ?_
  rw [hk]
  refine tG.mono (tG.bnd (R1 := RepV k) h) fun x H1 ⟨W, a, ra, h1⟩ => ?_
  obtain ⟨c, st, e, o, q⟩ := h1.lift
  unfold revV at e
  cases h : lstOf st a with
  | none =>
    rw [h] at e
    cases e
  | some xs =>
    rw [h] at e
    cases e
    obtain ⟨p, vs, e1, s, r⟩ := lstOf_rep o ra h
    exact ⟨p, vs, e1, s, fun p hp => newLst o hp r.reverse q⟩
theorem me_idx {a b : Expr} {ma mb : M Val} {pos : Pos} (ha : PE X a (tM k E ma)) (hb : PE X b (tM k E mb)) (hs : PlainIx b) (hk : X.K = k.K := by rfl) : PE X (.Subscript a b pos) (tM k E (bin idxV ma mb)) :=
  imp (pe_ix (ix_list.or (ix_tup.or ix_str)) ha hb hs) fun σ H Q h => by
    rw [hk]
    exact bin_read rd_idx h
theorem me_neg {a : Expr} {m : M Val} {pos : Pos} (ha : PE X a (tM k E m)) : PE X (.UnaryOp .USub a pos) (tM k E (un (fun _ a => (intOf a).map fun i => .int (-i)) m)) := by
  refine imp (pe_un un_neg ha) fun σ H Q h => ?_
  refine tG.mono (tG.bnd (R1 := RepV k) h) fun x H1 ⟨W, a, ra, h1⟩ => ?_
  obtain ⟨c, st, e, o, q⟩ := h1.lift
  cases a with
  | int i =>
    cases e
    exact ⟨i, ra, q W H1 _ (Le.refl W H1) o rfl⟩
  | _ => cases e
end
end Mi
namespace Mi
open PySem L2
/-! ### comparisons, bundled -/
def CmpU (X : Cx) (k : Kx) (op : CmpOp) (f : Sto → Val → Val → Option Val) : Prop := ∃ r, Rd2 k f r ∧ OpR X (compareOp op) r
section
variable {X : Cx} {k : Kx} {E : WX}
theorem cu_lt : CmpU X k .Lt (cmpV fun i j => decide (i < j)) := ⟨_, rd_cmp _, op_lt⟩
theorem cu_le : CmpU X k .LtE (cmpV fun i j => decide (i ≤ j)) := ⟨_, rd_cmp _, op_le⟩
theorem cu_gt : CmpU X k .Gt (cmpV fun i j => decide (j < i)) := ⟨_, rd_cmp _, op_gt⟩
theorem cu_ge : CmpU X k .GtE (cmpV fun i j => decide (j ≤ i)) := ⟨_, rd_cmp _, op_ge⟩
theorem cu_eq {n : Nat} (hr : Room n X.A) (hk : X.K = k.K := by rfl) : CmpU X k .Eq eqV := ⟨_, hk ▸ rd_eq, OpR.or (op_eqD hr.units) op_eq⟩
theorem cu_ne {n : Nat} (hr : Room n X.A) (hk : X.K = k.K := by rfl) : CmpU X k .NotEq neV := ⟨_, hk ▸ rd_ne, OpR.or (op_neD hr.units) op_ne⟩
theorem cu_in (hk : X.K = k.K := by rfl) : CmpU X k .In inVal := ⟨_, hk ▸ rd_in, op_inU⟩
theorem cu_is : CmpU X k .Is isNV := ⟨_, rd_isN, op_isN⟩
theorem cu_isNot : CmpU X k .IsNot notNV := ⟨_, rd_notN, op_notN⟩
variable {a b c : Expr} {op op' : CmpOp} {pos : Pos} {f g : Sto → Val → Val → Option Val} {ma mb mc : M Val}
theorem me_cu (h : CmpU X k op f) (ha : PE X a (tM k E ma)) (hb : PE X b (tM k E mb)) (hm : behindInMarks op b = false := by first | exact nomark _ | rfl) : PE X (.Compare a [op] [b] pos) (tM k E (bin f ma mb)) := by
  obtain ⟨r, h1, h2⟩ := h
  exact me_cmp h1 h2 hm ha hb
theorem mt_cu (h : CmpU X k op f) (ha : PE X a (tM k E ma)) (hb : PE X b (tM k E mb)) (hm : behindInMarks op b = false := by first | exact nomark _ | rfl) : PT X (.Compare a [op] [b] pos) (tMb k E (asB (bin f ma mb))) := by
  obtain ⟨r, h1, h2⟩ := h
  exact mt_cmp h1 h2 hm ha hb
theorem me_ch (h : CmpU X k op f) (h' : CmpU X k op' g) (ha : PE X a (tM k E ma)) (hb : PE X b (tM k E mb)) (hc : PE X c (tM k E mc)) (hm : lastMarks [op, op'] [b, c] = false := by with_unfolding_all rfl) :
    PE X (.Compare a [op, op'] [b, c] pos) (tM k E (chain f g ma mb mc)) := by
  obtain ⟨r, h1, h2⟩ := h
  obtain ⟨r', h3, h4⟩ := h'
  exact imp (pe_chain h2 h4 ha hb hc hm) fun _ _ _ h => chain_read h1 h3 h
theorem mt_ch (h : CmpU X k op f) (h' : CmpU X k op' g) (ha : PE X a (tM k E ma)) (hb : PE X b (tM k E mb)) (hc : PE X c (tM k E mc)) (hm : lastMarks [op, op'] [b, c] = false := by with_unfolding_all rfl) :
    PT X (.Compare a [op, op'] [b, c] pos) (tMb k E (asB (chain f g ma mb mc))) := by
  obtain ⟨r, h1, h2⟩ := h
  obtain ⟨r', h3, h4⟩ := h'
  exact impT (pt_chain h2 h4 ha hb hc hm) fun σ H Q h => chain_read (Q := fun x H1 => ∃ c, x = .bl c ∧ Q c H1) h1 h3 (asB_read h)
/-! ### argument lists, displays -/
def consM (m : M Val) (ms : M (List Val)) : M (List Val) := bnd m fun a => bnd ms fun as => ret (a :: as)
def nilM : M (List Val) := ret []
theorem ma_nil : PA X [] (tMa k E nilM) := impA pa_nil fun σ H Q ⟨W, h⟩ => h.ret rfl
theorem ma_cons {e : Expr} {es : List Expr} {m : M Val} {ms : M (List Val)} (h : PE X e (tM k E m)) (t : PA X es (tMa k E ms)) (hs : starEach (e :: es) X.env = (false, eval e X.env) :: starEach es X.env := by rfl) : PA X (e :: es) (tMa k E (consM m ms)) :=
  impA (pa_cons h t hs) fun σ H Q h => tG.mono (tG.bnd (R1 := RepV k) h) fun x H1 ⟨W, a, ra, h1⟩ =>
    tG.mono (At.bnd (R1 := RepL k) (fun W H => RepV k W H a x) (fun l r => r.le l) ra h1) fun xs H2 ⟨W2, as, ra2, rs, h2⟩ => h2.ret (RepL.cons ra2 rs)
def liftS {α : Type} (f : Sto → Option (α × Sto)) : M α := fun _ st => (f st).map fun p => (.ok p.1, p.2)
theorem At.liftS {α β : Type} {R : Wd → Hp → α → β → Prop} {W : Wd} {σ : L2.St} {H : Hp} {f : Sto → Option (α × Sto)} {Q : β → Hp → Prop} (h : At k R E (liftS f) W σ H Q) :
    ∃ c st st', f st = some (c, st') ∧ Ok k W H st ∧ ∀ W' H' v, Le W W' H H' → Ok k W' H' st' → R W' H' c v → Q v H' := by
  obtain ⟨env, st, r, h1, h2, h3, h4⟩ := h
  unfold Mi.liftS at h3
  cases e : f st with
  | none =>
    rw [e] at h3
    cases h3
  | some p =>
    rw [e] at h3
    cases h3
    exact ⟨p.1, st, p.2, e, h1, h4⟩
theorem newLstM {W : Wd} {H : Hp} {st : Sto} {xs : List Val} {Q : VK} {p : Addr} {vs : List V} (o : Ok k W H st) (hp : H p = none) (r : RepL k W H xs vs) (q : ∀ W' H' v, Le W W' H H' → Ok k W' H' (st ++ [.lst xs]) → RepV k W' H' (.ref st.length) v → Q v H') : Q (.ref p) (upd H p (.lst vs)) := by
  have l0 : Le W (W.ob p) H (upd H p (.lst vs)) := (o.newOb (u := .lst []) (o := .lst []) hp ⟨[], upd_same, rfl⟩).1 |> fun _ => ⟨⟨[p], rfl⟩, fun _ h => h, (Le.new (W := W) hp).imm, (Le.new (W := W) hp).keep, (Le.new (W := W) hp).rest, fun q m => by
    rcases List.mem_append.mp (show q ∈ W.rho ++ [p] from m) with m | m
    · exact .inl m
    · exact .inr (by rw [List.mem_singleton.mp m]; exact hp), fun _ h => .inl h, fun _ h => upd_dom h⟩
  obtain ⟨l, o'⟩ := o.newOb (u := .lst xs) (o := .lst vs) hp ⟨vs, upd_same, r.le l0⟩
  refine q (W.ob p) _ _ l o' ⟨p, rfl, ?_⟩
  show (W.rho ++ [p])[st.length]? = some p
  rw [List.getElem?_append_right (by rw [o.len]; exact Nat.le_refl _), o.len, Nat.sub_self]
  rfl
def mkTup (ms : M (List Val)) : M Val := bnd ms fun xs => lift fun _ => if xs.length ≤ LIM then some (.tup xs) else none
def mkLst (ms : M (List Val)) : M Val := bnd ms fun xs => lift fun _ => if xs.length ≤ LIM then some (.lst xs) else none
/-- a list that will be changed -/
def mkLstM (ms : M (List Val)) : M Val := bnd ms fun xs => liftS fun st => if xs.length ≤ LIM then some (.ref st.length, st ++ [.lst xs]) else none
theorem me_tup {es : List Expr} {x1 : Nat} {ms : M (List Val)} (h : PA X es (tMa k E ms)) : PE X (.Tuple es x1 pos) (tM k E (mkTup ms)) :=
  imp (pe_tup h) fun σ H Q h => tG.mono (tG.bnd (R1 := RepL k) h) fun xs H1 ⟨W, as, ra, h1⟩ => by
    obtain ⟨c, st, e, o, q⟩ := h1.lift
    split at e
    · rename_i hl
      cases e
      exact ⟨by rw [ra.len]; exact lim_le hl, fun p hp => newTup o hp ra q⟩
    · cases e
theorem me_lst {es : List Expr} {ms : M (List Val)} (h : PA X es (tMa k E ms)) : PE X (.List es pos) (tM k E (mkLst ms)) :=
  imp (pe_lst h) fun σ H Q h => tG.mono (tG.bnd (R1 := RepL k) h) fun xs H1 ⟨W, as, ra, h1⟩ => by
    obtain ⟨c, st, e, o, q⟩ := h1.lift
    split at e
    · rename_i hl
      cases e
      exact ⟨by rw [ra.len]; exact lim_le hl, fun p hp => newLst o hp ra q⟩
    · cases e
theorem me_lstM {es : List Expr} {ms : M (List Val)} (h : PA X es (tMa k E ms)) : PE X (.List es pos) (tM k E (mkLstM ms)) :=
  imp (pe_lst h) fun σ H Q h => tG.mono (tG.bnd (R1 := RepL k) h) fun xs H1 ⟨W, as, ra, h1⟩ => by
    obtain ⟨c, st, st', e, o, q⟩ := h1.liftS
    split at e
    · rename_i hl
      cases e
      exact ⟨by rw [ra.len]; exact lim_le hl, fun p hp => newLstM o hp ra q⟩
    · cases e
/-! ### built-ins by values -/
def RdN (k : Kx) (f : Sto → List Val → Option Val) (r : List V → Hp → VK → Prop) : Prop := ∀ W H st as xs c Q, Ok k W H st → RepL k W H as xs → f st as = some c → (∀ W' H' v, Le W W' H H' → Ok k W' H' st → RepV k W' H' c v → Q v H') → r xs H Q
def RdNS (k : Kx) (f : Sto → List Val → Option (Val × Sto)) (r : List V → Hp → VK → Prop) : Prop := ∀ W H st as xs c st' Q, Ok k W H st → RepL k W H as xs → f st as = some (c, st') → (∀ W' H' v, Le W W' H H' → Ok k W' H' st' → RepV k W' H' c v → Q v H') → r xs H Q
def app (f : Sto → List Val → Option Val) (ms : M (List Val)) : M Val := bnd ms fun as => lift fun st => f st as
def appS (f : Sto → List Val → Option (Val × Sto)) (ms : M (List Val)) : M Val := bnd ms fun as => liftS fun st => f st as
def CallU (X : Cx) (k : Kx) (v : Value) (f : Sto → List Val → Option Val) : Prop := ∃ r, RdN k f r ∧ CallR X v r
def CallUS (X : Cx) (k : Kx) (v : Value) (f : Sto → List Val → Option (Val × Sto)) : Prop := ∃ r, RdNS k f r ∧ CallR X v r
theorem app_read {f : Sto → List Val → Option Val} {r : List V → Hp → VK → Prop} (h : RdN k f r) {ms : M (List Val)} {σ : L2.St} {H : Hp} {Q : VK} (h1 : tM k E (app f ms) σ H Q) : tCB r (tMa k E ms) σ H Q :=
  tG.mono (tG.bnd (R1 := RepL k) h1) fun xs H1 ⟨W, as, ra, h1⟩ => by
    obtain ⟨c, st, e, o, q⟩ := h1.lift
    exact h W H1 st as xs c Q o ra e q
theorem appS_read {f : Sto → List Val → Option (Val × Sto)} {r : List V → Hp → VK → Prop} (h : RdNS k f r) {ms : M (List Val)} {σ : L2.St} {H : Hp} {Q : VK} (h1 : tM k E (appS f ms) σ H Q) : tCB r (tMa k E ms) σ H Q :=
  tG.mono (tG.bnd (R1 := RepL k) h1) fun xs H1 ⟨W, as, ra, h1⟩ => by
    obtain ⟨c, st, st', e, o, q⟩ := h1.liftS
    exact h W H1 st as xs c st' Q o ra e q
variable {x : Str} {p : Pos} {e : Expr} {es : List Expr} {ms : M (List Val)} {id T : String}
theorem me_cb {fv : Sto → List Val → Option Val} (h : CallU X k (.builtin id) fv) (hg : Gl X x) (hm : X.mg x = none) (hv : bootBuiltins x = some (.builtin id)) (ha : PA X (e :: es) (tMa k E ms)) (hn : x ≠ "__name__" := by decide) (hdb : (x == ("__debug__" : Str)) = false := by decide)
    (he : starEach (e :: es) X.env = (false, eval e X.env) :: starEach es X.env := by rfl) (hpl : (backTo pos (starEach es X.env)).any (·.1) = false := by rfl) : PE X (.Call (.Name x p) (e :: es) [] pos) (tM k E (app fv ms)) := by
  obtain ⟨r, h1, h2⟩ := h
  exact imp (pe_callB h2 hg hm hv ha hn hdb he hpl) fun σ H Q q => app_read h1 q
theorem me_ct {fv : Sto → List Val → Option Val} (h : CallU X k (.type T) fv) (hg : Gl X x) (hm : X.mg x = none) (hv : bootBuiltins x = some (.type T)) (ha : PA X (e :: es) (tMa k E ms)) (hn : x ≠ "__name__" := by decide) (hdb : (x == ("__debug__" : Str)) = false := by decide)
    (he : starEach (e :: es) X.env = (false, eval e X.env) :: starEach es X.env := by rfl) (hpl : (backTo pos (starEach es X.env)).any (·.1) = false := by rfl) : PE X (.Call (.Name x p) (e :: es) [] pos) (tM k E (app fv ms)) := by
  obtain ⟨r, h1, h2⟩ := h
  exact imp (pe_callTy h2 hg hm hv ha hn hdb he hpl) fun σ H Q q => app_read h1 q
theorem me_ctS {fv : Sto → List Val → Option (Val × Sto)} (h : CallUS X k (.type T) fv) (hg : Gl X x) (hm : X.mg x = none) (hv : bootBuiltins x = some (.type T)) (ha : PA X (e :: es) (tMa k E ms)) (hn : x ≠ "__name__" := by decide) (hdb : (x == ("__debug__" : Str)) = false := by decide)
    (he : starEach (e :: es) X.env = (false, eval e X.env) :: starEach es X.env := by rfl) (hpl : (backTo pos (starEach es X.env)).any (·.1) = false := by rfl) : PE X (.Call (.Name x p) (e :: es) [] pos) (tM k E (appS fv ms)) := by
  obtain ⟨r, h1, h2⟩ := h
  exact imp (pe_callTy h2 hg hm hv ha hn hdb he hpl) fun σ H Q q => appS_read h1 q
end
def lenV (st : Sto) : List Val → Option Val
  | [.str z] => if z.length ≤ LIM then some (.int z.length) else none
  | [a] => (seqOf st a).map fun xs => .int xs.length
  | _ => none
def absV' (_ : Sto) : List Val → Option Val
  | [.int i] => some (.int (if i < 0 then -i else i))
  | _ => none
def intV (_ : Sto) : List Val → Option Val
  | [.int i] => some (.int i)
  | [.bl b] => some (.int (if b then 1 else 0))
  | [.str z] => if z.length ≤ 640 then (PySem.intText? z).map .int else none
  | _ => none
def max2V (_ : Sto) : List Val → Option Val
  | [.int i, .int j] => some (.int (if j > i then j else i))
  | _ => none
def maxL : List Int → Option Int
  | [] => none
  | [x] => some x
  | x :: xs => (maxL xs).map fun m => if x < m then m else x
def maxV (st : Sto) : List Val → Option Val
  | [a] => match lstOf st a with
    | some xs => match allOf intOf xs with
      | some ns => (maxL ns).map .int
      | none => none
    | none => none
  | _ => none
def allV (st : Sto) : List Val → Option Val
  | [a] => match lstOf st a with
    | some xs => (allOf asBool xs).map fun bs => .bl (bs.all id)
    | none => none
  | _ => none
def tupleV (st : Sto) : List Val → Option Val
  | [a] => (seqOf st a).map .tup
  | _ => none
def listV (st : Sto) : List Val → Option Val
  | [a] => (seqOf st a).map .lst
  | _ => none
def listVM (st : Sto) : List Val → Option (Val × Sto)
  | [a] => (seqOf st a).map fun xs => (.ref st.length, st ++ [.lst xs])
  | _ => none
section
variable {X : Cx} {k : Kx}
theorem rep1 {W : Wd} {H : Hp} {a : Val} {xs : List V} (r : RepL k W H [a] xs) : ∃ v, xs = [v] ∧ RepV k W H a v := by
  obtain ⟨v, u, rfl, r1, r2⟩ := r
  have e : u = [] := r2
  rw [e]
  exact ⟨v, rfl, r1⟩
theorem rep2 {W : Wd} {H : Hp} {a b : Val} {xs : List V} (r : RepL k W H [a, b] xs) : ∃ v u, xs = [v, u] ∧ RepV k W H a v ∧ RepV k W H b u := by
  obtain ⟨v, u, rfl, r1, r2⟩ := r
  obtain ⟨u, rfl, r3⟩ := rep1 r2
  exact ⟨v, u, rfl, r1, r3⟩
theorem cu_len (hk : X.K = k.K := by rfl) : CallU X k (.builtin "len") lenV := by
  refine ⟨_, ?_, CallR_or call_len_seq call_len_str⟩
  intro W H st as xs c Q o r e q
  unfold lenV at e
  split at e
  · rename_i z
    obtain ⟨v, rfl, r1⟩ := rep1 r
    split at e
    · rename_i hl
      cases e
      exact .inr ⟨z, by rw [show v = .str z from r1], lim_le hl, q W H _ (Le.refl _ _) o rfl⟩
    · cases e
  · rename_i a hne
    obtain ⟨v, rfl, r1⟩ := rep1 r
    cases h : seqOf st a with
    | none =>
      rw [h] at e
      cases e
    | some ys =>
      rw [h] at e
      cases e
      obtain ⟨p, vs, rfl, s, r2⟩ := seqOf_rep o r1 h
      rw [hk]
      exact .inl ⟨p, vs, rfl, s, q W H _ (Le.refl _ _) o (by show _ = _; rw [r2.len])⟩
  · cases e
theorem cu_abs : CallU X k (.builtin "abs") absV' := by
  refine ⟨_, ?_, call_abs⟩
  intro W H st as xs c Q o r e q
  unfold absV' at e
  split at e
  · rename_i i
    obtain ⟨v, rfl, r1⟩ := rep1 r
    cases e
    exact ⟨i, by rw [show v = .int i from r1], q W H _ (Le.refl _ _) o rfl⟩
  · cases e
theorem cu_int : CallU X k (.type "int") intV := by
  refine ⟨_, ?_, CallR_or call_int1 call_int_str⟩
  intro W H st as xs c Q o r e q
  unfold intV at e
  split at e
  · rename_i i
    obtain ⟨v, rfl, r1⟩ := rep1 r
    cases e
    exact .inl (.inl ⟨i, by rw [show v = .int i from r1], q W H _ (Le.refl _ _) o rfl⟩)
  · rename_i i
    obtain ⟨v, rfl, r1⟩ := rep1 r
    cases e
    exact .inl (.inr ⟨i, by rw [show v = .bl i from r1], q W H _ (Le.refl _ _) o rfl⟩)
  · rename_i z
    obtain ⟨v, rfl, r1⟩ := rep1 r
    split at e
    · rename_i hl
      cases h : PySem.intText? z with
      | none =>
        rw [h] at e
        cases e
      | some n =>
        rw [h] at e
        cases e
        exact .inr ⟨z, n, by rw [show v = .str z from r1], h, hl, q W H _ (Le.refl _ _) o rfl⟩
    · cases e
  · cases e
theorem cu_max2 (hc : X.calm = true) : CallU X k (.builtin "max") max2V := by
  refine ⟨_, ?_, call_max2 hc⟩
  intro W H st as xs c Q o r e q
  unfold max2V at e
  split at e
  · rename_i i j
    obtain ⟨v, u, rfl, r1, r2⟩ := rep2 r
    cases e
    exact ⟨i, j, by rw [show v = .int i from r1, show u = .int j from r2], q W H _ (Le.refl _ _) o rfl⟩
  · cases e
theorem maxL_spec : ∀ {ns : List Int} {m : Int}, maxL ns = some m → m ∈ ns ∧ ∀ y ∈ ns, y ≤ m
  | [], m, h => by cases h
  | [x], m, h => by
    cases h
    exact ⟨List.mem_singleton.mpr rfl, fun y hy => by rw [List.mem_singleton.mp hy]; exact Int.le_refl _⟩
  | x :: y :: ns, m, h => by
    unfold maxL at h
    cases e : maxL (y :: ns) with
    | none =>
      rw [e] at h
      cases h
    | some z =>
      rw [e] at h
      obtain ⟨h1, h2⟩ := maxL_spec e
      cases h
      dsimp only
      split
      · rename_i hl
        exact ⟨List.mem_cons_of_mem _ h1, fun w hw => by
          rcases List.mem_cons.mp hw with rfl | hw
          · omega
          · exact h2 w hw⟩
      · rename_i hl
        exact ⟨List.mem_cons_self, fun w hw => by
          rcases List.mem_cons.mp hw with rfl | hw
          · omega
          · have := h2 w hw
            omega⟩
theorem cu_max (hc : X.calm = true) (hk : X.K = k.K := by rfl) : CallU X k (.builtin "max") maxV := by
  refine ⟨_, ?_, cr_max hc⟩
  intro W H st as xs c Q o r e q
  unfold maxV at e
  split at e
  · rename_i a
    obtain ⟨v, rfl, r1⟩ := rep1 r
    split at e
    · rename_i ys hys
      split at e
      · rename_i ns hns
        cases h : maxL ns with
        | none =>
          rw [h] at e
          cases e
        | some m =>
          rw [h] at e
          cases e
          obtain ⟨p, vs, rfl, s, r2⟩ := lstOf_rep o r1 hys
          have e3 := ints_rep r2 (allOf_map intOf_eq hns)
          obtain ⟨m1, m2⟩ := maxL_spec h
          rw [e3] at s
          rw [hk]
          refine ⟨p, ns, rfl, s, List.length_pos_of_mem m1, fun m' h1 h2 => ?_⟩
          have em : m' = m := Int.le_antisymm (m2 _ h1) (h2 _ m1)
          rw [em]
          exact q W H _ (Le.refl _ _) o rfl
      · cases e
    · cases e
  · cases e
theorem cu_all (hc : X.calm = true) (hk : X.K = k.K := by rfl) : CallU X k (.builtin "all") allV := by
  refine ⟨_, ?_, cr_all hc⟩
  intro W H st as xs c Q o r e q
  unfold allV at e
  split at e
  · rename_i a
    obtain ⟨v, rfl, r1⟩ := rep1 r
    split at e
    · rename_i ys hys
      cases h : allOf asBool ys with
      | none =>
        rw [h] at e
        cases e
      | some bs =>
        rw [h] at e
        cases e
        obtain ⟨p, vs, rfl, s, r2⟩ := lstOf_rep o r1 hys
        have e3 := bls_rep r2 (allOf_map asBool_eq h)
        rw [e3] at s
        rw [hk]
        exact ⟨p, bs, rfl, s, q W H _ (Le.refl _ _) o rfl⟩
    · cases e
  · cases e
theorem cu_tuple (hk : X.K = k.K := by rfl) : CallU X k (.type "tuple") tupleV := by
  refine ⟨_, ?_, call_tuple_of⟩
  intro W H st as xs c Q o r e q
  unfold tupleV at e
  split at e
  · rename_i a
    obtain ⟨v, rfl, r1⟩ := rep1 r
    cases h : seqOf st a with
    | none =>
      rw [h] at e
      cases e
    | some ys =>
      rw [h] at e
      cases e
      obtain ⟨p, vs, rfl, s, r2⟩ := seqOf_rep o r1 h
      rw [hk]
      refine ⟨p, vs, rfl, ?_⟩
      rcases s with s | s
      · exact .inl ⟨s, fun l hl => newTup o hl r2 q⟩
      · exact .inr ⟨s, q W H _ (Le.refl _ _) o ⟨p, vs, rfl, s, r2⟩⟩
  · cases e
theorem cu_list (hk : X.K = k.K := by rfl) : CallU X k (.type "list") listV := by
  refine ⟨_, ?_, call_list_of⟩
  intro W H st as xs c Q o r e q
  unfold listV at e
  split at e
  · rename_i a
    obtain ⟨v, rfl, r1⟩ := rep1 r
    cases h : seqOf st a with
    | none =>
      rw [h] at e
      cases e
    | some ys =>
      rw [h] at e
      cases e
      obtain ⟨p, vs, rfl, s, r2⟩ := seqOf_rep o r1 h
      rw [hk]
      exact ⟨p, vs, rfl, s, fun l hl => newLst o hl r2 q⟩
  · cases e
theorem cu_listM (hk : X.K = k.K := by rfl) : CallUS X k (.type "list") listVM := by
  refine ⟨_, ?_, call_list_of⟩
  intro W H st as xs c st' Q o r e q
  unfold listVM at e
  split at e
  · rename_i a
    obtain ⟨v, rfl, r1⟩ := rep1 r
    cases h : seqOf st a with
    | none =>
      rw [h] at e
      cases e
    | some ys =>
      rw [h] at e
      cases e
      obtain ⟨p, vs, rfl, s, r2⟩ := seqOf_rep o r1 h
      rw [hk]
      exact ⟨p, vs, rfl, s, fun l hl => newLstM o hl r2 q⟩
  · cases e
end
end Mi
namespace Mi
open PySem L2
/-! ### statements -/
inductive Out where
  | next | brk | cont | ret (v : Val) | err (x : Exc)
abbrev S := Env → Sto → Option (Out × Env × Sto)
def FinS (k : Kx) (E : WX) (W : Wd) (H : Hp) (D : Ends) : Out × Env × Sto → Prop
  | (.next, env, st) => ∀ W' H' σ, Le W W' H H' → Ok k W' H' st → RepE k W' H' env σ → D.nx σ H'
  | (.brk, env, st) => ∀ W' H' σ, Le W W' H H' → Ok k W' H' st → RepE k W' H' env σ → D.bk σ H'
  | (.cont, env, st) => ∀ W' H' σ, Le W W' H H' → Ok k W' H' st → RepE k W' H' env σ → D.ct σ H'
  | (.ret v, _, st) => ∀ W' H' u, Le W W' H H' → Ok k W' H' st → RepV k W' H' v u → D.rt u H'
  | (.err x, env, st) => ∀ W' H' σ c d, Le W W' H H' → Ok k W' H' st → RepE k W' H' env σ → RepX k W' H' x c d → E c d σ H'
def AtS (k : Kx) (E : WX) (s : S) (W : Wd) (D : Ends) (σ : L2.St) (H : Hp) : Prop := ∃ env st o, Ok k W H st ∧ RepE k W H env σ ∧ s env st = some o ∧ FinS k E W H D o
def tS (k : Kx) (E : WX) (s : S) : TS := fun D σ H => ∃ W, AtS k E s W D σ H
theorem FinS.le {k : Kx} {E : WX} {W W1 : Wd} {H H1 : Hp} {D : Ends} {o : Out × Env × Sto} (l : Le W W1 H H1) (h : FinS k E W H D o) : FinS k E W1 H1 D o := by
  obtain ⟨r, env, st⟩ := o
  cases r with
  | next => exact fun W' H' σ l' => h W' H' σ (l.trans l')
  | brk => exact fun W' H' σ l' => h W' H' σ (l.trans l')
  | cont => exact fun W' H' σ l' => h W' H' σ (l.trans l')
  | ret v => exact fun W' H' u l' => h W' H' u (l.trans l')
  | err x => exact fun W' H' σ c d l' => h W' H' σ c d (l.trans l')
def sNext : S := fun env st => some (.next, env, st)
def sCont : S := fun env st => some (.cont, env, st)
def sSeq (a b : S) : S := fun env st => match a env st with
  | some (.next, env1, st1) => b env1 st1
  | o => o
/-- run m, then go on with its value -/
def sBnd {α : Type} (m : M α) (f : α → S) : S := fun env st => match m env st with
  | some (.ok a, st1) => f a env st1
  | some (.error x, st1) => some (.err x, env, st1)
  | none => none
def sExpr (m : M Val) : S := sBnd m fun _ => sNext
def sRet (m : M Val) : S := sBnd m fun v env st => some (.ret v, env, st)
def sIf (c : M Bool) (a b : S) : S := sBnd c fun t => if t then a else b
def sSet (i : Nat) (m : M Val) : S := sBnd m fun v env st => some (.next, env.set i (some v), st)
section
variable {X : Cx} {k : Kx} {E : WX}
theorem AtS.tS {s : S} {W : Wd} {D : Ends} {σ : L2.St} {H : Hp} (h : AtS k E s W D σ H) : tS k E s D σ H := ⟨W, h⟩
theorem tS.bnd {α β : Type} {R : Wd → Hp → α → β → Prop} {m : M α} {f : α → S} {D : Ends} {σ : L2.St} {H : Hp} (h : tS k E (sBnd m f) D σ H) : tG k R E m σ H fun x H1 => ∃ W a, R W H1 a x ∧ AtS k E (f a) W D σ H1 := by
  obtain ⟨W, env, st, o, h1, h2, h3, h4⟩ := h
  unfold sBnd at h3
  cases e : m env st with
  | none =>
    rw [e] at h3
    cases h3
  | some p =>
    rw [e] at h3
    obtain ⟨r, st1⟩ := p
    cases r with
    | ok a => exact ⟨W, env, st, _, h1, h2, e, fun W' H' v l o' r' => ⟨W', a, r', env, st1, o, o', h2.le l, h3, h4.le l⟩⟩
    | error x =>
      cases h3
      exact ⟨W, env, st, _, h1, h2, e, fun W' H' c d l o r => h4 W' H' σ c d l o (h2.le l) r⟩
theorem AtS.next {W : Wd} {D : Ends} {σ : L2.St} {H : Hp} (h : AtS k E sNext W D σ H) : D.nx σ H := by
  obtain ⟨env, st, o, h1, h2, h3, h4⟩ := h
  cases h3
  exact h4 W H σ (Le.refl W H) h1 h2
theorem ms_nil : PSs X [] (tS k E sNext) := impSs pss_nil fun D σ H ⟨W, h⟩ => h.next
theorem seq_read {a b : S} {D : Ends} {σ : L2.St} {H : Hp} (h : tS k E (sSeq a b) D σ H) : tSeq (tS k E a) (tS k E b) D σ H := by
  obtain ⟨W, env, st, o, h1, h2, h3, h4⟩ := h
  unfold sSeq at h3
  cases e : a env st with
  | none =>
    rw [e] at h3
    cases h3
  | some p =>
    obtain ⟨r, env1, st1⟩ := p
    rw [e] at h3
    cases r with
    | next => exact ⟨W, env, st, _, h1, h2, e, fun W' H' σ' l o' r' => ⟨W', env1, st1, o, o', r', h3, h4.le l⟩⟩
    | brk =>
      cases h3
      exact ⟨W, env, st, _, h1, h2, e, h4⟩
    | cont =>
      cases h3
      exact ⟨W, env, st, _, h1, h2, e, h4⟩
    | ret v =>
      cases h3
      exact ⟨W, env, st, _, h1, h2, e, h4⟩
    | err x =>
      cases h3
      exact ⟨W, env, st, _, h1, h2, e, h4⟩
theorem ms_cons {st : Stmt} {rest : List Stmt} {a b : S} (h1 : PS X st (tS k E a)) (h2 : PSs X rest (tS k E b)) : PSs X (st :: rest) (tS k E (sSeq a b)) := impSs (pss_cons h1 h2) fun _ _ _ h => seq_read h
theorem ms_one {st : Stmt} {a : S} (h1 : PS X st (tS k E a)) : PSs X [st] (tS k E a) := pss_one h1
theorem ms_cont {pos : Pos} : PS X (.Continue pos) (tS k E sCont) := impS ps_continue fun D σ H ⟨W, env, st, o, h1, h2, h3, h4⟩ => by
  cases h3
  exact h4 W H σ (Le.refl W H) h1 h2
theorem ms_expr {e : Expr} {m : M Val} {pos : Pos} (h : PE X e (tM k E m)) (hs : swapsWith e none pos.line X.env = pure false := by rfl) : PS X (.Expr e pos) (tS k E (sExpr m)) :=
  impS (ps_expr h hs) fun D σ H h => tG.mono (tS.bnd (R := RepV k) h) fun x H1 ⟨W, a, ra, h1⟩ => h1.next
theorem ms_ret {e : Expr} {m : M Val} {pos : Pos} (h : PE X e (tM k E m)) : PS X (.Return (some e) pos) (tS k E (sRet m)) :=
  impS (ps_ret h) fun D σ H h => tG.mono (tS.bnd (R := RepV k) h) fun x H1 ⟨W, a, ra, env, st, o, h1, h2, h3, h4⟩ => by
    cases h3
    exact h4 W H1 x (Le.refl _ _) h1 ra
theorem ms_if {c : Expr} {a b : List Stmt} {m : M Bool} {s t : S} {pos : Pos} (hc : PT X c (tMb k E m)) (ha : PSs X a (tS k E s)) (hb : PSs X b (tS k E t)) : PS X (.If c a b pos) (tS k E (sIf m s t)) :=
  impS (ps_if hc ha hb) fun D σ H h => tG.mono (tS.bnd (R := RB) h) fun x H1 ⟨W, a, ra, h1⟩ => by
    cases ra
    cases x with
    | true => exact h1.tS
    | false => exact h1.tS
theorem set_read {i : Nat} {m : M Val} {D : Ends} {σ : L2.St} {H : Hp} (h : tS k E (sSet i m) D σ H) : tAsg (tM k E m) (gName i) D σ H :=
  tG.mono (tS.bnd (R := RepV k) h) fun x H1 ⟨W, a, ra, env, st, o, h1, h2, h3, h4⟩ => by
    cases h3
    exact h4 W H1 _ (Le.refl _ _) h1 (h2.set ra i)
theorem ms_set {i : Nat} {x : Str} {e : Expr} {m : M Val} {pos pos' : Pos} (hN : X.N.Nodup) (hi : X.N[i]? = some x) (hx : Loc X.env.scope x) (he : PE X e (tM k E m)) (hs : swapsWith e (some (.Name x pos')) pos.line X.env = pure false := by rfl)
    (hf : X.fn x = true ∨ X.env.scope.names.lookup x = some .local := by first | exact .inl rfl | exact .inr rfl | assumption) : PS X (.Assign [.Name x pos'] e pos) (tS k E (sSet i m)) := impS (ps_set hN hi hx he hs hf) fun _ _ _ h => set_read h
/-! ### targets -/
inductive Tg where
  | name (i : Nat) | tup (ts : List Tg)
mutual
def bindT : Tg → Val → Env → Option Env
  | .name i, v, env => some (env.set i (some v))
  | .tup ts, v, env => match v with
    | .tup xs => if xs.length = ts.length then bindTs ts xs env else none
    | _ => none
def bindTs : List Tg → List Val → Env → Option Env
  | [], _, env => some env
  | t :: ts, xs, env => match xs with
    | x :: xs => match bindT t x env with
      | some env1 => bindTs ts xs env1
      | none => none
    | [] => none
end
mutual
def gT (K : PySem.W.Frag) : Tg → TG
  | .name i => gName i
  | .tup ts => gTup K ts.length (gTs K ts)
def gTs (K : PySem.W.Frag) : List Tg → TGs
  | [] => gNil
  | t :: ts => gCons (gT K t) (gTs K ts)
end
mutual
def slots : Tg → List Nat
  | .name i => [i]
  | .tup ts => slotss ts
def slotss : List Tg → List Nat
  | [] => []
  | t :: ts => slots t ++ slotss ts
end
/-- σ and σ' differ at most at the slots vs -/
def OnlyAt (vs : List Nat) (σ σ' : L2.St) : Prop := σ'.length = σ.length ∧ ∀ j, j ∉ vs → σ'[j]? = σ[j]?
theorem OnlyAt.refl {vs : List Nat} {σ : L2.St} : OnlyAt vs σ σ := ⟨rfl, fun _ _ => rfl⟩
theorem OnlyAt.trans {vs us : List Nat} {σ σ1 σ2 : L2.St} (a : OnlyAt vs σ σ1) (b : OnlyAt us σ1 σ2) : OnlyAt (vs ++ us) σ σ2 := ⟨b.1.trans a.1, fun j hj => (b.2 j fun z => hj (List.mem_append_right _ z)).trans (a.2 j fun z => hj (List.mem_append_left _ z))⟩
mutual
theorem gT_of : ∀ {t : Tg} {a : Val} {x : V} {W : Wd} {H : Hp} {env env' : Env} {σ : L2.St} {Q : L2.St → Hp → Prop}, RepV k W H a x → RepE k W H env σ → bindT t a env = some env' → (∀ σ', RepE k W H env' σ' → OnlyAt (slots t) σ σ' → Q σ' H) → gT k.K t x σ H Q
  | .name i, a, x, W, H, env, env', σ, Q, ra, re, e, q => by
    cases e
    exact q _ (re.set ra i) ⟨by simp, fun j hj => List.getElem?_set_ne (fun z => hj (by rw [z]; exact List.mem_singleton.mpr rfl))⟩
  | .tup ts, a, x, W, H, env, env', σ, Q, ra, re, e, q => by
    cases a with
    | tup xs =>
      dsimp only [bindT] at e
      split at e
      · rename_i hl
        obtain ⟨p, vs, e1, s, r⟩ := ra
        exact ⟨p, vs, e1, s, by rw [r.len]; exact hl, gTs_of r hl re e q⟩
      · cases e
    | _ => cases e
theorem gTs_of : ∀ {ts : List Tg} {xs : List Val} {vs : List V} {W : Wd} {H : Hp} {env env' : Env} {σ : L2.St} {Q : L2.St → Hp → Prop}, RepL k W H xs vs → xs.length = ts.length → RepE k W H env σ → bindTs ts xs env = some env' → (∀ σ', RepE k W H env' σ' → OnlyAt (slotss ts) σ σ' → Q σ' H) → gTs k.K ts vs σ H Q
  | [], xs, vs, W, H, env, env', σ, Q, ra, hl, re, e, q => by
    cases e
    have hx : xs = [] := List.length_eq_zero_iff.mp hl
    subst hx
    exact ⟨ra, q σ re OnlyAt.refl⟩
  | t :: ts, xs, vs, W, H, env, env', σ, Q, ra, hl, re, e, q => by
    cases xs with
    | nil => cases hl
    | cons y ys =>
      obtain ⟨v, r, rfl, r1, r2⟩ := ra
      dsimp only [bindTs] at e
      cases h : bindT t y env with
      | none =>
        rw [h] at e
        cases e
      | some env1 =>
        rw [h] at e
        refine ⟨v, r, rfl, gT_of r1 re h fun σ1 re1 o1 => ?_⟩
        exact gTs_of r2 (by simpa using hl) re1 e fun σ2 re2 o2 => q σ2 re2 (o1.trans o2)
end
/-- (a, b) = a tuple -/
def sSetT (t : Tg) (m : M Val) : S := sBnd m fun v env st => match bindT t v env with
  | some env' => some (.next, env', st)
  | none => none
theorem setT_read {t : Tg} {m : M Val} {D : Ends} {σ : L2.St} {H : Hp} (h : tS k E (sSetT t m) D σ H) : tAsg (tM k E m) (gT k.K t) D σ H :=
  tG.mono (tS.bnd (R := RepV k) h) fun x H1 ⟨W, a, ra, env, st, o, h1, h2, h3, h4⟩ => by
    dsimp only at h3
    cases e : bindT t a env with
    | none =>
      rw [e] at h3
      cases h3
    | some env' =>
      rw [e] at h3
      cases h3
      exact gT_of ra h2 e fun σ' r _ => h4 W H1 σ' (Le.refl _ _) h1 r
theorem ms_setT {t : Tg} {tg e : Expr} {m : M Val} {pos : Pos} (he : PE X e (tM k E m)) (hg : PG X tg (gT X.K t)) (h : PS X (.Assign [tg] e pos) (tAsg (tM k E m) (gT X.K t))) (hk : X.K = k.K := by rfl) : PS X (.Assign [tg] e pos) (tS k E (sSetT t m)) :=
  impS h fun D σ H h => by
    rw [hk]
    exact setT_read h
/-- a, b = x, y -/
def sPar (i j : Nat) (ms : M (List Val)) : S := sBnd ms fun xs env st => match xs with
  | [v, w] => some (.next, (env.set i (some v)).set j (some w), st)
  | _ => none
theorem par_read {i j : Nat} {ms : M (List Val)} {D : Ends} {σ : L2.St} {H : Hp} (h : tS k E (sPar i j ms) D σ H) : tPar i j (tMa k E ms) D σ H :=
  tG.mono (tS.bnd (R := RepL k) h) fun xs H1 ⟨W, as, ra, env, st, o, h1, h2, h3, h4⟩ => by
    split at h3
    · rename_i v w
      cases h3
      obtain ⟨x, y, rfl, r1, r2⟩ := rep2 ra
      exact ⟨x, y, rfl, h4 W H1 _ (Le.refl _ _) h1 ((h2.set r1 i).set r2 j)⟩
    · cases h3
/-- a, b, c = x, y, z -/
def sPar3 (i j l : Nat) (ms : M (List Val)) : S := sBnd ms fun xs env st => match xs with
  | [v, w, u] => some (.next, ((env.set i (some v)).set j (some w)).set l (some u), st)
  | _ => none
theorem par3_read {i j l : Nat} {ms : M (List Val)} {D : Ends} {σ : L2.St} {H : Hp} (h : tS k E (sPar3 i j l ms) D σ H) : tPar3 i j l (tMa k E ms) D σ H :=
  tG.mono (tS.bnd (R := RepL k) h) fun xs H1 ⟨W, as, ra, env, st, o, h1, h2, h3, h4⟩ => by
    split at h3
    · rename_i v w u
      cases h3
      obtain ⟨x, t, rfl, r1, r2⟩ := ra
      obtain ⟨y, z, rfl, r3, r4⟩ := rep2 r2
      exact ⟨x, y, z, rfl, h4 W H1 _ (Le.refl _ _) h1 (((h2.set r1 i).set r3 j).set r4 l)⟩
    · cases h3
/-- x += e -/
def sAug (i : Nat) (f : Sto → Val → Val → Option Val) (m : M Val) : S := fun env st => match env[i]? with
  | some (some x) => sBnd m (fun y env st => match f st x y with
    | some z => some (.next, env.set i (some z), st)
    | none => none) env st
  | _ => none
theorem aug_read {i : Nat} {m : M Val} {g : Int → Int → Int} {f : Sto → Val → Val → Option Val} (hf : ∀ st x y z, f st x y = some z → ∃ a b, x = .int a ∧ y = .int b ∧ z = .int (g a b)) {D : Ends} {σ : L2.St} {H : Hp} (h : tS k E (sAug i f m) D σ H) : tAug i (tM k E m) (ipI g) D σ H := by
  obtain ⟨W, env, st, o, h1, h2, h3, h4⟩ := h
  unfold sAug at h3
  split at h3
  · rename_i x e
    obtain ⟨v, ev, rv⟩ := h2.get e
    refine ⟨v, ev, ?_⟩
    unfold sBnd at h3
    cases em : m env st with
    | none =>
      rw [em] at h3
      cases h3
    | some p =>
      obtain ⟨r, st1⟩ := p
      rw [em] at h3
      cases r with
      | error z =>
        cases h3
        exact ⟨W, env, st, _, h1, h2, em, fun W' H' c d l o r => h4 W' H' σ c d l o (h2.le l) r⟩
      | ok y =>
        refine ⟨W, env, st, _, h1, h2, em, fun W' H' u l o' r' => ?_⟩
        dsimp only at h3
        cases ef : f st1 x y with
        | none =>
          rw [ef] at h3
          cases h3
        | some z =>
          rw [ef] at h3
          cases h3
          obtain ⟨a, b, rfl, rfl, rfl⟩ := hf _ _ _ _ ef
          exact ⟨a, b, rv, r', h4 W' H' _ l o' ((h2.le l).set (show RepV k W' H' (.int (g a b)) (.int (g a b)) from rfl) i)⟩
  · cases h3
def addI (_ : Sto) : Val → Val → Option Val
  | .int i, .int j => some (.int (i + j))
  | _, _ => none
theorem addI_ints : ∀ st x y z, addI st x y = some z → ∃ a b, x = .int a ∧ y = .int b ∧ z = .int (a + b) := fun st x y z e => by
  cases x <;> cases y <;> first | (cases e; exact ⟨_, _, rfl, rfl, rfl⟩) | cases e
theorem ms_aug {i : Nat} {x : Str} {e : Expr} {m : M Val} {pos pos' : Pos} (hN : X.N.Nodup) (hi : X.N[i]? = some x) (hx : Loc X.env.scope x) (he : PE X e (tM k E m)) (hf : X.fn x = true ∨ X.env.scope.names.lookup x = some .local := by first | exact .inl rfl | exact .inr rfl | assumption)
    : PS X (.AugAssign (.Name x pos') .Add e pos) (tS k E (sAug i addI m)) := impS (ps_aug hN hi hx he ip_add hf) fun _ _ _ h => aug_read addI_ints h
end
end Mi
namespace Mi
open PySem L2
/-! ### what is walked -/
def Walks (k : Kx) (W : Wd) (H : Hp) (xs : List Val) (J : It) : Prop := ∀ W' H' st, Le W W' H H' → Ok k W' H' st → J.stop xs.length H' ∧
  ∀ i x, xs[i]? = some x → J.go i H' ∧ ∀ v H'', J.yld i H' v H'' → ∃ W'', Le W' W'' H' H'' ∧ Ok k W'' H'' st ∧ RepV k W'' H'' x v
def tMi (k : Kx) (E : WX) (m : M (List Val)) : TI := fun σ H R => tG k (fun W H xs J => Walks k W H xs J) E m σ H R
theorem PI_or {X : Cx} {tg e : Expr} {w w' : TI} (h : PI X tg e w) (h' : PI X tg e w') : PI X tg e (fun σ H R => w σ H R ∨ w' σ H R) :=
  ⟨fun pins s σ H R I q => q.elim (h.run pins s σ H R I) (h'.run pins s σ H R I)⟩
theorem impI {X : Cx} {tg e : Expr} {w w' : TI} (h : PI X tg e w) (i : ∀ σ H R, w' σ H R → w σ H R) : PI X tg e w' := ⟨fun pins s σ H R I q => h.run pins s σ H R I (i σ H R q)⟩
def signs (z : Str) : List Val := z.cps.toList.map fun c => .str ⟨#[c]⟩
/-- a list that nobody changes, a tuple, a text -/
def stillOf : Val → Option (List Val)
  | .lst xs => some xs
  | .rol xs => some xs
  | .tup xs => some xs
  | .str z => some (signs z)
  | _ => none
def itS (m : M Val) : M (List Val) := bnd m fun a => lift fun _ => stillOf a
section
variable {k : Kx} {W : Wd} {H : Hp}
theorem walks_list {p : Addr} {vs : List V} {xs : List Val} (hs : ∀ W' H', Le W W' H H' → SqL k.K H' p vs) (r : RepL k W H xs vs) : Walks k W H xs (Itl k.K p) := fun W' H' st l o =>
  ⟨⟨vs, hs W' H' l, by rw [r.len]; exact Nat.le_refl _⟩, fun i x e => by
    obtain ⟨v, ev, rv⟩ := r.get e
    refine ⟨⟨vs, v, hs W' H' l, ev⟩, fun u H'' y => ?_⟩
    obtain ⟨e1, e2⟩ := y
    subst e1
    have e3 : v = u := Option.some.inj (ev.symm.trans (e2 vs (hs W' H'' l)))
    subst e3
    exact ⟨W', Le.refl _ _, o, rv.le l⟩⟩
theorem walks_tup {p : Addr} {vs : List V} {xs : List Val} (hs : SqT k.K H p vs) (r : RepL k W H xs vs) : Walks k W H xs (Itt k.K p) := fun W' H' st l o =>
  ⟨⟨vs, l.sqT hs, by rw [r.len]; exact Nat.le_refl _⟩, fun i x e => by
    obtain ⟨v, ev, rv⟩ := r.get e
    refine ⟨⟨vs, v, l.sqT hs, ev⟩, fun u H'' y => ?_⟩
    obtain ⟨e1, e2⟩ := y
    subst e1
    have e3 : v = u := Option.some.inj (ev.symm.trans (e2 vs (l.sqT hs)))
    subst e3
    exact ⟨W', Le.refl _ _, o, rv.le l⟩⟩
theorem walks_str {z : Str} : Walks k W H (signs z) (Its z) := fun W' H' st l o =>
  ⟨by
    show z.cps.size ≤ (signs z).length
    unfold signs
    simp, fun i x e => by
    unfold signs at e
    rw [List.getElem?_map] at e
    cases q : z.cps.toList[i]? with
    | none =>
      rw [q] at e
      cases e
    | some c =>
      rw [q] at e
      cases e
      have hc : z.cps[i]? = some c := by simpa using q
      refine ⟨?_, fun u H'' y => ?_⟩
      · show i < z.cps.size
        exact (Array.getElem?_eq_some_iff.mp hc).1
      · obtain ⟨e1, c', e2, e3⟩ := y
        subst e1
        rw [hc] at e2
        cases e2
        exact ⟨W', Le.refl _ _, o, e3⟩⟩
theorem walks_range {lo : Int} {n : Nat} : Walks k W H ((List.range n).map fun (i : Nat) => .int (lo + i)) (Itr lo n) := fun W' H' st l o =>
  ⟨by
    show n ≤ _
    simp, fun i x e => by
    rw [List.getElem?_map] at e
    cases q : (List.range n)[i]? with
    | none =>
      rw [q] at e
      cases e
    | some c =>
      rw [q] at e
      cases e
      obtain ⟨hi, hc⟩ := List.getElem?_eq_some_iff.mp q
      have hc' : i = c := by simpa using hc
      subst hc'
      refine ⟨by show i < n; simpa using hi, fun u H'' y => ?_⟩
      obtain ⟨e1, e2⟩ := y
      subst e1
      exact ⟨W', Le.refl _ _, o, e2⟩⟩
end
def rng1 (ms : M (List Val)) : M (List Val) := bnd ms fun as => lift fun _ => match as with
  | [.int j] => if -(2 ^ 62) ≤ j ∧ j < 2 ^ 62 then some ((List.range j.toNat).map fun (i : Nat) => .int (0 + i)) else none
  | _ => none
def rng2 (ms : M (List Val)) : M (List Val) := bnd ms fun as => lift fun _ => match as with
  | [.int i, .int j] => if -(2 ^ 62) ≤ i ∧ i < 2 ^ 62 ∧ -(2 ^ 62) ≤ j ∧ j < 2 ^ 62 then some ((List.range (j - i).toNat).map fun (l : Nat) => .int (i + l)) else none
  | _ => none
def pairs (xs : List Val) : List Val := xs.zipIdx.map fun p => .tup [.int (p.2 : Nat), p.1]
section
variable {X : Cx} {k : Kx} {E : WX} {tg : Expr}
theorem mi_still {e : Expr} {m : M Val} (h : PE X e (tM k E m)) (hk : X.K = k.K := by rfl) : PI X tg e (tMi k E (itS m)) := by
  refine impI (PI_or (pi_list h) (PI_or (pi_tup h) (pi_str h))) fun σ H R q => ?_
  rw [hk]
  obtain ⟨W, env, st, o, h1, h2, h3, h4⟩ := q
  unfold itS Mi.bnd at h3
  cases em : m env st with
  | none =>
    rw [em] at h3
    cases h3
  | some p =>
    obtain ⟨r, st1⟩ := p
    rw [em] at h3
    cases r with
    | error x =>
      cases h3
      exact .inl ⟨W, env, st, _, h1, h2, em, h4⟩
    | ok a =>
      have h5 : (stillOf a).map (fun c => ((.ok c : Except Exc (List Val)), st1)) = some o := h3
      cases a with
      | lst xs =>
        cases h5
        refine .inl ⟨W, env, st, _, h1, h2, em, fun W' H' v l o' r' => ?_⟩
        obtain ⟨p, vs, e1, f, s, r⟩ := r'
        exact ⟨p, e1, ⟨vs, .inl (.inl s)⟩, h4 W' H' _ l o' (walks_list (fun W2 H2 l2 => .inl (.inl (l2.keep _ _ s f))) r)⟩
      | rol xs =>
        cases h5
        refine .inl ⟨W, env, st, _, h1, h2, em, fun W' H' v l o' r' => ?_⟩
        obtain ⟨p, vs, e1, s, r⟩ := r'
        refine ⟨p, e1, ⟨vs, RoL.sq s⟩, h4 W' H' _ l o' (walks_list (fun W2 H2 l2 => ?_) r)⟩
        rcases s with ⟨u, s⟩ | s
        · exact .inl (.inr ⟨u, l2.imm _ _ s trivial⟩)
        · exact SqL.ro s
      | tup xs =>
        cases h5
        refine .inr (.inl ⟨W, env, st, _, h1, h2, em, fun W' H' v l o' r' => ?_⟩)
        obtain ⟨p, vs, e1, s, r⟩ := r'
        exact ⟨p, e1, ⟨vs, s⟩, h4 W' H' _ l o' (walks_tup s r)⟩
      | str z =>
        cases h5
        exact .inr (.inr ⟨W, env, st, _, h1, h2, em, fun W' H' v l o' r' => ⟨z, r', h4 W' H' _ l o' walks_str⟩⟩)
      | _ => cases h5
theorem mi_range1 {a : Expr} {ms : M (List Val)} {p pos : Pos} (h : PI X tg (.Call (.Name "range" p) [a] [] pos) (iRng1 (tMa k E ms))) : PI X tg (.Call (.Name "range" p) [a] [] pos) (tMi k E (rng1 ms)) :=
  impI h fun σ H R q => tG.mono (tG.bnd (R1 := RepL k) q) fun vs H1 ⟨W, as, ra, h1⟩ => by
    obtain ⟨c, st, e, o, q⟩ := h1.lift
    split at e
    · rename_i j
      split at e
      · rename_i hl
        cases e
        obtain ⟨v, rfl, r1⟩ := rep1 ra
        exact ⟨j, by rw [show v = .int j from r1], hl.1, hl.2, q W H1 _ (Le.refl _ _) o walks_range⟩
      · cases e
    · cases e
theorem mi_range2 {a b : Expr} {ms : M (List Val)} {p pos : Pos} (h : PI X tg (.Call (.Name "range" p) [a, b] [] pos) (iRng2 (tMa k E ms))) : PI X tg (.Call (.Name "range" p) [a, b] [] pos) (tMi k E (rng2 ms)) :=
  impI h fun σ H R q => tG.mono (tG.bnd (R1 := RepL k) q) fun vs H1 ⟨W, as, ra, h1⟩ => by
    obtain ⟨c, st, e, o, q⟩ := h1.lift
    split at e
    · rename_i i j
      split at e
      · rename_i hl
        cases e
        obtain ⟨v, u, rfl, r1, r2⟩ := rep2 ra
        exact ⟨i, j, by rw [show v = .int i from r1, show u = .int j from r2], hl, q W H1 _ (Le.refl _ _) o walks_range⟩
      · cases e
    · cases e
/-! ### for -/
def loop (t : Tg) (body : S) : List Val → S
  | [], env, st => some (.next, env, st)
  | x :: xs, env, st => match bindT t x env with
    | none => none
    | some env1 => match body env1 st with
      | some (.next, e, s) => loop t body xs e s
      | some (.cont, e, s) => loop t body xs e s
      | some (.brk, e, s) => some (.next, e, s)
      | o => o
def sFor (mi : M (List Val)) (t : Tg) (body : S) : S := sBnd mi fun xs => loop t body xs
theorem for_read {mi : M (List Val)} {t : Tg} {body : S} {D : Ends} {σ : L2.St} {H : Hp} (h : tS k E (sFor mi t body) D σ H) : tFor (tMi k E mi) (gT k.K t) (tS k E body) D σ H := by
  refine tG.mono (tS.bnd (R := fun W H xs J => Walks k W H xs J) h) fun J H1 ⟨W, xs, walks, env, st, o, h1, h2, h3, h4⟩ => ?_
  refine ⟨fun i m σ H => i + m = xs.length ∧ ∃ W' env st, Le W W' H1 H ∧ Ok k W' H st ∧ RepE k W' H env σ ∧ loop t body (xs.drop i) env st = some o, ⟨xs.length, by omega, W, env, st, Le.refl _ _, h1, h2, h3⟩, ?_⟩
  rintro i m σ H ⟨hi, W', env, st, l, ok, re, hl⟩
  obtain ⟨stop, go⟩ := walks W' H st l ok
  by_cases hlt : i < xs.length
  · obtain ⟨g, y⟩ := go i xs[i] (List.getElem?_eq_getElem hlt)
    refine .inr ⟨g, fun σ' H' => ∃ W'' env st, Le W W'' H1 H' ∧ Ok k W'' H' st ∧ RepE k W'' H' env σ' ∧ loop t body (xs.drop (i + 1)) env st = some o, fun σ' H' ⟨W2, env2, st2, l2, o2, r2, e2⟩ => ⟨m - 1, by omega, by omega, W2, env2, st2, l2, o2, r2, e2⟩, fun v H' hy => ?_⟩
    obtain ⟨W2, l2, ok2, rv⟩ := y v H' hy
    rw [List.drop_eq_getElem_cons hlt] at hl
    dsimp only [loop] at hl
    cases e : bindT t xs[i] env with
    | none =>
      rw [e] at hl
      cases hl
    | some env1 =>
      rw [e] at hl
      dsimp only at hl
      refine gT_of rv (re.le l2) e fun σ2 re2 _ => ?_
      cases eb : body env1 st with
      | none =>
        rw [eb] at hl
        cases hl
      | some p =>
        obtain ⟨r, e', s'⟩ := p
        rw [eb] at hl
        refine ⟨W2, env1, st, _, ok2, re2, eb, ?_⟩
        cases r with
        | next => exact fun W3 H3 σ3 l3 o3 r3 => ⟨W3, e', s', (l.trans l2).trans l3, o3, r3, hl⟩
        | cont => exact fun W3 H3 σ3 l3 o3 r3 => ⟨W3, e', s', (l.trans l2).trans l3, o3, r3, hl⟩
        | brk =>
          cases hl
          exact fun W3 H3 σ3 l3 o3 r3 => h4 W3 H3 σ3 ((l.trans l2).trans l3) o3 r3
        | ret u =>
          cases hl
          exact fun W3 H3 v l3 o3 r3 => h4 W3 H3 v ((l.trans l2).trans l3) o3 r3
        | err x =>
          cases hl
          exact fun W3 H3 σ3 c d l3 o3 r3 r4 => h4 W3 H3 σ3 c d ((l.trans l2).trans l3) o3 r3 r4
  · have e : i = xs.length := by omega
    subst e
    rw [List.drop_length] at hl
    cases hl
    exact .inl ⟨stop, h4 W' H σ l ok re⟩
theorem ms_for {iter : Expr} {body : List Stmt} {mi : M (List Val)} {t : Tg} {s : S} {pos : Pos} (hp : PassesOwn (model X.prog X.w) X.A X.env X.xe) (hc : X.calm = true) (hi : PI X tg iter (tMi k E mi)) (hg : PG X tg (gT X.K t)) (hb : PSs X body (tS k E s))
    (hs : ∀ x, foldedSetIterable iter X.env x = pure x := by intro _; rfl) (hk : X.K = k.K := by rfl) : PS X (.For tg iter body [] pos) (tS k E (sFor mi t s)) :=
  impS (ps_for hp hc hi hg hb hs) fun D σ H h => by
    rw [hk]
    exact for_read h
/-- over a list of the store, which the turns leave as long as it is -/
def lstAt (st : Sto) (a : Nat) : Option (List Val) := match st[a]? with
  | some (.lst xs) => some xs
  | _ => none
def loopR (t : Tg) (body : S) (a n : Nat) : Nat → S
  | 0, env, st => match lstAt st a with
    | some xs => if xs.length = n then some (.next, env, st) else none
    | none => none
  | r + 1, env, st => match lstAt st a with
    | some xs => if xs.length = n then match xs[n - (r + 1)]? with
      | none => none
      | some x => match bindT t x env with
        | none => none
        | some env1 => match body env1 st with
          | some (.next, e, s) => loopR t body a n r e s
          | some (.cont, e, s) => loopR t body a n r e s
          | some (.brk, e, s) => some (.next, e, s)
          | o => o
      else none
    | none => none
def sForR (m : M Val) (t : Tg) (body : S) : S := sBnd m fun v env st => match v with
  | .ref a => match lstAt st a with
    | some xs => loopR t body a xs.length xs.length env st
    | none => none
  | _ => none
theorem lstAt_rep {W : Wd} {H : Hp} {st : Sto} {a : Nat} {p : Addr} {xs : List Val} (o : Ok k W H st) (e : lstAt st a = some xs) (h : W.rho[a]? = some p) : ∃ vs, H p = some (.lst vs) ∧ RepL k W H xs vs := by
  unfold lstAt at e
  split at e
  · rename_i ys q
    cases e
    exact o.obj a _ p q h
  · cases e
theorem forR_read {m : M Val} {t : Tg} {body : S} {D : Ends} {σ : L2.St} {H : Hp} (h : tS k E (sForR m t body) D σ H) : tFor (iList k.K (tM k E m)) (gT k.K t) (tS k E body) D σ H := by
  refine tG.mono (tS.bnd (R := RepV k) h) fun x H1 ⟨W, a, ra, env, st, o, h1, h2, h3, h4⟩ => ?_
  cases a with
  | ref a =>
    obtain ⟨p, e1, hp⟩ := ra
    dsimp only at h3
    cases hx : lstAt st a with
    | none =>
      rw [hx] at h3
      cases h3
    | some xs =>
      rw [hx] at h3
      dsimp only at h3
      obtain ⟨vs, hv, rv⟩ := lstAt_rep h1 hx hp
      refine ⟨p, e1, ⟨vs, .inl (.inl hv)⟩, fun i m σ H => i + m = xs.length ∧ ∃ W' env st, Le W W' H1 H ∧ Ok k W' H st ∧ RepE k W' H env σ ∧ loopR t body a xs.length m env st = some o, ⟨xs.length, by omega, W, env, st, Le.refl _ _, h1, h2, h3⟩, ?_⟩
      rintro i m σ H ⟨hi, W', env, st, l, ok, re, hl⟩
      cases m with
      | zero =>
        dsimp only [loopR] at hl
        cases hy : lstAt st a with
        | none =>
          rw [hy] at hl
          cases hl
        | some ys =>
          rw [hy] at hl
          dsimp only at hl
          split at hl
          · rename_i hn
            cases hl
            obtain ⟨us, hu, ru⟩ := lstAt_rep ok hy (l.at hp)
            exact .inl ⟨⟨us, .inl (.inl hu), by rw [ru.len, hn]; omega⟩, h4 W' H σ l ok re⟩
          · cases hl
      | succ m =>
        dsimp only [loopR] at hl
        cases hy : lstAt st a with
        | none =>
          rw [hy] at hl
          cases hl
        | some ys =>
          rw [hy] at hl
          dsimp only at hl
          split at hl
          · rename_i hn
            have ei : xs.length - (m + 1) = i := by omega
            rw [ei] at hl
            obtain ⟨us, hu, ru⟩ := lstAt_rep ok hy (l.at hp)
            cases hz : ys[i]? with
            | none =>
              rw [hz] at hl
              cases hl
            | some z =>
              rw [hz] at hl
              dsimp only at hl
              obtain ⟨w, hw, rw'⟩ := ru.get hz
              refine .inr ⟨⟨us, w, .inl (.inl hu), hw⟩, fun σ' H' => ∃ W'' env st, Le W W'' H1 H' ∧ Ok k W'' H' st ∧ RepE k W'' H' env σ' ∧ loopR t body a xs.length m env st = some o, fun σ' H' ⟨W2, env2, st2, l2, o2, r2, e2⟩ => ⟨m, by omega, by omega, W2, env2, st2, l2, o2, r2, e2⟩, fun v H' hy' => ?_⟩
              obtain ⟨eh, ev⟩ := hy'
              subst eh
              have ewv : w = v := Option.some.inj (hw.symm.trans (ev us (.inl (.inl hu))))
              subst ewv
              cases e : bindT t z env with
              | none =>
                rw [e] at hl
                cases hl
              | some env1 =>
                rw [e] at hl
                dsimp only at hl
                refine gT_of rw' re e fun σ2 re2 _ => ?_
                cases eb : body env1 st with
                | none =>
                  rw [eb] at hl
                  cases hl
                | some q =>
                  obtain ⟨r, e', s'⟩ := q
                  rw [eb] at hl
                  refine ⟨W', env1, st, _, ok, re2, eb, ?_⟩
                  cases r with
                  | next => exact fun W3 H3 σ3 l3 o3 r3 => ⟨W3, e', s', l.trans l3, o3, r3, hl⟩
                  | cont => exact fun W3 H3 σ3 l3 o3 r3 => ⟨W3, e', s', l.trans l3, o3, r3, hl⟩
                  | brk =>
                    cases hl
                    exact fun W3 H3 σ3 l3 o3 r3 => h4 W3 H3 σ3 (l.trans l3) o3 r3
                  | ret u =>
                    cases hl
                    exact fun W3 H3 v l3 o3 r3 => h4 W3 H3 v (l.trans l3) o3 r3
                  | err x =>
                    cases hl
                    exact fun W3 H3 σ3 c d l3 o3 r3 r4 => h4 W3 H3 σ3 c d (l.trans l3) o3 r3 r4
          · cases hl
  | _ => cases h3
theorem ms_forR {iter : Expr} {body : List Stmt} {m : M Val} {t : Tg} {s : S} {pos : Pos} (hp : PassesOwn (model X.prog X.w) X.A X.env X.xe) (hc : X.calm = true) (hi : PE X iter (tM k E m)) (hg : PG X tg (gT X.K t)) (hb : PSs X body (tS k E s))
    (hs : ∀ x, foldedSetIterable iter X.env x = pure x := by intro _; rfl) (hk : X.K = k.K := by rfl) : PS X (.For tg iter body [] pos) (tS k E (sForR m t s)) :=
  impS (ps_for hp hc (pi_list hi) hg hb hs) fun D σ H h => by
    rw [hk]
    exact forR_read h
/-! ### while -/
def sWhile (c : M Bool) (body : S) : Nat → S
  | 0, _, _ => none
  | n + 1, env, st => sBnd c (fun t env st => if t then match body env st with
      | some (.next, e, s) => sWhile c body n e s
      | some (.cont, e, s) => sWhile c body n e s
      | some (.brk, e, s) => some (.next, e, s)
      | o => o
    else some (.next, env, st)) env st
theorem while_read {c : M Bool} {body : S} {n : Nat} {D : Ends} {σ : L2.St} {H : Hp} (h : tS k E (sWhile c body n) D σ H) : tWhile (tMb k E c) (tS k E body) D σ H := by
  obtain ⟨W, env, st, o, h1, h2, h3, h4⟩ := h
  refine ⟨fun m σ H1 => ∃ W' env st, Le W W' H H1 ∧ Ok k W' H1 st ∧ RepE k W' H1 env σ ∧ sWhile c body m env st = some o, ⟨n, W, env, st, Le.refl _ _, h1, h2, h3⟩, ?_⟩
  rintro m σ' H1 ⟨W', env, st, l, ok, re, e⟩
  cases m with
  | zero => cases e
  | succ m =>
    dsimp only [sWhile] at e
    have hs : tS k E (sBnd c (fun t env st => if t then match body env st with
      | some (.next, e, s) => sWhile c body m e s
      | some (.cont, e, s) => sWhile c body m e s
      | some (.brk, e, s) => some (.next, e, s)
      | o => o
    else some (.next, env, st))) D σ' H1 := ⟨W', env, st, o, ok, re, e, h4.le l⟩
    -- the test
    unfold sBnd at e
    cases ec : c env st with
    | none =>
      rw [ec] at e
      cases e
    | some p =>
      obtain ⟨r, st1⟩ := p
      rw [ec] at e
      cases r with
      | error x =>
        cases e
        exact ⟨W', env, st, _, ok, re, ec, fun W2 H2 cc d l2 o2 r2 => h4 W2 H2 σ' cc d (l.trans l2) o2 (re.le l2) r2⟩
      | ok t =>
        refine ⟨W', env, st, _, ok, re, ec, fun W2 H2 b l2 o2 r2 => ?_⟩
        cases r2
        cases t with
        | false =>
          have e' : some (Out.next, env, st1) = some o := e
          cases e'
          exact h4 W2 H2 σ' (l.trans l2) o2 (re.le l2)
        | true =>
          refine ⟨fun σ3 H3 => ∃ W3 env st, Le W W3 H H3 ∧ Ok k W3 H3 st ∧ RepE k W3 H3 env σ3 ∧ sWhile c body m env st = some o, fun σ3 H3 q => ⟨m, Nat.lt_succ_self m, q⟩, ?_⟩
          dsimp only at e
          rw [if_pos rfl] at e
          cases eb : body env st1 with
          | none =>
            rw [eb] at e
            cases e
          | some q =>
            obtain ⟨r, e', s'⟩ := q
            rw [eb] at e
            refine ⟨W2, env, st1, _, o2, re.le l2, eb, ?_⟩
            cases r with
            | next => exact fun W3 H3 σ3 l3 o3 r3 => ⟨W3, e', s', (l.trans l2).trans l3, o3, r3, e⟩
            | cont => exact fun W3 H3 σ3 l3 o3 r3 => ⟨W3, e', s', (l.trans l2).trans l3, o3, r3, e⟩
            | brk =>
              cases e
              exact fun W3 H3 σ3 l3 o3 r3 => h4 W3 H3 σ3 ((l.trans l2).trans l3) o3 r3
            | ret u =>
              cases e
              exact fun W3 H3 v l3 o3 r3 => h4 W3 H3 v ((l.trans l2).trans l3) o3 r3
            | err x =>
              cases e
              exact fun W3 H3 σ3 c d l3 o3 r3 r4 => h4 W3 H3 σ3 c d ((l.trans l2).trans l3) o3 r3 r4
theorem ms_while {c : Expr} {body : List Stmt} {m : M Bool} {s : S} {pos : Pos} (n : Nat) (hp : PassesOwn (model X.prog X.w) X.A X.env X.xe) (hc : PT X c (tMb k E m)) (hb : PSs X body (tS k E s)) : PS X (.While c body [] pos) (tS k E (sWhile m s n)) :=
  impS (ps_while hp hc hb) fun D σ H h => while_read h
end
end Mi
namespace Mi
open PySem L2
/-! ### comprehensions -/
def wipeE (env : Env) : List Nat → Env
  | [] => env
  | v :: vs => (wipeE env vs).set v none
theorem RepE.wipe {k : Kx} {W : Wd} {H : Hp} {env : Env} {σ : L2.St} (h : RepE k W H env σ) : ∀ vs : List Nat, RepE k W H (wipeE env vs) (wipe σ vs)
  | [] => h
  | v :: vs => RepE.wipe1 v none (RepE.wipe h vs)
theorem RepE.aside {k : Kx} {W : Wd} {H : Hp} {D : Addr} {acc : List V} {o : HO} (hf : ¬ W.fz D) (hD : H D = some (.lst acc)) : ∀ {env : Env} {σ : L2.St}, RepE k W H env σ → RepE k W (upd H D o) env σ
  | [], _, h => h
  | e :: es, _, h => by
    obtain ⟨u, r, e1, h1, h2⟩ := h
    refine ⟨u, r, e1, fun x hx => ?_, RepE.aside hf hD h2⟩
    obtain ⟨v, e2, h3⟩ := h1 x hx
    exact ⟨v, e2, h3.aside hf hD⟩
theorem Le.aside {W W' : Wd} {H H' : Hp} {D : Addr} {o : HO} (l : Le W W' H H') (h : H D = none) : Le W W' H (upd H' D o) := by
  have ne : ∀ p u, H p = some u → p ≠ D := fun p u e z => by
    rw [z, h] at e
    cases e
  exact ⟨l.rho, l.fz, fun p u e i => by rw [upd_ne (ne p u e)]; exact l.imm p u e i, fun p u e i => by rw [upd_ne (ne p u e)]; exact l.keep p u e i, fun p u e i => by rw [upd_ne (ne p u e)]; exact l.rest p u e i, l.newr, l.newf, fun p e => upd_dom (l.dom p e)⟩
theorem Ok.aside {k : Kx} {W : Wd} {H : Hp} {st : Sto} {D : Addr} {acc : List V} {o : HO} (h : Ok k W H st) (hf : ¬ W.fz D) (hr : D ∉ W.rho) (hD : H D = some (.lst acc)) : Ok k W (upd H D o) st :=
  ⟨h.nd, h.len, fun p f => upd_dom (h.fzs p f), h.apart, fun i u p e1 e2 => by
    have ne : p ≠ D := fun z => hr (z ▸ List.mem_of_getElem? e2)
    have r := h.obj i u p e1 e2
    cases u with
    | lst xs =>
      obtain ⟨vs, z, r⟩ := r
      exact ⟨vs, by rw [upd_ne ne]; exact z, r.aside hf hD⟩
    | ins c ks xs =>
      obtain ⟨dx, vs, z, n, r⟩ := r
      exact ⟨dx, vs, by rw [upd_ne ne]; exact z, n, r.aside hf hD⟩
    | dk ks xs =>
      obtain ⟨vs, z, n, r⟩ := r
      exact ⟨vs, by rw [upd_ne ne]; exact z, n, r.aside hf hD⟩
    | dn ks xs =>
      obtain ⟨ns, as, us, z, n, r, r2⟩ := r
      exact ⟨ns, as, us, by rw [upd_ne ne]; exact z, n, r.aside hf hD, r2.aside hf hD⟩⟩
theorem Le.frD {W W' : Wd} {H H' : Hp} {D : Addr} (l : Le W W' H H') (h : H D = none) : Le W (W'.fr D) H H' :=
  ⟨l.rho, fun p f => .inl (l.fz p f), l.imm, l.keep, l.rest, l.newr, fun p f => by
    rcases f with f | f
    · exact l.newf p f
    · exact .inr (f ▸ h), l.dom⟩
theorem Le.obD {W W' : Wd} {H H' : Hp} {D : Addr} (l : Le W W' H H') (h : H D = none) : Le W (W'.ob D) H H' := by
  obtain ⟨m, e⟩ := l.rho
  exact ⟨⟨m ++ [D], by show W'.rho ++ [D] = _; rw [e, List.append_assoc]⟩, l.fz, l.imm, l.keep, l.rest, fun p f => by
    rcases List.mem_append.mp (show p ∈ W'.rho ++ [D] from f) with f | f
    · exact l.newr p f
    · exact .inr (by rw [List.mem_singleton.mp f]; exact h), l.newf, l.dom⟩
theorem ob_at {W : Wd} {D : Addr} (i : Nat) (p : Addr) (h : W.rho[i]? = some p) : (W.ob D).rho[i]? = some p := by
  show (W.rho ++ [D])[i]? = some p
  rw [List.getElem?_append_left (List.getElem?_eq_some_iff.mp h).1]
  exact h
theorem Ok.obD {k : Kx} {W : Wd} {H : Hp} {st : Sto} {D : Addr} {u : SO} (h : Ok k W H st) (hf : ¬ W.fz D) (hr : D ∉ W.rho) (hu : RepO k (W.ob D) H u D) : Ok k (W.ob D) H (st ++ [u]) := by
  refine ⟨?_, ?_, h.fzs, fun q m f => ?_, fun i v q e1 e2 => ?_⟩
  · show (W.rho ++ [D]).Nodup
    rw [List.nodup_append]
    exact ⟨h.nd, by simp, fun a ha b hb e => hr (by rw [← List.mem_singleton.mp hb, ← e]; exact ha)⟩
  · show (W.rho ++ [D]).length = (st ++ [u]).length
    rw [List.length_append, List.length_append, h.len]
    rfl
  · rcases List.mem_append.mp (show q ∈ W.rho ++ [D] from m) with m | m
    · exact h.apart q m f
    · rw [List.mem_singleton.mp m] at f
      exact hf f
  · have e2' : (W.rho ++ [D])[i]? = some q := e2
    by_cases hi : i < st.length
    · rw [List.getElem?_append_left hi] at e1
      rw [List.getElem?_append_left (by rw [h.len]; exact hi)] at e2'
      have r := h.obj i v q e1 e2'
      cases v with
      | lst xs =>
        obtain ⟨vs, z, r⟩ := r
        exact ⟨vs, z, r.more (W' := W.ob D) ob_at fun _ h => h⟩
      | ins c ks xs =>
        obtain ⟨dx, vs, z, n, r⟩ := r
        exact ⟨dx, vs, z, n, r.more (W' := W.ob D) ob_at fun _ h => h⟩
      | dk ks xs =>
        obtain ⟨vs, z, n, r⟩ := r
        exact ⟨vs, z, n, r.more (W' := W.ob D) ob_at fun _ h => h⟩
      | dn ks xs =>
        obtain ⟨ns, as, us, z, n, r, r2⟩ := r
        exact ⟨ns, as, us, z, n, r.more (W' := W.ob D) ob_at (fun _ h => h), r2.more (W' := W.ob D) ob_at fun _ h => h⟩
    · rw [List.getElem?_append_right (by omega)] at e1
      rw [List.getElem?_append_right (by rw [h.len]; omega), h.len] at e2'
      have hz : i - st.length = 0 := by
        by_cases z : i - st.length = 0
        · exact z
        · rw [List.getElem?_eq_none (by simp; omega)] at e1
          cases e1
      rw [hz] at e1 e2'
      cases e1
      cases e2'
      exact hu
theorem wipe_get (σ : L2.St) : ∀ (vs : List Nat) (j : Nat), (wipe σ vs)[j]? = if j ∈ vs then (if j < σ.length then some none else none) else σ[j]?
  | [], j => by simp [wipe]
  | v :: vs, j => by
    show ((wipe σ vs).set v none)[j]? = _
    by_cases e : v = j
    · subst e
      by_cases hl : v < σ.length
      · rw [List.getElem?_set_self (by rw [wipe_length]; exact hl)]
        simp [hl]
      · rw [List.getElem?_eq_none (by rw [List.length_set, wipe_length]; omega)]
        simp [hl]
    · rw [List.getElem?_set_ne e, wipe_get σ vs j]
      by_cases hm : j ∈ vs
      · simp [hm]
      · have : ¬ j = v := fun z => e z.symm
        simp [hm, this]
theorem wipe_only {σ σ2 : L2.St} {us vs : List Nat} (o : OnlyAt us (wipe σ vs) σ2) (hs : ∀ u ∈ us, u ∈ vs) : wipe σ2 vs = wipe σ vs := by
  apply List.ext_getElem?
  intro j
  have hl : σ2.length = σ.length := by
    rw [o.1, wipe_length]
  rw [wipe_get, wipe_get, hl]
  by_cases hm : j ∈ vs
  · rw [if_pos hm, if_pos hm]
  · rw [if_neg hm, if_neg hm, o.2 j fun z => hm (hs j z), wipe_get, if_neg hm]
def E0 : WX := fun _ _ _ _ => False
def compLoop (t : Tg) (own : List Nat) (cond : M Bool) (elt : M Val) : List Val → Env → Sto → Res (List Val)
  | [], _, st => some (.ok [], st)
  | x :: xs, env, st => match bindT t x (wipeE env own) with
    | none => none
    | some env1 => match cond env1 st with
      | some (.ok true, st1) => match elt env1 st1 with
        | some (.ok y, st2) => match compLoop t own cond elt xs env st2 with
          | some (.ok ys, st3) => some (.ok (y :: ys), st3)
          | _ => none
        | _ => none
      | some (.ok false, st1) => compLoop t own cond elt xs env st1
      | _ => none
def compM (mi : M (List Val)) (t : Tg) (own : List Nat) (cond : M Bool) (elt : M Val) : M (List Val) := bnd mi fun xs env st => if xs.length ≤ LIM then compLoop t own cond elt xs env st else none
def yes : M Bool := ret true
def comp (mi : M (List Val)) (t : Tg) (own : List Nat) (cond : M Bool) (elt : M Val) : M Val := bnd (compM mi t own cond elt) fun ys => ret (.lst ys)
/-- a list that will be changed -/
def compS (mi : M (List Val)) (t : Tg) (own : List Nat) (cond : M Bool) (elt : M Val) : M Val := bnd (compM mi t own cond elt) fun ys => liftS fun st => some (.ref st.length, st ++ [.lst ys])
section
variable {X : Cx} {k : Kx} {E : WX}
theorem comp_core {mi : M (List Val)} {t : Tg} {own : List Nat} {cond : M Bool} {elt : M Val} {f : List Val → M Val} {σ : L2.St} {H : Hp} {Q : VK} (hs : ∀ u ∈ slots t, u ∈ own)
    (fin : ∀ (W W' : Wd) (H1 H' : Hp) (st : Sto) (D : Addr) (acc : List V) (ys : List Val), Le W W' H1 H' → H1 D = none → Ok k W' H' st → ¬ W'.fz D → D ∉ W'.rho → H' D = some (.lst acc) → RepL k W' H' ys acc → ∀ env o, f ys env st = some o → Fin k (RepV k) (fun c d H' => E c d σ H') W H1 Q o → Q (.ref D) H')
    (h : tM k E (bnd (compM mi t own cond elt) f) σ H Q) : tLc (tMi k E mi) (gT k.K t) (tMb k E0 cond) (tM k E0 elt) own σ H Q := by
  obtain ⟨W, env, st, o, h1, h2, h3, h4⟩ := h
  unfold Mi.bnd compM at h3
  unfold Mi.bnd at h3
  cases em : mi env st with
  | none =>
    rw [em] at h3
    cases h3
  | some p =>
    obtain ⟨r, st1⟩ := p
    rw [em] at h3
    cases r with
    | error x =>
      cases h3
      exact ⟨W, env, st, _, h1, h2, em, h4⟩
    | ok xs =>
      refine ⟨W, env, st, _, h1, h2, em, fun W1 H1 J l1 o1 walks D hD => ?_⟩
      dsimp only at h3
      by_cases hlim : xs.length ≤ LIM
      · rw [if_pos hlim] at h3
        cases ec : compLoop t own cond elt xs env st1 with
        | none =>
          rw [ec] at h3
          cases h3
        | some p =>
          obtain ⟨r, st2⟩ := p
          rw [ec] at h3
          cases r with
          | error x =>
            -- no turn raises
            exfalso
            clear h3 h4
            have all : ∀ (xs : List Val) st, compLoop t own cond elt xs env st ≠ some (.error x, st2) := by
              intro xs
              induction xs with
              | nil =>
                intro st e
                cases e
              | cons y ys ih =>
                intro st e
                dsimp only [compLoop] at e
                split at e
                · cases e
                · split at e
                  · split at e
                    · split at e
                      · cases e
                      · cases e
                    · cases e
                  · exact ih _ e
                  · cases e
            exact all xs st1 ec
          | ok ys =>
            dsimp only at h3
            refine ⟨fun i m Hc => i + m = xs.length ∧ ∃ W' st acc done rest, Le W1 W' H1 Hc ∧ Ok k W' Hc st ∧ ¬ W'.fz D ∧ D ∉ W'.rho ∧ Hc D = some (.lst acc) ∧ RepL k W' Hc done acc ∧ RepE k W' Hc env σ ∧ done.length ≤ i ∧ compLoop t own cond elt (xs.drop i) env st = some (.ok rest, st2) ∧ ys = done ++ rest,
              ⟨xs.length, by omega, W1, st1, [], [], ys, Le.new hD, o1.new hD, fun z => o1.fzs D z hD, fun z => o1.there z hD, upd_same, rfl, (h2.le l1).le (Le.new hD), Nat.le_refl _, ec, rfl⟩, ?_⟩
            rintro i m Hc ⟨hi, W', st, acc, done, rest, l, ok, nf, nr, hacc, ra, re, hlen, hl, hys⟩
            have l' : Le W1 W' H1 Hc := l
            obtain ⟨stop, go⟩ := walks W' Hc st l' ok
            by_cases hlt : i < xs.length
            · obtain ⟨g, y⟩ := go i xs[i] (List.getElem?_eq_getElem hlt)
              refine .inr ⟨g, fun Hn => ∃ W' st acc done rest, Le W1 W' H1 Hn ∧ Ok k W' Hn st ∧ ¬ W'.fz D ∧ D ∉ W'.rho ∧ Hn D = some (.lst acc) ∧ RepL k W' Hn done acc ∧ RepE k W' Hn env σ ∧ done.length ≤ i + 1 ∧ compLoop t own cond elt (xs.drop (i + 1)) env st = some (.ok rest, st2) ∧ ys = done ++ rest,
                fun Hn q => ⟨m - 1, by omega, by omega, q⟩, fun v H' hy => ?_⟩
              obtain ⟨W2, l2, ok2, rv⟩ := y v H' hy
              -- D stays aside
              have step : ∀ {Wa Wb : Wd} {Ha Hb : Hp}, Le Wa Wb Ha Hb → ¬ Wa.fz D → D ∉ Wa.rho → Ha D = some (.lst acc) → ¬ Wb.fz D ∧ D ∉ Wb.rho ∧ Hb D = some (.lst acc) := fun {Wa Wb Ha Hb} l a b c => by
                refine ⟨fun z => ?_, fun z => ?_, l.rest _ _ c b⟩
                · rcases l.newf D z with z | z
                  · exact a z
                  · rw [c] at z
                    cases z
                · rcases l.newr D z with z | z
                  · exact b z
                  · rw [c] at z
                    cases z
              obtain ⟨nf2, nr2, hacc2⟩ := step l2 nf nr hacc
              rw [List.drop_eq_getElem_cons hlt] at hl
              dsimp only [compLoop] at hl
              cases e : bindT t xs[i] (wipeE env own) with
              | none =>
                rw [e] at hl
                cases hl
              | some env1 =>
                rw [e] at hl
                dsimp only at hl
                refine gT_of rv ((re.le l2).wipe own) e fun σ2 re2 only => ⟨wipe_only only hs, ?_⟩
                cases et : cond env1 st with
                | none =>
                  rw [et] at hl
                  cases hl
                | some p =>
                  obtain ⟨b, st3⟩ := p
                  rw [et] at hl
                  cases b with
                  | error x => cases hl
                  | ok b =>
                    refine ⟨W2, env1, st, _, ok2, re2, et, fun W3 H3 b' l3 o3 r3 => ?_⟩
                    cases r3
                    obtain ⟨nf3, nr3, hacc3⟩ := step l3 nf2 nr2 hacc2
                    cases b with
                    | false =>
                      rw [if_neg Bool.false_ne_true]
                      exact ⟨W3, st3, acc, done, rest, (l'.trans l2).trans l3, o3, nf3, nr3, hacc3, (ra.le l2).le l3, (re.le l2).le l3, by omega, hl, hys⟩
                    | true =>
                      rw [if_pos rfl]
                      dsimp only at hl
                      cases ee : elt env1 st3 with
                      | none =>
                        rw [ee] at hl
                        cases hl
                      | some p =>
                        obtain ⟨r, st4⟩ := p
                        rw [ee] at hl
                        cases r with
                        | error x => cases hl
                        | ok z =>
                          dsimp only at hl
                          cases er : compLoop t own cond elt (xs.drop (i + 1)) env st4 with
                          | none =>
                            rw [er] at hl
                            cases hl
                          | some p =>
                            obtain ⟨r, st5⟩ := p
                            rw [er] at hl
                            cases r with
                            | error x => cases hl
                            | ok rest' =>
                              have hl' : (some ((.ok (z :: rest') : Except Exc (List Val)), st5)) = some (.ok rest, st2) := hl
                              cases hl'
                              refine ⟨W3, env1, st3, _, o3, re2.le l3, ee, fun W4 H4 v4 l4 o4 r4 => ?_⟩
                              obtain ⟨nf4, nr4, hacc4⟩ := step l4 nf3 nr3 hacc3
                              have ra4 := ((ra.le l2).le l3).le l4
                              refine ⟨acc, hacc4, ?_, W4, st4, acc ++ [v4], done ++ [z], rest', Le.aside (((l'.trans l2).trans l3).trans l4) hD, o4.aside nf4 nr4 hacc4, nf4, nr4, upd_same, (ra4.append (RepL.cons r4 (show RepL k W4 H4 [] [] from rfl))).aside nf4 hacc4, (((re.le l2).le l3).le l4).aside nf4 hacc4, ?_, er, ?_⟩
                              · rw [ra4.len]
                                exact lim_lt (Nat.lt_of_lt_of_le (Nat.lt_of_le_of_lt hlen hlt) hlim)
                              · rw [List.length_append]
                                show done.length + 1 ≤ i + 1
                                omega
                              · rw [hys, List.append_assoc]
                                rfl
            · have e : i = xs.length := by omega
              subst e
              rw [List.drop_length] at hl
              have hl' : (some ((.ok [] : Except Exc (List Val)), st)) = some (.ok rest, st2) := hl
              cases hl'
              rw [List.append_nil] at hys
              subst hys
              refine .inl ⟨stop, fin W1 W' H1 Hc _ D acc _ l' hD ok nf nr hacc ra env o h3 (h4.le l1)⟩
      · rw [if_neg hlim] at h3
        cases h3
theorem comp_read {mi : M (List Val)} {t : Tg} {own : List Nat} {cond : M Bool} {elt : M Val} {σ : L2.St} {H : Hp} {Q : VK} (hs : ∀ u ∈ slots t, u ∈ own) (h : tM k E (comp mi t own cond elt) σ H Q) : tLc (tMi k E mi) (gT k.K t) (tMb k E0 cond) (tM k E0 elt) own σ H Q :=
  comp_core hs (fun W W' H1 H' st D acc ys l hD ok nf nr hacc ra env o e fn => by
    cases e
    refine fn (W'.fr D) H' _ (l.frD hD) (ok.fr (by rw [hacc]; exact fun z => nomatch z) nr) ⟨D, acc, rfl, .inr rfl, hacc, ra.more (W := W') (W' := W'.fr D) (fun _ _ h => h) fun _ h => Or.inl h⟩) h
theorem compS_read {mi : M (List Val)} {t : Tg} {own : List Nat} {cond : M Bool} {elt : M Val} {σ : L2.St} {H : Hp} {Q : VK} (hs : ∀ u ∈ slots t, u ∈ own) (h : tM k E (compS mi t own cond elt) σ H Q) : tLc (tMi k E mi) (gT k.K t) (tMb k E0 cond) (tM k E0 elt) own σ H Q :=
  comp_core hs (fun W W' H1 H' st D acc ys l hD ok nf nr hacc ra env o e fn => by
    cases e
    refine fn (W'.ob D) H' _ (l.obD hD) (ok.obD nf nr ⟨acc, hacc, ra.more (W' := W'.ob D) ob_at fun _ h => h⟩) ⟨D, rfl, ?_⟩
    show (W'.rho ++ [D])[st.length]? = some D
    rw [List.getElem?_append_right (by rw [ok.len]; exact Nat.le_refl _), ok.len, Nat.sub_self]
    rfl) h
theorem mts_nil {X : Cx} : PTs X [] (tMb k E yes) := ⟨fun pins s σ H Q I h => pts_nil.run pins s σ H Q I (by
  obtain ⟨W, h⟩ := h
  exact h.ret rfl)⟩
theorem me_comp {elt tg iter : Expr} {ifs : List Expr} {scope : Scope} {own : List (Str × Nat)} {pos : Pos} {mi : M (List Val)} {t : Tg} {cond : M Bool} {m : M Val} (hs : ∀ u ∈ slots t, u ∈ own.map (·.2))
    (h : PE X (.ListComp elt [⟨tg, iter, ifs, 0⟩] scope pos) (tLc (tMi k E mi) (gT X.K t) (tMb k E0 cond) (tM k E0 m) (own.map (·.2)))) (hk : X.K = k.K := by rfl) : PE X (.ListComp elt [⟨tg, iter, ifs, 0⟩] scope pos) (tM k E (comp mi t (own.map (·.2)) cond m)) :=
  imp h fun σ H Q q => by
    rw [hk]
    exact comp_read hs q
theorem me_compS {elt tg iter : Expr} {ifs : List Expr} {scope : Scope} {own : List (Str × Nat)} {pos : Pos} {mi : M (List Val)} {t : Tg} {cond : M Bool} {m : M Val} (hs : ∀ u ∈ slots t, u ∈ own.map (·.2))
    (h : PE X (.ListComp elt [⟨tg, iter, ifs, 0⟩] scope pos) (tLc (tMi k E mi) (gT X.K t) (tMb k E0 cond) (tM k E0 m) (own.map (·.2)))) (hk : X.K = k.K := by rfl) : PE X (.ListComp elt [⟨tg, iter, ifs, 0⟩] scope pos) (tM k E (compS mi t (own.map (·.2)) cond m)) :=
  imp h fun σ H Q q => by
    rw [hk]
    exact compS_read hs q
/-- y = [..] -/
theorem ms_comp {i : Nat} {elt tg iter : Expr} {ifs : List Expr} {scope : Scope} {own : List (Str × Nat)} {st : Stmt} {mi : M (List Val)} {t : Tg} {cond : M Bool} {m : M Val} (hs : ∀ u ∈ slots t, u ∈ own.map (·.2))
    (h : PS X st (tAsg (tLc (tMi k E mi) (gT X.K t) (tMb k E0 cond) (tM k E0 m) (own.map (·.2))) (gName i))) (hk : X.K = k.K := by rfl) : PS X st (tS k E (sSet i (comp mi t (own.map (·.2)) cond m))) :=
  impS h fun D σ H q => by
    rw [hk]
    exact comp_read hs (set_read q)
end
end Mi
namespace Mi
open PySem PySem.Spec PyProof.Rows L2
/-! ### defs and their calls -/
abbrev CF := List Val → Sto → Res Val
def spM (k : Kx) (n : Nat) (c : CF) : Sp := fun vs H Q E => ∃ W us st o, us.length = n ∧ Ok k W H st ∧ RepL k W H us vs ∧ c us st = some o ∧ Fin k (RepV k) E W H Q o
def env0 (N : Nat) (us : List Val) : Env := us.map some ++ List.replicate (N - us.length) none
def callS (N : Nat) (s : S) : CF := fun us st => match s (env0 N us) st with
  | some (.ret v, _, st') => some (.ok v, st')
  | some (.next, _, st') => some (.ok .non, st')
  | some (.err x, _, st') => some (.error x, st')
  | _ => none
def callM (n : Nat) (c : CF) (ds : List Val) (ms : M (List Val)) : M Val := bnd ms fun us _ st => if (us ++ ds).length = n then c (us ++ ds) st else none
section
variable {k : Kx}
theorem RepE.of_list {W : Wd} {H : Hp} : ∀ {us : List Val} {vs : List V}, RepL k W H us vs → RepE k W H (us.map some) (vs.map some)
  | [], vs, r => by
    have e : vs = [] := r
    rw [e]
    rfl
  | x :: xs, vs, r => by
    obtain ⟨v, u, rfl, r1, r2⟩ := r
    exact ⟨some v, _, rfl, fun y hy => ⟨v, rfl, by cases hy; exact r1⟩, RepE.of_list r2⟩
theorem RepE.nones {W : Wd} {H : Hp} : ∀ n : Nat, RepE k W H (List.replicate n none) (List.replicate n none)
  | 0 => rfl
  | n + 1 => ⟨none, _, rfl, fun y hy => (by cases hy), RepE.nones n⟩
theorem RepE.append {W : Wd} {H : Hp} : ∀ {e1 e2 : Env} {s1 s2 : L2.St}, RepE k W H e1 s1 → RepE k W H e2 s2 → RepE k W H (e1 ++ e2) (s1 ++ s2)
  | [], _, _, _, h, g => by
    have e : _ = _ := h
    rw [e]
    exact g
  | x :: xs, _, _, _, h, g => by
    obtain ⟨o, r, rfl, h1, h2⟩ := h
    exact ⟨o, _, rfl, h1, RepE.append h2 g⟩
theorem RepE.begin {W : Wd} {H : Hp} {us : List Val} {vs : List V} {N : List Str} (r : RepL k W H us vs) : RepE k W H (env0 N.length us) (L2.start N vs) := by
  unfold env0 L2.start
  rw [r.len]
  exact RepE.append (RepE.of_list r) (RepE.nones _)
/-- a def keeps its mirror -/
theorem ok_def {P : Program} {w : World} {mg : Str → Option Value} {base : Heap} {x qual : Str} {st : Stmt} {f : Addr} {fd : FuncData} {N ps : List Str} {j n nN : Nat} {s : S} {c : CF} (F : Fun k.K x qual st f fd) (S : FnScope N ps (defScope st)) (hc : c = callS nN s) (hN : N.length = nN) (hn : ps.length = n)
    (body : ∀ (cdv : Value) (A : Around) (outer : List PySem.Env) (s0 : Shared) (H : Hp) (E : XK), Room j (A.deeper (envOfC qual (defScope st) s0.heap.objs.size f cdv)) →
      PSs (cxOf (L2.CX P w) P w k.K mg base N qual (defScope st) f cdv A outer s0 H E) (defBody st) (tS k (fun c d _ H' => E c d H') s)) :
    FnOk P w k.K mg base (L2.CX P w) (j + 1) f fd ps (spM k n c) := by
  subst hc hN
  refine F.okX S (fun vs H Q E h => ?_) (fun cdv A outer s0 H vs Q E hr h => ⟨_, body cdv A outer s0 H E hr, ?_⟩)
  · obtain ⟨W, us, st, o, h0, h1, h2, h3, h4⟩ := h
    rw [h2.len, h0, hn]
  · obtain ⟨W, us, st, o, h0, h1, h2, h3, h4⟩ := h
    unfold callS at h3
    cases e : s (env0 N.length us) st with
    | none =>
      rw [e] at h3
      cases h3
    | some p =>
      obtain ⟨r, env, st'⟩ := p
      rw [e] at h3
      refine ⟨W, _, st, _, h1, RepE.begin h2, e, ?_⟩
      cases r with
      | next =>
        cases h3
        exact fun W' H' σ l o r => h4 W' H' .non l o rfl
      | brk => cases h3
      | cont => cases h3
      | ret v =>
        cases h3
        exact fun W' H' u l o r => h4 W' H' u l o r
      | err x =>
        cases h3
        exact fun W' H' σ c d l o _ r => h4 W' H' c d l o r
end
section
variable {X : Cx} {k : Kx} {E : WX} {pos p : Pos} {e : Expr} {es : List Expr} {ms : M (List Val)}
theorem call_read {n : Nat} {c : CF} {ds : List Val} {dvs : List V} (hd : ∀ W H, RepL k W H ds dvs) {σ : L2.St} {H : Hp} {Q : VK} (h : tM k E (callM n c ds ms) σ H Q) : tCallSD (spM k n c) dvs (WE E) (tMa k E ms) σ H Q :=
  tG.mono (tG.bnd (R1 := RepL k) h) fun vs H1 ⟨W, us, ru, env, st, o, h1, h2, h3, h4⟩ => by
    dsimp only at h3
    split at h3
    · rename_i hl
      exact ⟨W, us ++ ds, st, o, hl, h1, ru.append (hd W H1), h3, h4⟩
    · cases h3
theorem me_call {x : Str} {j n : Nat} {f : Addr} {fd : FuncData} {ps : List Str} {c : CF} {ds : List Val} {dvs : List V} {dus : List Value} (F : FnOk X.prog X.w X.K X.mg X.base (L2.CX X.prog X.w) j f fd ps (spM k n c)) (hr : Room j X.A) (hg : Gl X x) (hm : X.mg x = some (.ref f)) (hk : PySem.W.keepIn X.K (.ref f) = true)
    (hb : Binds X.K fd ps dus) (hv : Vals dvs dus) (hd : ∀ W H, RepL k W H ds dvs) (tk : Takes X E) (ha : PA X (e :: es) (tMa k E ms)) (hdb : (x == ("__debug__" : Str)) = false := by decide)
    (he : starEach (e :: es) X.env = (false, eval e X.env) :: starEach es X.env := by rfl) (hpl : (backTo pos (starEach es X.env)).any (·.1) = false := by rfl) : PE X (.Call (.Name x p) (e :: es) [] pos) (tM k E (callM n c ds ms)) :=
  imp (pe_callSD F hr hg hm hk hb hv (fun σ => passAt tk σ) ha hdb he hpl) fun σ H Q h => call_read hd h
/-! ### isinstance -/
def tyName (st : Sto) : Val → Option String
  | .non => some "NoneType"
  | .bl _ => some "bool"
  | .int _ => some "int"
  | .str _ => some "str"
  | .tup _ => some "tuple"
  | .lst _ => some "list"
  | .rol _ => some "list"
  | .ref i => match st[i]? with
    | some (.lst _) => some "list"
    | _ => none
  | .ins _ _ _ => none
  | .exv _ _ _ => none
  | .cls _ => none
  | .tpd _ => none
/-- tb: the answer for a built-in type, own: for an instance of an own class -/
def isiV (tb : String → Option Bool) (own : Str → Option Bool) (st : Sto) (a : Val) : Option Val := match a with
  | .ins c _ _ => (own c).map .bl
  | .ref i => match st[i]? with
    | some (.ins c _ _) => (own c).map .bl
    | some (.lst _) => (tb "list").map .bl
    | _ => none
  | a => match tyName st a with
    | some n => (tb n).map .bl
    | none => none
/-- what isinstance asks of an own class -/
structure ClsT (K : PySem.W.Frag) (C : Addr) : Prop where
  cl : Cls K C
  ha : PySem.W.findIn K (.ref C) "__class__" = some (some (.builtin "object.__class__"))
  hn : PySem.W.specialIn K (.builtin "object.__class__") "__get__" = some (some (.builtin "getset_descriptor.__get__"))
  htk : PySem.W.takesIn K (.builtin "object.__class__") = some true
  hm : PySem.W.mroIn K C (.type "object") = some true
theorem SqT.ty {K : PySem.W.Frag} {H : Hp} {p : Addr} {vs : List V} (h : SqT K H p vs) : TyX K H (.ref p) (.type "tuple") := by
  rcases h with (h | ⟨o, h⟩) | h
  · exact .base (.tup h)
  · exact .fTuple h
  · obtain ⟨o, its, n, e, c, _⟩ := h
    exact .kTuple e c
theorem RoL.ty {H : Hp} {p : Addr} {vs : List V} (h : RoL k H p vs) : TyX k.K H (.ref p) (.type "list") := by
  rcases h with ⟨o, h⟩ | (h | ⟨o, h⟩) | h
  · exact .base (.frz h)
  · cases h
  · cases h
  · obtain ⟨o, its, n, e, c, _⟩ := h
    exact .kList e c
theorem isi_rep {tb : String → Option Bool} {own : Str → Option Bool} {u : Value → Option Bool} (h1 : ∀ n b, tb n = some b → u (.type n) = some b) (h2 : ∀ c b, own c = some b → ClsT k.K (k.cl c) ∧ u (.ref (k.cl c)) = some b)
    {W : Wd} {H : Hp} {st : Sto} {a c : Val} {x : V} (o : Ok k W H st) (r : RepV k W H a x) (e : isiV tb own st a = some c) : ∃ t b, TyX k.K H x t ∧ u t = some b ∧ c = .bl b := by
  have ty : ∀ n (t : TyX k.K H x (.type n)), (tb n).map Val.bl = some c → ∃ t b, TyX k.K H x t ∧ u t = some b ∧ c = .bl b := fun n t e => by
    cases q : tb n with
    | none =>
      rw [q] at e
      cases e
    | some b =>
      rw [q] at e
      cases e
      exact ⟨_, b, t, h1 _ _ q, rfl⟩
  have ow : ∀ n p dx fs, x = .ref p → H p = some (.ins (k.cl n) dx fs) → (own n).map Val.bl = some c → ∃ t b, TyX k.K H x t ∧ u t = some b ∧ c = .bl b := fun n p dx fs ex hp e => by
    cases q : own n with
    | none =>
      rw [q] at e
      cases e
    | some b =>
      rw [q] at e
      cases e
      obtain ⟨T, hu⟩ := h2 _ _ q
      subst ex
      exact ⟨_, b, .base (.ins hp T.cl T.ha T.hn T.htk T.hm), hu, rfl⟩
  cases a with
  | non =>
    have r' : x = .non := r
    subst r'
    exact ty _ (.base .non) e
  | bl b =>
    have r' : x = .bl b := r
    subst r'
    exact ty _ (.base (.bl b)) e
  | int b =>
    have r' : x = .int b := r
    subst r'
    exact ty _ (.base (.int b)) e
  | str b =>
    have r' : x = .str b := r
    subst r'
    exact ty _ (.base (.str b)) e
  | tup xs =>
    obtain ⟨p, vs, rfl, s, _⟩ := r
    exact ty _ (SqT.ty s) e
  | lst xs =>
    obtain ⟨p, vs, rfl, f, s, _⟩ := r
    exact ty _ (.base (.lst s)) e
  | rol xs =>
    obtain ⟨p, vs, rfl, s, _⟩ := r
    exact ty _ (RoL.ty s) e
  | ins n ks xs =>
    obtain ⟨p, dx, vs, ex, f, s, _⟩ := r
    exact ow n p dx _ ex s e
  | ref i =>
    obtain ⟨p, ex, s⟩ := r
    dsimp only [isiV] at e
    cases q : st[i]? with
    | none =>
      rw [q] at e
      cases e
    | some ob =>
      rw [q] at e
      have rr := o.obj i ob p q s
      cases ob with
      | lst xs =>
        obtain ⟨vs, z, _⟩ := rr
        subst ex
        exact ty _ (.base (.lst z)) e
      | ins n ks xs =>
        obtain ⟨dx, vs, z, _⟩ := rr
        exact ow n p dx _ ex z e
      | _ => cases e
  | exv n ks xs => cases e
  | cls n => cases e
  | tpd xs => cases e
theorem me_isi {a c : Expr} {m : M Val} {cv : V} {u : Value} {tb : String → Option Bool} {own : Str → Option Bool} (hc : ClsV cv u) (h1 : ∀ n b, tb n = some b → PySem.W.kitOne k.K (.type n) u = some b) (h2 : ∀ c b, own c = some b → ClsT k.K (k.cl c) ∧ PySem.W.kitOne k.K (.ref (k.cl c)) u = some b)
    (hg : Gl X "isinstance") (hm : X.mg "isinstance" = none) (ha : PE X a (tM k E m)) (hcl : PE X c (tC cv)) (hs1 : starEach [a, c] X.env = (false, eval a X.env) :: starEach [c] X.env := by rfl) (hs2 : starEach [c] X.env = (false, eval c X.env) :: starEach [] X.env := by rfl) (hk : X.K = k.K := by rfl)
    (hpl : (backTo pos (starEach [c] X.env)).any (·.1) = false := by rfl) : PE X (.Call (.Name "isinstance" p) [a, c] [] pos) (tM k E (un (isiV tb own) m)) := by
  refine imp (pe_callB call_isi hg hm boot_isinstance (pa_cons ha (pa_cons hcl pa_nil hs2) hs1) (by decide) (by decide) hs1 hpl) fun σ H Q h => ?_
  rw [hk]
  refine tG.mono (tG.bnd (R1 := RepV k) h) fun x H1 ⟨W, b, rb, h3⟩ => ?_
  obtain ⟨c, st, e, o, q⟩ := h3.lift
  obtain ⟨t, b, ty, hu, hc'⟩ := isi_rep (u := fun t => PySem.W.kitOne k.K t u) h1 h2 o rb e
  subst hc'
  exact ⟨x, cv, t, u, b, rfl, hc, ty, hu, q W H1 _ (Le.refl _ _) o rfl⟩
/-- isinstance(x, (c1, c2)) -/
theorem me_isi2 {a c1 c2 : Expr} {m : M Val} {cv1 cv2 : V} {u1 u2 : Value} {x1 : Nat} {tp : Pos} {tb : String → Option Bool} {own : Str → Option Bool} (hc1 : ClsV cv1 u1) (hc2 : ClsV cv2 u2) (h1 : ∀ n b, tb n = some b → PySem.W.kitAny k.K (.type n) [u1, u2] = some b) (h2 : ∀ c b, own c = some b → ClsT k.K (k.cl c) ∧ PySem.W.kitAny k.K (.ref (k.cl c)) [u1, u2] = some b)
    (hg : Gl X "isinstance") (hm : X.mg "isinstance" = none) (ha : PE X a (tM k E m)) (hcl1 : PE X c1 (tC cv1)) (hcl2 : PE X c2 (tC cv2)) (hs1 : starEach [a, .Tuple [c1, c2] x1 tp] X.env = (false, eval a X.env) :: starEach [.Tuple [c1, c2] x1 tp] X.env := by rfl) (hs2 : starEach [.Tuple [c1, c2] x1 tp] X.env = (false, eval (.Tuple [c1, c2] x1 tp) X.env) :: starEach [] X.env := by rfl)
    (hs3 : starEach [c1, c2] X.env = (false, eval c1 X.env) :: starEach [c2] X.env := by rfl) (hs4 : starEach [c2] X.env = (false, eval c2 X.env) :: starEach [] X.env := by rfl) (hk : X.K = k.K := by rfl)
    (hpl : (backTo pos (starEach [.Tuple [c1, c2] x1 tp] X.env)).any (·.1) = false := by rfl) : PE X (.Call (.Name "isinstance" p) [a, .Tuple [c1, c2] x1 tp] [] pos) (tM k E (un (isiV tb own) m)) := by
  refine imp (pe_callB call_isiT hg hm boot_isinstance (pa_cons ha (pa_cons (pe_tup (pa_cons hcl1 (pa_cons hcl2 pa_nil hs4) hs3)) pa_nil hs2) hs1) (by decide) (by decide) hs1 hpl) fun σ H Q h => ?_
  rw [hk]
  refine tG.mono (tG.bnd (R1 := RepV k) h) fun x H1 ⟨W, b, rb, h3⟩ => ?_
  obtain ⟨c, st, e, o, q⟩ := h3.lift
  refine ⟨by show 2 ≤ sizeLine; decide, fun tp htp => ?_⟩
  have l : Le W W H1 (upd H1 tp (.tup [cv1, cv2])) := Le.new htp
  have o' := o.new (o := .tup [cv1, cv2]) htp
  obtain ⟨t, b, ty, hu, hc'⟩ := isi_rep (u := fun t => PySem.W.kitAny k.K t [u1, u2]) h1 h2 o' (rb.le l) e
  subst hc'
  exact ⟨x, tp, [cv1, cv2], t, [u1, u2], b, rfl, upd_same, .cons hc1 (.cons hc2 .nil), ty, hu, q W _ _ l o' rfl⟩
/-! ### methods of texts -/
def m1 (f : Sto → Val → Val → Option Val) (mo ma : M Val) : M Val := bnd mo fun a => bnd (lift fun _ => strOf a) fun _ => bnd ma fun b => lift fun st => f st a b
theorem m1_read {f : Sto → Val → Val → Option Val} {r : V → List V → Hp → VK → Prop} (hf : ∀ W H st a b x y c Q, Ok k W H st → RepV k W H a x → RepV k W H b y → f st a b = some c → (∀ W' H' v, Le W W' H H' → Ok k W' H' st → RepV k W' H' c v → Q v H') → r x [y] H Q)
    {mo ma : M Val} {σ : L2.St} {H : Hp} {Q : VK} (h : tM k E (m1 f mo ma) σ H Q) : tM1 r (tM k E mo) (tM k E ma) σ H Q :=
  tG.mono (tG.bnd (R1 := RepV k) h) fun x H1 ⟨W, a, ra, env, st, o, h1, h2, h3, h4⟩ => by
    cases a with
    | str z =>
      refine ⟨⟨z, ra⟩, ?_⟩
      have h5 : At k (RepV k) E (bnd ma fun b => lift fun st => f st (.str z) b) W σ H1 Q := ⟨env, st, o, h1, h2, h3, h4⟩
      refine tG.mono (At.bnd (R1 := RepV k) (fun W H => RepV k W H (.str z) x) (fun l r => r.le l) ra h5) fun y H2 ⟨W2, b, ra2, rb, h6⟩ => ?_
      obtain ⟨c, st, e, o, q⟩ := h6.lift
      exact hf W2 H2 st _ b x y c Q o ra2 rb e q
    | _ => cases h3
def splitV (_ : Sto) : Val → Val → Option Val
  | .str a, .str b => if b.length ≠ 0 ∧ a.length + 2 ≤ LIM then some (.lst ((Txt.split a b).map .str)) else none
  | _, _ => none
theorem me_split {o : Expr} {mo ma : M Val} {apos : Pos} (ho : PE X o (tM k E mo)) (he : PE X e (tM k E ma)) (hs : starEach [e] X.env = [(false, eval e X.env)] := by rfl) (hbase : attributeBase o "split" X.env (eval o X.env) = eval o X.env := by rfl) (hline : (apos.endLine == pos.line) = true := by rfl) :
    PE X (.Call (.Attribute o "split" apos) [e] [] pos) (tM k E (m1 splitV mo ma)) := by
  refine imp (pe_split ho he hs hbase hline) fun σ H Q h => m1_read (fun W H st a b x y c Q o ra rb e q => ?_) h
  cases a <;> cases b <;> first | cases e | skip
  rename_i a b
  dsimp only [splitV] at e
  split at e
  · rename_i hl
    cases e
    refine ⟨a, b, ra, by rw [show y = .str b from rb], ?_, lim_le hl.2, fun p hp => newLst o hp (RepL.map (f := Val.str) (g := V.str) (fun _ => rfl) _) q⟩
    have := hl.1
    simpa using this
  · cases e
/-! ### methods of lists of the store -/
def isLst (st : Sto) (a : Val) : Option Unit := match lstOf st a with
  | some _ => some ()
  | none => none
def lm (f : Sto → Val → List Val → Option (Val × Sto)) (mo : M Val) (ms : M (List Val)) : M Val := bnd mo fun a => bnd (lift fun st => isLst st a) fun _ => bnd ms fun as => liftS fun st => f st a as
theorem lm_read {f : Sto → Val → List Val → Option (Val × Sto)} {r : V → List V → Hp → VK → Prop} (hf : ∀ W H st a as x xs c st' Q, Ok k W H st → RepV k W H a x → RepL k W H as xs → f st a as = some (c, st') → (∀ W' H' v, Le W W' H H' → Ok k W' H' st' → RepV k W' H' c v → Q v H') → r x xs H Q)
    {mo : M Val} {ms : M (List Val)} {σ : L2.St} {H : Hp} {Q : VK} (h : tM k E (lm f mo ms) σ H Q) : tM k E mo σ H fun x H1 => tyV k.K "list" x H1 ∧ tMa k E ms σ H1 fun xs H2 => r x xs H2 Q :=
  tG.mono (tG.bnd (R1 := RepV k) h) fun x H1 ⟨W, a, ra, env, st, o, h1, h2, h3, h4⟩ => by
    unfold bnd lift at h3
    dsimp only at h3
    cases hx : isLst st a with
    | none =>
      rw [hx] at h3
      cases h3
    | some z =>
      rw [hx] at h3
      unfold isLst at hx
      cases hy : lstOf st a with
      | none =>
        rw [hy] at hx
        cases hx
      | some ys =>
        obtain ⟨p, vs, e1, s, r1⟩ := lstOf_rep h1 ra hy
        refine ⟨by rw [e1]; exact .inl ⟨rfl, vs, s⟩, ?_⟩
        have h5 : At k (RepV k) E (bnd ms fun as => liftS fun st => f st a as) W σ H1 Q := ⟨env, st, o, h1, h2, h3, h4⟩
        refine tG.mono (At.bnd (R1 := RepL k) (fun W H => RepV k W H a x) (fun l r => r.le l) ra h5) fun xs H2 ⟨W2, as, ra2, rs, h6⟩ => ?_
        obtain ⟨c, st, st', e, o, q⟩ := h6.liftS
        exact hf W2 H2 st a as x xs c st' Q o ra2 rs e q
def appendV (st : Sto) : Val → List Val → Option (Val × Sto)
  | .ref i, [a] => match st[i]? with
    | some (.lst xs) => if xs.length < LIM then some (.non, st.set i (.lst (xs ++ [a]))) else none
    | _ => none
  | _, _ => none
def popAtV (st : Sto) : Val → List Val → Option (Val × Sto)
  | .ref i, [.int j] => match st[i]? with
    | some (.lst xs) => if 0 ≤ j ∧ j < xs.length ∧ j < 16000000 then match xs[j.toNat]? with
      | some y => some (y, st.set i (.lst (xs.eraseIdx j.toNat)))
      | none => none
      else none
    | _ => none
  | _, _ => none
theorem Ok.putLe {W : Wd} {H : Hp} {st : Sto} {i : Nat} {p : Addr} {o o' : HO} (h : Ok k W H st) (hi : W.rho[i]? = some p) (ho : H p = some o) (hm : ¬ Imm o) : Le W W H (upd H p o') := by
  have hp : p ∈ W.rho := List.mem_of_getElem? hi
  exact ⟨⟨[], by simp⟩, fun _ h => h, fun q v e m => by
    have ne : q ≠ p := fun z => by
      rw [z, ho] at e
      cases e
      exact hm m
    rw [upd_ne ne]
    exact e, fun q v e f => by
    have ne : q ≠ p := fun z => h.apart p hp (z ▸ f)
    rw [upd_ne ne]
    exact e, fun q v e f => by
    have ne : q ≠ p := fun z => f (z ▸ hp)
    rw [upd_ne ne]
    exact e, fun _ h => .inl h, fun _ h => .inl h, fun _ h => upd_dom h⟩
theorem Ok.putL {W : Wd} {H : Hp} {st : Sto} {i : Nat} {p : Addr} {xs ys : List Val} {vs us : List V} (h : Ok k W H st) (hi : W.rho[i]? = some p) (ho : H p = some (.lst vs)) (r : RepL k W H ys us) : Le W W H (upd H p (.lst us)) ∧ Ok k W (upd H p (.lst us)) (st.set i (.lst ys)) := by
  have l : Le W W H (upd H p (.lst us)) := h.putLe hi ho (fun z => z)
  exact h.put hi ho (fun z => z) ⟨us, upd_same, r.le l⟩
theorem append_hf : ∀ W H st a as x xs c st' (Q : VK), Ok k W H st → RepV k W H a x → RepL k W H as xs → appendV st a as = some (c, st') → (∀ W' H' v, Le W W' H H' → Ok k W' H' st' → RepV k W' H' c v → Q v H') → rAppend x xs H Q := by
  intro W H st a as x xs c st' Q o ra rs e q
  unfold appendV at e
  split at e
  · rename_i i b
    split at e
    · rename_i ys hys
      split at e
      · rename_i hl
        cases e
        obtain ⟨p, e1, hp⟩ := ra
        obtain ⟨vs, hv, rv⟩ := o.obj i _ p hys hp
        obtain ⟨v, rfl, rb⟩ := rep1 rs
        obtain ⟨l, o'⟩ := o.putL (xs := ys) hp hv (rv.append (RepL.cons rb (show RepL k W H [] [] from rfl)))
        exact ⟨p, vs, v, e1, rfl, hv, by rw [rv.len]; exact lim_lt hl, q W _ _ l o' rfl⟩
      · cases e
    · cases e
  · cases e
theorem RepL.dropLast {W : Wd} {H : Hp} {xs : List Val} {vs : List V} (r : RepL k W H xs vs) : RepL k W H xs.dropLast vs.dropLast := by
  rw [List.dropLast_eq_take, List.dropLast_eq_take, r.len]
  exact r.take _
theorem popAt_hf : ∀ W H st a as x xs c st' (Q : VK), Ok k W H st → RepV k W H a x → RepL k W H as xs → popAtV st a as = some (c, st') → (∀ W' H' v, Le W W' H H' → Ok k W' H' st' → RepV k W' H' c v → Q v H') → rPopAt x xs H Q := by
  intro W H st a as x xs c st' Q o ra rs e q
  unfold popAtV at e
  split at e
  · rename_i i j
    split at e
    · rename_i ys hys
      split at e
      · rename_i hl
        split at e
        · rename_i y hy
          cases e
          obtain ⟨p, e1, hp⟩ := ra
          obtain ⟨vs, hv, rv⟩ := o.obj i _ p hys hp
          obtain ⟨w, rfl, rb⟩ := rep1 rs
          obtain ⟨v, hv2, ry⟩ := rv.get hy
          obtain ⟨l, o'⟩ := o.putL (xs := ys) hp hv (rv.eraseIdx j.toNat)
          refine ⟨p, vs, j, j.toNat, v, e1, by rw [show w = .int j from rb], hv, by omega, by omega, ?_, hv2, q W _ _ l o' (ry.le l)⟩
          rw [rv.len]
          exact (ixN_seq (show ixN ys.length j = some j.toNat from by unfold ixN; rw [if_pos hl.1, if_pos hl.2.1])).1
        · cases e
      · cases e
    · cases e
  · cases e
theorem me_append {o : Expr} {mo ma : M Val} {apos : Pos} (ho : PE X o (tM k E mo)) (ha : PA X [e] (tMa k E ms)) (h : PE X (.Call (.Attribute o "append" apos) [e] [] pos) (tBM X.K "list" rAppend (tM k E mo) (tMa k E ms))) (hk : X.K = k.K := by rfl) :
    PE X (.Call (.Attribute o "append" apos) [e] [] pos) (tM k E (lm appendV mo ms)) := imp h fun σ H Q q => by
  rw [hk]
  exact lm_read append_hf q
theorem me_popAt {o : Expr} {mo ma : M Val} {apos : Pos} (ho : PE X o (tM k E mo)) (ha : PA X [e] (tMa k E ms)) (h : PE X (.Call (.Attribute o "pop" apos) [e] [] pos) (tBM X.K "list" rPopAt (tM k E mo) (tMa k E ms))) (hk : X.K = k.K := by rfl) :
    PE X (.Call (.Attribute o "pop" apos) [e] [] pos) (tM k E (lm popAtV mo ms)) := imp h fun σ H Q q => by
  rw [hk]
  exact lm_read popAt_hf q
/-! ### xs[i] = e -/
def sSub (me mo mi : M Val) : S := sBnd me fun v => sBnd mo fun a => sBnd mi fun j env st => match a, j with
  | .ref i, .int n => match st[i]? with
    | some (.lst xs) => match ixN xs.length n with
      | some l => some (.next, env, st.set i (.lst (xs.set l v)))
      | none => none
    | _ => none
  | _, _ => none
theorem AtS.bnd {α β : Type} {R : Wd → Hp → α → β → Prop} {m : M α} {f : α → S} {D : Ends} {σ : L2.St} {H : Hp} {W : Wd} (P : Wd → Hp → Prop) (mono : ∀ {W W' : Wd} {H H' : Hp}, Le W W' H H' → P W H → P W' H') (hp : P W H)
    (h : AtS k E (sBnd m f) W D σ H) : tG k R E m σ H fun x H1 => ∃ W1 a, P W1 H1 ∧ R W1 H1 a x ∧ AtS k E (f a) W1 D σ H1 := by
  obtain ⟨env, st, o, h1, h2, h3, h4⟩ := h
  unfold sBnd at h3
  cases e : m env st with
  | none =>
    rw [e] at h3
    cases h3
  | some p =>
    rw [e] at h3
    obtain ⟨r, st1⟩ := p
    cases r with
    | ok a => exact ⟨W, env, st, _, h1, h2, e, fun W' H' v l o' r' => ⟨W', a, mono l hp, r', env, st1, o, o', h2.le l, h3, h4.le l⟩⟩
    | error x =>
      cases h3
      exact ⟨W, env, st, _, h1, h2, e, fun W' H' c d l o r => h4 W' H' σ c d l o (h2.le l) r⟩
theorem ms_sub {o i : Expr} {me mo mi : M Val} (h : PS X (.Assign [.Subscript o i p] e pos) (tAsg (tM k E me) (gSub (tM k E mo) (tM k E mi) rSetL))) : PS X (.Assign [.Subscript o i p] e pos) (tS k E (sSub me mo mi)) :=
  impS h fun D σ H q => tG.mono (tS.bnd (R := RepV k) q) fun x H1 ⟨W, v, rv, h1⟩ =>
    tG.mono (AtS.bnd (R := RepV k) (fun W H => RepV k W H v x) (fun l r => r.le l) rv h1) fun y H2 ⟨W2, a, rv2, ra, h2⟩ =>
      tG.mono (AtS.bnd (R := RepV k) (fun W H => RepV k W H v x ∧ RepV k W H a y) (fun l r => ⟨r.1.le l, r.2.le l⟩) ⟨rv2, ra⟩ h2) fun z H3 ⟨W3, j, ⟨rv3, ra3⟩, rj, env, st, o, g1, g2, g3, g4⟩ => by
        cases a with
        | ref i =>
          cases j with
          | int n =>
            dsimp only at g3
            split at g3
            · rename_i ys hys
              split at g3
              · rename_i l hl
                cases g3
                obtain ⟨p, e1, hp⟩ := ra3
                obtain ⟨vs, hv, rvs⟩ := g1.obj i _ p hys hp
                obtain ⟨le, o'⟩ := g1.putL (xs := ys) hp hv (rvs.set rv3 l)
                exact ⟨p, vs, n, l, e1, rj, hv, by rw [rvs.len]; exact hl, g4 W3 _ σ le o' (g2.le le)⟩
              · cases g3
            · cases g3
          | _ => cases g3
        | _ => cases g3
end
end Mi
namespace PySem
open Sem (wp)
/-- enumerate(v), v told by how its walk begins -/
theorem mi_enumNew {v : Value} {o : Obj} {Hh : Heap → Prop} (B : Begins v o Hh) : Meets (Builtin.«enumerate.__new__» ⟨[.type "enumerate", v], []⟩) (fun _ R s => Hh s.heap ∧
    R (.ok (.ret (.ref (s.heap.push o).objs.size))) { s with heap := (s.heap.push o).push { cls := .type "enumerate", data := .fields #[.none, .bool false, .ref s.heap.objs.size, rawInt 0, .none, .none] } }) :=
  .of_wp fun prog w A R s h => by
    obtain ⟨hp, g, d, tk, os⟩ := s
    obtain ⟨h1, h⟩ := h
    have hsub := sub_enumerate
    have walk : ∀ {A' : Around} {E : Value → Shared → Prop} {Q : Value → Shared → Prop}, Q (.ref hp.objs.size) ⟨hp.push o, g, d, tk, os⟩ → wpAny (model prog w) A' (pyIter v) Q E ⟨hp, g, d, tk, os⟩ := fun q => B.iter prog w _ _ _ _ h1 q
    wp_walk using walk
    refine wpAny_stack_any fun st => wpAny_pure ?_
    split
    · rename_i c _ _ _ _ _
      cases (c == Value.type "enumerate") <;> (wp_walk using walk; exact ⟨_, rfl, h⟩)
    · wp_walk using walk
      exact ⟨_, rfl, h⟩
theorem mi_enumCall {prog : Program} {w : World} {A : Around} {E : Value → Shared → Prop} {s : Shared} {v : Value} {o : Obj} {Hh : Heap → Prop} {Q : Value → Shared → Prop} (B : Begins v o Hh) (h1 : Hh s.heap)
    (h : ∀ h', IsEnum h' (s.heap.objs.size + 1) s.heap.objs.size 0 .none → h'.get? s.heap.objs.size = some o → (∀ b u, s.heap.get? b = some u → h'.get? b = some u) → Q (.ref (s.heap.objs.size + 1)) { s with heap := h' }) :
    wpAny (model prog w) A (call (.type "enumerate") [v]) Q E s := by
  refine callType_new F.called_enumerate (by decide) (F.typeCall_enumerate_1 _) (F.newCall_enumerate_1 _) (fun obj => F.args_object_init_2 obj _) F.entry_enumerate_new (mi_enumNew B) ⟨h1, ?_⟩
  have hz : (s.heap.push o).objs.size = s.heap.objs.size + 1 := Heap.size_push ..
  show _ ∧ _
  rw [hz]
  have he : IsEnum ((s.heap.push o).push { cls := .type "enumerate", data := .fields #[.none, .bool false, .ref s.heap.objs.size, rawInt 0, .none, .none] }) (s.heap.objs.size + 1) s.heap.objs.size 0 .none := by
    have q := Heap.get?_push_size (s.heap.push o) (o := { cls := .type "enumerate", data := .fields #[.none, .bool false, .ref s.heap.objs.size, rawInt 0, .none, .none] }) rfl
    rw [hz] at q
    exact q
  exact ⟨⟨_, he, rfl⟩, h _ he (Heap.get?_push_of_some _ (Heap.get?_push_size _ B.free)) fun b u x => Heap.get?_push_of_some _ (Heap.get?_push_of_some _ x)⟩
end PySem
namespace Mi
open PySem PySem.Spec PyProof.Rows L2
/-! ### enumerate, zip: over lists and tuples, in any mix -/
inductive Sc where
  | l (a : Addr) | t (a : Addr)
def Sc.addr : Sc → Addr
  | .l a => a
  | .t a => a
def Sc.sq (K : PySem.W.Frag) (H : Hp) : Sc → List V → Prop
  | .l a, xs => SqL K H a xs
  | .t a, xs => SqT K H a xs
def Sc.it (h : Heap) (I : Addr) (i : Nat) : Sc → Prop
  | .l a => h.IsListIter I a i
  | .t a => h.IsTupleIter I a i
def Sc.is (h : Heap) (items : Array Value) : Sc → Prop
  | .l a => h.IsList a items
  | .t a => h.IsTuple a items
def Sc.first : Sc → Obj
  | .l a => { cls := .type "list_iterator", data := .fields #[.ref a, .int 0 0] }
  | .t a => { cls := .type "tuple_iterator", data := .fields #[.ref a, .int 0 0] }
theorem Sc.begins (c : Sc) (items : Array Value) : Begins (.ref c.addr) c.first fun h => c.is h items := by
  cases c with
  | l a => exact begins_list a items
  | t a => exact begins_tuple a items
theorem Sc.it_first {h : Heap} {I : Addr} {c : Sc} (e : h.get? I = some c.first) : c.it h I 0 := by
  cases c with
  | l a => exact ⟨_, e, rfl, rfl⟩
  | t a => exact ⟨_, e, rfl, rfl⟩
theorem Sc.it_obj {h : Heap} {I : Addr} {i : Nat} {c : Sc} (x : c.it h I i) : ∃ o, h.get? I = some o ∧ ∀ v, o.data ≠ .cell v := by
  cases c with
  | l a =>
    obtain ⟨o, e, _, d⟩ := x
    exact ⟨o, e, fun v q => by rw [d] at q; cases q⟩
  | t a =>
    obtain ⟨o, e, _, d⟩ := x
    exact ⟨o, e, fun v q => by rw [d] at q; cases q⟩
theorem Sc.it_at {h h' : Heap} {I : Addr} {i : Nat} {c : Sc} (x : c.it h I i) (k : ∀ o, h.get? I = some o → h'.get? I = some o) : c.it h' I i := by
  cases c with
  | l a => exact Heap.IsListIter.at x k
  | t a => exact Heap.IsTupleIter.at x k
theorem Sc.draws {prog : Program} {w : World} {A : Around} (hh : A.handled = none) (c : Sc) (I : Addr) (hne : c.addr ≠ I) (items : Array Value) :
    Draws prog w A I [I, c.addr] items.size (fun i v => items[i]? = some v) (fun i h => c.it h I i ∧ c.is h items) := by
  cases c with
  | l a => exact Draws.list hh I a hne items
  | t a => exact Draws.tuple hh I a hne items
section
variable {X : Cx} {pins : List (Addr × Obj)} {σ : L2.St} {H : Hp} {s : Shared} {c : Sc} {xs ys : List V}
theorem Sc.of (I : Inv X pins σ H s) (h : c.sq X.K H xs) : ∃ its : List Value, Vals xs its ∧ c.is s.heap its.toArray := by
  cases c with
  | l a =>
    obtain ⟨its, rv, p, _⟩ := I.list h
    exact ⟨its, rv, p.isList⟩
  | t a =>
    obtain ⟨its, rv, p, _⟩ := I.tuple h
    exact ⟨its, rv, p⟩
theorem Sc.inj (I : Inv X pins σ H s) (h : c.sq X.K H xs) (h' : c.sq X.K H ys) : xs = ys := by
  cases c with
  | l a => exact I.list_inj h h'
  | t a => exact I.tuple_inj h h'
theorem Sc.ne (I : Inv X pins σ H s) (h : c.sq X.K H xs) {b : Addr} (hf : FpOk X pins H b) : c.addr ≠ b := by
  have old : ∀ a o, X.K.lookup a = some o → a ≠ b := fun a o e z => by
    have e1 := I.ok.mod.kin a o e
    obtain ⟨_, _, _, f3, _⟩ := hf
    rcases f3 with f3 | f3
    · exact I.ok.noex a o e1 (z ▸ f3)
    · exact absurd (Nat.lt_of_lt_of_le (Heap.lt_size (I.ok.bs a o e1).1) (z ▸ f3)) (Nat.lt_irrefl _)
  cases c with
  | l a =>
    rcases h with (h | ⟨o, h⟩) | ⟨o, _, _, e, _⟩
    · exact ne_of_none h hf.1
    · exact ne_of_none h hf.1
    · exact old a o e
  | t a =>
    rcases h with (h | ⟨o, h⟩) | ⟨o, _, _, e, _⟩
    · exact ne_of_none h hf.1
    · exact ne_of_none h hf.1
    · exact old a o e
end
def IteS (K : PySem.W.Frag) (c : Sc) : It :=
  ⟨fun i H => ∃ (xs : List V) (x : V), c.sq K H xs ∧ xs[i]? = some x, fun i H v H' => ∃ T x, v = .ref T ∧ H T = none ∧ H' = upd H T (.tup [.int (i : Nat), x]) ∧ ∀ xs, c.sq K H xs → xs[i]? = some x, fun i H => ∃ xs : List V, c.sq K H xs ∧ xs.length = i⟩
theorem turnEnum {P : Program} {w : World} {K : PySem.W.Frag} {elts : List Expr} {kk : Nat} {tpos : Pos} (c : Sc) (e it : Addr) :
    Turn P w K (.Tuple elts kk tpos) (IteS K c) [e, it] e (fun i h => (∃ old, IsEnum h e it ((i : Nat) : Int) old) ∧ c.it h it i ∧ e ≠ it) where
  mem := by simp
  obj := fun i h st b hb => by
    obtain ⟨⟨old, he⟩, hit, _⟩ := st
    have e' : b = e ∨ b = it := by simpa using hb
    rcases e' with z | z
    · rw [z]
      exact ⟨_, he, fun v q => nomatch q⟩
    · rw [z]
      exact Sc.it_obj hit
  keep := fun i h h' st k => by
    obtain ⟨⟨old, he⟩, hi, hne⟩ := st
    exact ⟨⟨old, k e (by simp) _ he⟩, Sc.it_at hi fun o q => k it (by simp) o q, hne⟩
  item := by
    intro X hP hw hK hc i pins s σ H E I hf st hg
    subst hP hw hK
    obtain ⟨⟨old, he⟩, hit, hne⟩ := st
    obtain ⟨xs, x, hq, hx⟩ := hg
    obtain ⟨its, rv, p⟩ := Sc.of I hq
    obtain ⟨u, hu, ru⟩ := rv.get hx
    have hel : e < s.heap.objs.size := Heap.lt_size he
    have hil : it < s.heap.objs.size := by
      obtain ⟨_, q, _⟩ := Sc.it_obj hit
      exact Heap.lt_size q
    have hai := Sc.ne I hq (hf it (by simp))
    have hae := Sc.ne I hq (hf e (by simp))
    have hef : e ∉ [it, c.addr] := fun z => by
      rcases List.mem_cons.mp z with z | z
      · exact hne z
      · exact hae (List.mem_singleton.mp z).symm
    have hlt : i < its.toArray.size := by
      have := (List.getElem?_eq_some_iff.mp hu).1
      simpa using this
    refine wpAny_pyNext_enum_itemC (Sc.draws (A := X.A.in1) (I.ok.hd hc) c it hai its.toArray) he ⟨hit, p⟩ hlt hne hef fun x' h' tk hP ho hst' hT hsz hk => ?_
    have ex : u = x' := by
      have q : its.toArray[i]? = some x' := hP
      have q' : its[i]? = some x' := by simpa using q
      exact Option.some.inj (hu.symm.trans q')
    subst ex
    refine ⟨_, rfl, wpAny_letOwnedTupleGo_enum (s := { s with heap := h', toks := tk + 1 }) ho fun h'' he' sb => ?_⟩
    have hT2 : h''.get? s.heap.objs.size = some { cls := .type "tuple", data := .seq #[.int i tk, u] } := (sb.2 _ (Nat.ne_of_gt hel)).trans hT
    have new : ObjOk X.prog X.w (upd H s.heap.objs.size (.tup [.int (i : Nat), x])) h'' s.heap.objs.size (.tup [.int (i : Nat), x]) :=
      ⟨by show 2 ≤ sizeLine; decide, [.int i tk, u], .cons ⟨_, rfl⟩ (.cons ru .nil), ⟨_, hT2, rfl, _, rfl⟩⟩
    have I1 : Inv X pins σ (upd H s.heap.objs.size (.tup [.int (i : Nat), x])) { s with heap := h'', toks := tk + 1 } :=
      I.turnedNew (ch := [e, it]) (fun b ob hb q => (sb.2 b (fun z => hb (by simp [z]))).trans (hk b ob (fun z => hb (by simp [z])) (fun z => hb (by simp [z])) q)) hf (Nat.le_refl _) new
    refine ⟨.ref s.heap.objs.size, _, I1, rfl, ⟨_, x, rfl, I.hok.fresh (Nat.le_refl _), rfl, fun ys hy => by rw [Sc.inj I hy hq]; exact hx⟩, ⟨⟨u, ?_⟩, Sc.it_at hst'.1 fun o q => (sb.2 it (Ne.symm hne)).trans q, hne⟩, fun b hb => ?_⟩
    · have e1 : ((i + 1 : Nat) : Int) = (i : Int) + 1 := by omega
      rw [e1]
      exact he'
    · have hb' : b < s.heap.objs.size := by
        have e' : b = e ∨ b = it := by simpa using hb
        rcases e' with z | z
        · rw [z]
          exact hel
        · rw [z]
          exact hil
      rw [upd_ne (Nat.ne_of_lt hb')]
      exact (hf b hb).1
  done := by
    intro X hP hw hK hc i pins s σ H E I hf st hg
    subst hP hw hK
    obtain ⟨⟨old, he⟩, hit, hne⟩ := st
    obtain ⟨xs, hq, hx⟩ := hg
    obtain ⟨its, rv, p⟩ := Sc.of I hq
    obtain ⟨f0, f1, f2, f3, f4, f5⟩ := hf it (by simp)
    have hl := rv.length
    have hi : its.toArray.size = i := by
      rw [List.size_toArray]
      omega
    refine wpAny_pyNext_enum_endD (Sc.draws (A := X.A.in1) (I.ok.hd hc) c it (Sc.ne I hq (hf it (by simp))) its.toArray) he ⟨by rw [hi]; exact hit, p⟩ fun h' eb => ⟨rfl, I.turned (t' := s.toks) (fun b o hb q => eb b o hb q) f0 f1 f3 f4 f5⟩
  self := fun A i s Q E st h => by
    obtain ⟨⟨_, he⟩, _⟩ := st
    exact wpAny_pyIter_enum he h
theorem pi_enumS {X : Cx} {e : Expr} {ta : TA} {p pos tpos : Pos} {elts : List Expr} {kk : Nat} (hg : Gl X "enumerate") (hm : X.mg "enumerate" = none) (ha : PA X [e] ta) (hs : starEach [e] X.env = [(false, eval e X.env)] := by rfl) :
    PI X (.Tuple elts kk tpos) (.Call (.Name "enumerate" p) [e] [] pos) (fun σ H R => ta σ H fun vs H1 => ∃ c xs, vs = [.ref (Sc.addr c)] ∧ c.sq X.K H1 xs ∧ R (IteS X.K c) H1) := by
  refine ⟨fun pins s σ H R I h => ?_⟩
  refine Call_ (ld_blt I hg hm boot_enumerate (PyProof.Rows.callWith_type1 (thn (ha.run pos pins s σ H _ I h) fun us s1 ⟨vs, H1, I1, r1, q1⟩ => ?_) hs rfl))
  obtain ⟨c, xs, ec, hq, q⟩ := q1
  subst ec
  cases r1 with
  | cons r rr =>
    cases rr
    cases r
    obtain ⟨its, rv, p'⟩ := Sc.of I1 hq
    refine mi_enumCall (c.begins its.toArray) p' fun h' he hit hk => wpAny_pyIter_enum he ?_
    have I2 : Inv X pins σ H1 { s1 with heap := h' } := I1.kept (t' := s1.toks) hk
    refine ⟨s1.heap.objs.size + 1, [s1.heap.objs.size + 1, s1.heap.objs.size], _, _, H1, rfl, I2, turnEnum c (s1.heap.objs.size + 1) s1.heap.objs.size, ⟨⟨.none, he⟩, Sc.it_first hit, Nat.succ_ne_self _⟩, fun b hb => ?_, q⟩
    have e' : b = s1.heap.objs.size + 1 ∨ b = s1.heap.objs.size := by simpa using hb
    have hle : s1.heap.objs.size ≤ b := by
      rcases e' with z | z
      · rw [z]
        exact Nat.le_add_right _ _
      · rw [z]
        exact Nat.le_refl _
    exact I1.fpOk hle (I1.hok.fresh hle)
def IzS (K : PySem.W.Frag) (c d : Sc) : It :=
  ⟨fun i H => ∃ (xs ys : List V) (x y : V), c.sq K H xs ∧ d.sq K H ys ∧ xs[i]? = some x ∧ ys[i]? = some y,
    fun i H v H' => ∃ T x y, v = .ref T ∧ H T = none ∧ H' = upd H T (.tup [x, y]) ∧ (∀ xs, c.sq K H xs → xs[i]? = some x) ∧ ∀ ys, d.sq K H ys → ys[i]? = some y,
    fun i H => ∃ xs ys : List V, c.sq K H xs ∧ d.sq K H ys ∧ i ≤ xs.length ∧ i ≤ ys.length ∧ (i = xs.length ∨ i = ys.length)⟩
structure ZAp (z TI TO i1 i2 : Addr) : Prop where
  a1 : TI ≠ z
  a2 : TO ≠ z
  a3 : TI ≠ TO
  a4 : TI ≠ i1
  a5 : TI ≠ i2
  a6 : z ≠ i1
  a7 : z ≠ i2
  a8 : TO ≠ i1
  a9 : TO ≠ i2
  b1 : i1 ≠ i2
theorem ZAp.sep {z TI TO i1 i2 a b : Addr} (D : ZAp z TI TO i1 i2) (h1 : a ≠ z) (h2 : a ≠ TO) (h3 : a ≠ i2) (h4 : b ≠ z) (h5 : b ≠ TO) (h6 : b ≠ i1) : ZipSep2 z TI TO i1 i2 [i1, a] [i2, b] := by
  have no : ∀ {x y w : Addr}, x ≠ y → w ≠ x → x ∉ [y, w] := fun {x y w} p q m => by
    rcases List.mem_cons.mp m with m | m
    · exact p m
    · exact q (List.mem_singleton.mp m).symm
  exact ⟨D.a1, D.a2, D.a3, D.a4, by simp, no D.a6 h1, no D.a8 h2, D.a5, by simp, no D.a7 h4, no D.a9 h5, no D.b1 h6, no (Ne.symm D.b1) h3⟩
theorem turnZip {P : Program} {w : World} {K : PySem.W.Frag} {elts : List Expr} {kk : Nat} {tpos : Pos} (c d : Sc) {z TI TO i1 i2 : Addr} (D : ZAp z TI TO i1 i2) :
    Turn P w K (.Tuple elts kk tpos) (IzS K c d) [z, TI, TO, i1, i2] z (fun i h => IsZip h z TI TO .none ∧ IsTupOf2 h TI (.ref i1) (.ref i2) ∧ (∃ x y, IsTupOf2 h TO x y) ∧ c.it h i1 i ∧ d.it h i2 i) where
  mem := by simp
  obj := fun i h st b hb => by
    obtain ⟨hz, hTI, ⟨x, y, hTO⟩, h1, h2⟩ := st
    have e' : b = z ∨ b = TI ∨ b = TO ∨ b = i1 ∨ b = i2 := by simpa using hb
    rcases e' with q | q | q | q | q
    · rw [q]
      exact ⟨_, hz, fun v q => nomatch q⟩
    · rw [q]
      exact ⟨_, hTI, fun v q => nomatch q⟩
    · rw [q]
      exact ⟨_, hTO, fun v q => nomatch q⟩
    · rw [q]
      exact Sc.it_obj h1
    · rw [q]
      exact Sc.it_obj h2
  keep := fun i h h' st k => by
    obtain ⟨hz, hTI, ⟨x, y, hTO⟩, h1, h2⟩ := st
    exact ⟨k z (by simp) _ hz, k TI (by simp) _ hTI, ⟨x, y, k TO (by simp) _ hTO⟩, Sc.it_at h1 fun o q => k i1 (by simp) o q, Sc.it_at h2 fun o q => k i2 (by simp) o q⟩
  item := by
    intro X hP hw hK hc i pins s σ H E I hf st hg
    subst hP hw hK
    obtain ⟨hz, hTI, ⟨x0, y0, hTO⟩, h1, h2⟩ := st
    obtain ⟨xs, ys, x, y, hqx, hqy, hx, hy⟩ := hg
    obtain ⟨its, rv, p⟩ := Sc.of I hqx
    obtain ⟨its2, rv2, p2⟩ := Sc.of I hqy
    obtain ⟨u, hu, ru⟩ := rv.get hx
    obtain ⟨u2, hu2, ru2⟩ := rv2.get hy
    have hzl : z < s.heap.objs.size := Heap.lt_size hz
    have nc : ∀ b ∈ [z, TI, TO, i1, i2], c.addr ≠ b := fun b hb => Sc.ne I hqx (hf b hb)
    have nd : ∀ b ∈ [z, TI, TO, i1, i2], d.addr ≠ b := fun b hb => Sc.ne I hqy (hf b hb)
    have S := D.sep (nc z (by simp)) (nc TO (by simp)) (nc i2 (by simp)) (nd z (by simp)) (nd TO (by simp)) (nd i1 (by simp))
    have lt1 : i < its.toArray.size := by
      have := (List.getElem?_eq_some_iff.mp hu).1
      simpa using this
    have lt2 : i < its2.toArray.size := by
      have := (List.getElem?_eq_some_iff.mp hu2).1
      simpa using this
    refine wpAny_pyNext_zipD2_item S (Sc.draws (A := X.A.in1) (I.ok.hd hc) c i1 (nc i1 (by simp)) its.toArray) (Sc.draws (A := X.A.in1) (I.ok.hd hc) d i2 (nd i2 (by simp)) its2.toArray) hz hTI hTO ⟨h1, p⟩ ⟨h2, p2⟩ lt1 lt2
      fun x1 x2 h' tk hP1 hP2 z' TO' st1 st2 hT hsz hk => ?_
    have e1 : u = x1 := by
      have q : its.toArray[i]? = some x1 := hP1
      have q' : its[i]? = some x1 := by simpa using q
      exact Option.some.inj (hu.symm.trans q')
    have e2 : u2 = x2 := by
      have q : its2.toArray[i]? = some x2 := hP2
      have q' : its2[i]? = some x2 := by simpa using q
      exact Option.some.inj (hu2.symm.trans q')
    subst e1 e2
    refine ⟨_, rfl, wpAny_letOwnedTupleGo_zip (s := { s with heap := h', toks := tk }) z' fun h'' z'' sb => ?_⟩
    have hT2 : h''.get? s.heap.objs.size = some { cls := .type "tuple", data := .seq #[u, u2] } := (sb.2 _ (Nat.ne_of_gt hzl)).trans hT
    have new : ObjOk X.prog X.w (upd H s.heap.objs.size (.tup [x, y])) h'' s.heap.objs.size (.tup [x, y]) :=
      ⟨by show 2 ≤ sizeLine; decide, [u, u2], .cons ru (.cons ru2 .nil), ⟨_, hT2, rfl, _, rfl⟩⟩
    have I1 : Inv X pins σ (upd H s.heap.objs.size (.tup [x, y])) { s with heap := h'', toks := tk } :=
      I.turnedNew (ch := [z, TI, TO, i1, i2]) (fun b o hb q => (sb.2 b (fun q' => hb (by simp [q']))).trans (hk b o (fun q' => hb (by simp [q'])) (fun q' => hb (by simp [q'])) (fun q' => hb (by simp [q'])) (fun q' => hb (by simp [q'])) q)) hf (Nat.le_refl _) new
    refine ⟨.ref s.heap.objs.size, _, I1, rfl, ⟨_, x, y, rfl, I.hok.fresh (Nat.le_refl _), rfl, fun l hl => by rw [Sc.inj I hl hqx]; exact hx, fun l hl => by rw [Sc.inj I hl hqy]; exact hy⟩, ⟨z'', ?_, ⟨u, u2, ?_⟩, ?_, ?_⟩, fun b hb => ?_⟩
    · exact (sb.2 _ D.a1).trans (hk _ _ D.a1 D.a3 D.a4 D.a5 hTI)
    · exact (sb.2 _ D.a2).trans TO'
    · exact Sc.it_at st1.1 fun o q => (sb.2 _ (Ne.symm D.a6)).trans q
    · exact Sc.it_at st2.1 fun o q => (sb.2 _ (Ne.symm D.a7)).trans q
    · have hlt : b < s.heap.objs.size := by
        have e' : b = z ∨ b = TI ∨ b = TO ∨ b = i1 ∨ b = i2 := by simpa using hb
        rcases e' with q | q | q | q | q
        · rw [q]
          exact hzl
        · rw [q]
          exact Heap.lt_size hTI
        · rw [q]
          exact Heap.lt_size hTO
        · rw [q]
          obtain ⟨_, e1, _⟩ := Sc.it_obj h1
          exact Heap.lt_size e1
        · rw [q]
          obtain ⟨_, e2, _⟩ := Sc.it_obj h2
          exact Heap.lt_size e2
      rw [upd_ne (Nat.ne_of_lt hlt)]
      exact (hf b hb).1
  done := by
    intro X hP hw hK hc i pins s σ H E I hf st hg
    subst hP hw hK
    obtain ⟨hz, hTI, ⟨x0, y0, hTO⟩, h1, h2⟩ := st
    obtain ⟨xs, ys, hqx, hqy, hl1, hl2, hend⟩ := hg
    obtain ⟨its, rv, p⟩ := Sc.of I hqx
    obtain ⟨its2, rv2, p2⟩ := Sc.of I hqy
    have nc : ∀ b ∈ [z, TI, TO, i1, i2], c.addr ≠ b := fun b hb => Sc.ne I hqx (hf b hb)
    have nd : ∀ b ∈ [z, TI, TO, i1, i2], d.addr ≠ b := fun b hb => Sc.ne I hqy (hf b hb)
    have S := D.sep (nc z (by simp)) (nc TO (by simp)) (nc i2 (by simp)) (nd z (by simp)) (nd TO (by simp)) (nd i1 (by simp))
    have e1 := rv.length
    have e2 := rv2.length
    refine wpAny_pyNext_zipD2_end (i := i) S (Sc.draws (A := X.A.in1) (I.ok.hd hc) c i1 (nc i1 (by simp)) its.toArray) (Sc.draws (A := X.A.in1) (I.ok.hd hc) d i2 (nd i2 (by simp)) its2.toArray) hz hTI hTO ⟨h1, p⟩ ⟨h2, p2⟩ (by simp; omega) (by simp; omega) (by simp; omega) fun h' tk hk => ⟨rfl, ?_⟩
    have keep : ∀ b o, b ∉ [z, TI, TO, i1, i2] → s.heap.get? b = some o → h'.get? b = some o := fun b o hb q => hk b o (fun q' => hb (by simp [q'])) (fun q' => hb (by simp [q'])) (fun q' => hb (by simp [q'])) (fun q' => hb (by simp [q'])) q
    exact I.turnedL (t' := tk) keep hf
  self := fun A i s Q E st h => wpAny_pyIter_zip st.1 h
theorem pi_zipS {X : Cx} {e e2 : Expr} {ta : TA} {p pos tpos : Pos} {elts : List Expr} {kk : Nat} (hg : Gl X "zip") (hm : X.mg "zip" = none) (ha : PA X [e, e2] ta)
    (hs : starEach [e, e2] X.env = (false, eval e X.env) :: starEach [e2] X.env := by rfl) (hpl : (backTo pos (starEach [e2] X.env)).any (·.1) = false := by rfl) :
    PI X (.Tuple elts kk tpos) (.Call (.Name "zip" p) [e, e2] [] pos) (fun σ H R => ta σ H fun vs H1 => ∃ c d xs ys, vs = [.ref (Sc.addr c), .ref (Sc.addr d)] ∧ c.sq X.K H1 xs ∧ d.sq X.K H1 ys ∧ R (IzS X.K c d) H1) := by
  refine ⟨fun pins s σ H R I h => ?_⟩
  refine Call_ (ld_blt I hg hm PyProof.Rows.boot_zip (PyProof.Rows.callWith_type1 (thn (ha.run pos pins s σ H _ I h) fun us s1 ⟨vs, H1, I1, r1, q1⟩ => ?_) hs hpl))
  obtain ⟨c, d, xs, ys, ex, hqx, hqy, q⟩ := q1
  subst ex
  cases r1 with
  | cons r rr =>
    cases rr with
    | cons r2 rr =>
      cases rr
      cases r
      cases r2
      obtain ⟨its, rv, p1⟩ := Sc.of I1 hqx
      obtain ⟨its2, rv2, p2⟩ := Sc.of I1 hqy
      refine zip_begins2 (c.begins its.toArray) (d.begins its2.toArray) p1 p2 fun h' hz hTI hTO h1 h2 hsz hk => wpAny_pyIter_zip hz ?_
      have I2 : Inv X pins σ H1 { s1 with heap := h' } := I1.kept (t' := s1.toks) hk
      have ne : ∀ i j : Nat, i ≠ j → s1.heap.objs.size + i ≠ s1.heap.objs.size + j := fun i j h e => h (Nat.add_left_cancel e)
      have ne0 : ∀ i : Nat, i ≠ 0 → s1.heap.objs.size + i ≠ s1.heap.objs.size := fun i h e => h (Nat.add_left_cancel (e.trans (Nat.add_zero _).symm))
      refine ⟨s1.heap.objs.size + 4, [s1.heap.objs.size + 4, s1.heap.objs.size + 2, s1.heap.objs.size + 3, s1.heap.objs.size, s1.heap.objs.size + 1], _, _, H1, rfl, I2,
        turnZip c d (z := s1.heap.objs.size + 4) (TI := s1.heap.objs.size + 2) (TO := s1.heap.objs.size + 3) (i1 := s1.heap.objs.size) (i2 := s1.heap.objs.size + 1)
          ⟨ne 2 4 (by decide), ne 3 4 (by decide), ne 2 3 (by decide), ne0 2 (by decide), ne 2 1 (by decide), ne0 4 (by decide), ne 4 1 (by decide), ne0 3 (by decide), ne 3 1 (by decide), Ne.symm (ne0 1 (by decide))⟩,
        ⟨hz, hTI, ⟨_, _, hTO⟩, Sc.it_first h1, Sc.it_first h2⟩, fun b hb => ?_, q⟩
      have hle : s1.heap.objs.size ≤ b := by
        have e' : b = s1.heap.objs.size + 4 ∨ b = s1.heap.objs.size + 2 ∨ b = s1.heap.objs.size + 3 ∨ b = s1.heap.objs.size ∨ b = s1.heap.objs.size + 1 := by simpa using hb
        rcases e' with z | z | z | z | z <;> rw [z] <;> first | exact Nat.le_refl _ | exact Nat.le_add_right _ _
      exact I1.fpOk hle (I1.hok.fresh hle)
/-! ### .. in the mirror -/
def seqStill : Val → Option (List Val)
  | .lst xs => some xs
  | .rol xs => some xs
  | .tup xs => some xs
  | _ => none
section
variable {k : Kx} {W : Wd} {H : Hp} {a : Val} {x : V} {xs : List Val}
theorem seqStill_rep (r : RepV k W H a x) (e : seqStill a = some xs) : ∃ c vs, x = .ref (Sc.addr c) ∧ (∀ W' H', Le W W' H H' → c.sq k.K H' vs) ∧ RepL k W H xs vs := by
  cases a with
  | lst ys =>
    cases e
    obtain ⟨p, vs, e1, f, s, r⟩ := r
    exact ⟨.l p, vs, e1, fun W' H' l => .inl (.inl (l.keep _ _ s f)), r⟩
  | rol ys =>
    cases e
    obtain ⟨p, vs, e1, s, r⟩ := r
    refine ⟨.l p, vs, e1, fun W' H' l => ?_, r⟩
    rcases s with ⟨u, s⟩ | s
    · exact .inl (.inr ⟨u, l.imm _ _ s trivial⟩)
    · exact SqL.ro s
  | tup ys =>
    cases e
    obtain ⟨p, vs, e1, s, r⟩ := r
    exact ⟨.t p, vs, e1, fun W' H' l => l.sqT s, r⟩
  | _ => cases e
theorem walks_enum {c : Sc} {vs : List V} (hs : ∀ W' H', Le W W' H H' → c.sq k.K H' vs) (r : RepL k W H xs vs) : Walks k W H (pairs xs) (IteS k.K c) := fun W' H' st l o =>
  ⟨⟨vs, hs W' H' l, by unfold pairs; rw [r.len]; simp⟩, fun i y e => by
    unfold pairs at e
    rw [List.getElem?_map, List.getElem?_zipIdx] at e
    cases q : xs[i]? with
    | none =>
      rw [q] at e
      cases e
    | some z =>
      rw [q] at e
      cases e
      obtain ⟨v, ev, rv⟩ := r.get q
      refine ⟨⟨vs, v, hs W' H' l, ev⟩, fun u H'' y => ?_⟩
      obtain ⟨T, v', e1, hT, e2, e3⟩ := y
      have e4 : v = v' := Option.some.inj (ev.symm.trans (e3 vs (hs W' H' l)))
      subst e1 e2 e4
      refine ⟨W', Le.new hT, o.new hT, T, _, rfl, .inl (.inl upd_same), ?_⟩
      exact RepL.cons (by show V.int _ = V.int _; simp) (RepL.cons ((rv.le l).le (Le.new hT)) (show RepL k _ _ [] [] from rfl))⟩
theorem walks_zip {c d : Sc} {ys : List Val} {vs us : List V} (hs : ∀ W' H', Le W W' H H' → c.sq k.K H' vs) (hs2 : ∀ W' H', Le W W' H H' → d.sq k.K H' us) (r : RepL k W H xs vs) (r2 : RepL k W H ys us) :
    Walks k W H ((xs.zip ys).map fun p => .tup [p.1, p.2]) (IzS k.K c d) := fun W' H' st l o =>
  ⟨⟨vs, us, hs W' H' l, hs2 W' H' l, by rw [r.len]; simp; omega, by rw [r2.len]; simp; omega, by rw [r.len, r2.len]; simp; omega⟩, fun i y e => by
    rw [List.getElem?_map] at e
    cases q : (xs.zip ys)[i]? with
    | none =>
      rw [q] at e
      cases e
    | some z =>
      rw [q] at e
      cases e
      obtain ⟨q1, q2⟩ := List.getElem?_zip_eq_some.mp q
      obtain ⟨v, ev, rv⟩ := r.get q1
      obtain ⟨u, eu, ru⟩ := r2.get q2
      refine ⟨⟨vs, us, v, u, hs W' H' l, hs2 W' H' l, ev, eu⟩, fun t H'' y => ?_⟩
      obtain ⟨T, v', u', e1, hT, e2, e3, e4⟩ := y
      have e5 : v = v' := Option.some.inj (ev.symm.trans (e3 vs (hs W' H' l)))
      have e6 : u = u' := Option.some.inj (eu.symm.trans (e4 us (hs2 W' H' l)))
      subst e1 e2 e5 e6
      refine ⟨W', Le.new hT, o.new hT, T, _, rfl, .inl (.inl upd_same), ?_⟩
      exact RepL.cons ((rv.le l).le (Le.new hT)) (RepL.cons ((ru.le l).le (Le.new hT)) (show RepL k _ _ [] [] from rfl))⟩
end
def enumM (ms : M (List Val)) : M (List Val) := bnd ms fun as => lift fun _ => match as with
  | [a] => (seqStill a).map pairs
  | _ => none
def zipM (ms : M (List Val)) : M (List Val) := bnd ms fun as => lift fun _ => match as with
  | [a, b] => match seqStill a, seqStill b with
    | some xs, some ys => some ((xs.zip ys).map fun p => .tup [p.1, p.2])
    | _, _ => none
  | _ => none
section
variable {X : Cx} {k : Kx} {E : WX}
theorem mi_enum {e : Expr} {ms : M (List Val)} {p pos tpos : Pos} {elts : List Expr} {kk : Nat} (hg : Gl X "enumerate") (hm : X.mg "enumerate" = none) (ha : PA X [e] (tMa k E ms)) (hs : starEach [e] X.env = [(false, eval e X.env)] := by rfl) (hk : X.K = k.K := by rfl) :
    PI X (.Tuple elts kk tpos) (.Call (.Name "enumerate" p) [e] [] pos) (tMi k E (enumM ms)) :=
  impI (pi_enumS hg hm ha hs) fun σ H R q => tG.mono (tG.bnd (R1 := RepL k) q) fun vs H1 ⟨W, as, ra, h1⟩ => by
    rw [hk]
    obtain ⟨c, st, e, o, q⟩ := h1.lift
    split at e
    · rename_i a
      obtain ⟨v, rfl, r1⟩ := rep1 ra
      cases h : seqStill a with
      | none =>
        rw [h] at e
        cases e
      | some xs =>
        rw [h] at e
        cases e
        obtain ⟨c, us, e1, hs, r⟩ := seqStill_rep r1 h
        exact ⟨c, us, by rw [e1], hs W H1 (Le.refl _ _), q W H1 _ (Le.refl _ _) o (walks_enum hs r)⟩
    · cases e
theorem mi_zip {e e2 : Expr} {ms : M (List Val)} {p pos tpos : Pos} {elts : List Expr} {kk : Nat} (hg : Gl X "zip") (hm : X.mg "zip" = none) (ha : PA X [e, e2] (tMa k E ms))
    (hs : starEach [e, e2] X.env = (false, eval e X.env) :: starEach [e2] X.env := by rfl) (hpl : (backTo pos (starEach [e2] X.env)).any (·.1) = false := by rfl) (hk : X.K = k.K := by rfl) :
    PI X (.Tuple elts kk tpos) (.Call (.Name "zip" p) [e, e2] [] pos) (tMi k E (zipM ms)) :=
  impI (pi_zipS hg hm ha hs hpl) fun σ H R q => tG.mono (tG.bnd (R1 := RepL k) q) fun vs H1 ⟨W, as, ra, h1⟩ => by
    rw [hk]
    obtain ⟨c, st, e, o, q⟩ := h1.lift
    split at e
    · rename_i a b
      obtain ⟨v, u, rfl, r1, r2⟩ := rep2 ra
      split at e
      · rename_i xs ys hx hy
        cases e
        obtain ⟨c, us, e1, hs, r⟩ := seqStill_rep r1 hx
        obtain ⟨d, ws, e2, hs2, r'⟩ := seqStill_rep r2 hy
        exact ⟨c, d, us, ws, by rw [e1, e2], hs W H1 (Le.refl _ _), hs2 W H1 (Le.refl _ _), q W H1 _ (Le.refl _ _) o (walks_zip hs hs2 r r')⟩
      · cases e
    · cases e
end
/-! ### isinstance: which classes -/
def noOwn : Str → Option Bool := fun _ => none
def tyNames : List String := ["NoneType", "bool", "int", "str", "tuple", "list"]
def isiT (T : String) (n : String) : Option Bool := if n ∈ tyNames then some (n == T || (n == "bool" && T == "int")) else none
def isiT2 (T U : String) (n : String) : Option Bool := if n ∈ tyNames then some ((n == T || (n == "bool" && T == "int")) || (n == U || (n == "bool" && U == "int"))) else none
theorem isiT_ok {K : PySem.W.Frag} {T : String} (h : (tyNames.all fun n => kitB n T == some (n == T || (n == "bool" && T == "int"))) = true) : ∀ n b, isiT T n = some b → PySem.W.kitOne K (.type n) (.type T) = some b := fun n b e => by
  unfold isiT at e
  split at e
  · rename_i hn
    cases e
    have q := List.all_eq_true.mp h n hn
    exact kit_ty (by simpa using q)
  · cases e
theorem isiT2_ok {K : PySem.W.Frag} {T U : String} (h : (tyNames.all fun n => kitB n T == some (n == T || (n == "bool" && T == "int")) && kitB n U == some (n == U || (n == "bool" && U == "int"))) = true) : ∀ n b, isiT2 T U n = some b → PySem.W.kitAny K (.type n) [.type T, .type U] = some b := fun n b e => by
  unfold isiT2 at e
  split at e
  · rename_i hn
    cases e
    have q := Bool.and_eq_true_iff.mp (List.all_eq_true.mp h n hn)
    have q1 : PySem.W.kitOne K (.type n) (.type T) = some _ := kit_ty (by simpa using q.1)
    have q2 : PySem.W.kitOne K (.type n) (.type U) = some _ := kit_ty (by simpa using q.2)
    refine kitAny_cons q1 (fun e1 => ?_) (fun e1 => by rw [e1]; rfl)
    rw [e1]
    exact kitAny_cons q2 (fun e2 => by rw [e2]; exact kitAny_nil) (fun e2 => by rw [e2]; rfl)
  · cases e
/-! ### a reversed copy that will be changed -/
end Mi
namespace Mi
open PySem PySem.Spec PyProof.Rows L2
/-! ### the law's own call: its frame lies right on the caller's, and nothing is being shown (guards) -/
/-- a def's body, run around A alone -/
theorem run_at {P : Program} {w : World} {K : PySem.W.Frag} {mg : Str → Option Value} {base : Heap} {x qual : Str} {st : Stmt} {f : Addr} {fd : FuncData} {N ps : List Str} {j : Nat} {A : Around} {outer : List PySem.Env} {s0 : Shared} {H : Hp} {args : Args} {us : List Value} {vs : List V} {Q : VK} {E : XK} {t : TS}
    (F : Fun K x qual st f fd) (S : FnScope N ps (defScope st)) (hl : vs.length = ps.length) (hr : Room (j + 1) A) (e0 : Env0 P w K mg base A outer s0 H) (hb : BindsTo s0 fd args (ps.zip us)) (rv : Vals vs us)
    (body : ∀ cdv : Value, Room j (A.deeper (envOfC qual (defScope st) s0.heap.objs.size f cdv)) → PSs (cxOf (L2.CX P w) P w K mg base N qual (defScope st) f cdv A outer s0 H E) (defBody st) t)
    (ht : t { nx := fun _ H' => Q .non H', rt := Q } (L2.start N vs) H) : codeAny (model P w) A (.call (.ref f) args) (CR (L2.CX P w) outer P w H s0 Q E) s0 := by
  obtain ⟨oc, od, kV, doc, pm, an, cdv, ct, osl, rfl, lk, hcd⟩ := F.ex
  have stays : ∀ b o, base.get? b = some o → s0.heap.get? b = some o := fun b o q => (e0.bs b o q).1
  have KX : K.In s0.heap := e0.mod.kin.keeps stays
  refine codeAny_call_function hr.depth (KX _ _ lk) rfl S.co S.gen rfl (PySem.W.codeRec_of KX hcd) (hb _ _ _ _ ?_)
  refine wpAny_newFunctionEnv_cells S.kind (fun y hy => ?_) fun env he s1 ic => ?_
  · rcases S.par y.1 (List.of_mem_zip (show (y.1, y.2) ∈ ps.zip us from hy)).1 with q | q
    · exact .inl q
    · exact .inr ⟨q, PySem.W.cellsFrom_some _ _ _ (.inl q)⟩
  subst he
  refine ⟨(e0.mod.nolimit.keeps stays).keeps ic.toInCall.keep, codeAny_func ?_⟩
  have I := inv_start (CX := L2.CX P w) (E := E) S hr.hd e0 hl rv ic
  refine wpAny_mono ((body cdv (hr.deeper _)).run [] s1 _ H _ I ht) (fun fl s' hs => ?_) fun _ _ hs => hs
  cases fl with
  | ret u =>
    obtain ⟨v, σ', H', J, r, q⟩ := hs
    exact ⟨v, H', J.os, J.bare, J.base, J.hok, r, q⟩
  | next =>
    obtain ⟨σ', H', J, q⟩ := hs
    exact ⟨.non, H', J.os, J.bare, J.base, J.hok, rfl, q⟩
  | brk =>
    obtain ⟨_, _, _, q⟩ := hs
    exact q.elim
  | cont =>
    obtain ⟨_, _, _, q⟩ := hs
    exact q.elim
theorem caller_room {j : Nat} (h : j ≤ 40) : Room j callerA := by
  have r : Room 40 callerA := ⟨rfl, by decide, by decide⟩
  exact r.mono h
/-- from the call's run to the law's end -/
theorem law_at {P : Program} {w : World} {K : PySem.W.Frag} {mg mb : Str → Option Value} {fa a : Addr} {s : Shared} {vs : List Value} {ns : List Int} (KX : K.In s.heap) (hns : s.heap.Ns mainGlobals mg) (hb : s.heap.Ns builtinsNs mb) (hbb : ∀ x : Str, x ≠ "__name__" → mb x = bootBuiltins x)
    (hlim : s.heap.NoLimit) (hg : s.gens = #[]) (ha : s.heap.get? a = some { cls := .type "list", data := .seq vs.toArray }) (hi : IntsAre vs ns) (hl : ns.length ≤ sizeLine)
    (run : ∀ (base : Heap) (H : Hp), K.In base → base.Ns mainGlobals mg → Env0 P w K mg base callerA [] s H → Only H → SqL K H a (ns.map V.int) →
      codeAny (model P w) callerA (.call (.ref fa) ⟨[.ref a], []⟩) (CR (L2.CX P w) [] P w H s (fun v _ => v = .bl true) fun _ _ _ => False) s) :
    codeAny (model P w) callerA (.call (.ref fa) ⟨[.ref a], []⟩) (fun r s' => r = .ok (.ret (.bool true)) ∧ OldK s.heap s'.heap ∧ s'.os = s.os ∧ AllBare s'.gens) s := by
  -- what is tracked at the entry: nothing, or the script alone
  suffices main : ∀ H : Hp, Only H → SqL K H a (ns.map V.int) → HOk P w H s.heap → (∀ b u, H b = some u → b = a ∧ K.lookup a = none) →
      codeAny (model P w) callerA (.call (.ref fa) ⟨[.ref a], []⟩) (fun r s' => r = .ok (.ret (.bool true)) ∧ OldK s.heap s'.heap ∧ s'.os = s.os ∧ AllBare s'.gens) s by
    have rv := vals_ints hi
    have lenV := hi.length
    cases hk : K.lookup a with
    | some o =>
      have e := KX a o hk
      rw [ha] at e
      cases e
      refine main (fun _ => none) (fun _ => .inl rfl) (.inr ⟨_, vs.toArray, _, hk, rfl, rfl, rfl, ?_, ?_⟩) (fun b u z => nomatch z) fun b u z => nomatch z
      · rw [List.size_toArray, lenV]
        exact hl
      · simpa using rv
    | none =>
      have only : ∀ b, (if b = a then some (HO.frz { cls := .type "list", data := .seq vs.toArray } (.lst (ns.map V.int))) else none) = none ∨ b = a := fun b => by
        by_cases h : b = a
        · exact .inr h
        · exact .inl (if_neg h)
      refine main (fun b => if b = a then some (.frz { cls := .type "list", data := .seq vs.toArray } (.lst (ns.map V.int))) else none) (fun b => ?_) (.inl (.inr ⟨_, if_pos rfl⟩)) (fun b u z => ?_) fun b u z => ?_
      · by_cases h : b = a
        · exact .inr ⟨_, _, if_pos h⟩
        · exact .inl (if_neg h)
      · by_cases h : b = a
        · subst h
          have z' := (if_pos rfl).symm.trans z
          cases z'
          exact ⟨ha, by rw [List.length_map]; exact hl, vs, _, rv, ha⟩
        · have z' := (if_neg h).symm.trans z
          cases z'
      · by_cases h : b = a
        · exact ⟨h, hk⟩
        · have z' := (if_neg h).symm.trans z
          cases z'
  intro H hO hS hok hA
  have lay : ∀ {b : Addr} {o : Obj}, s.heap.get? b = some o → H b = none → (hidT s.heap H).get? b = some o := fun q n => hidT_get q n
  have free : ∀ {b : Addr} {m : Str → Option Value}, s.heap.Ns b m → H b = none := fun {b m} ⟨o, es, ep, q, d, _⟩ => by
    cases z : H b with
    | none => rfl
    | some u =>
      obtain ⟨e, _⟩ := hA b u z
      subst e
      rw [ha] at q
      cases q
      cases (show Data.seq vs.toArray _ = Data.dict es ep from d)
  have ns' : ∀ {b : Addr} {m : Str → Option Value}, s.heap.Ns b m → (hidT s.heap H).Ns b m := fun {b m} x => by
    have n := free x
    obtain ⟨o, es, ep, q, d⟩ := x
    exact ⟨o, es, ep, lay q n, d⟩
  have kb : K.In (hidT s.heap H) := fun b o q => lay (KX b o q) (by
    cases z : H b with
    | none => rfl
    | some u =>
      obtain ⟨e, n⟩ := hA b u z
      rw [e, n] at q
      cases q)
  obtain ⟨mc, c1, c2⟩ := hlim
  have e0 : Env0 P w K mg (hidT s.heap H) callerA [] s H := ⟨rfl, ⟨kb, ns' hns, ⟨mb, ns' hb, hbb⟩, ⟨mc, ns' c1, c2⟩⟩, fun b o q => of_hidT q, Nat.le_of_eq (hidT_size _ _), trivial, fun b m => absurd (show b ∈ ([] : List Addr) from m) (by simp), hok, .of_eq hg⟩
  refine codeAny_mono (run _ H kb (ns' hns) e0 hO hS) fun r s' h => ?_
  cases r with
  | error e =>
    obtain ⟨_, _, _, _, _, _, _, _, _, _, _, _, z⟩ := h
    exact z.elim
  | ok fl =>
    cases fl with
    | next => exact False.elim h
    | brk => exact False.elim h
    | cont => exact False.elim h
    | ret u =>
      obtain ⟨v, H', os, bare, un, hok', r, q⟩ := h
      cases (show v = .bl true from q)
      cases (show u = Value.bool true from r)
      refine ⟨rfl, OldK.of_keep fun b o q => ?_, os, bare⟩
      cases z : H b with
      | none => exact un.keep b o q z (fun m => absurd (show b ∈ ([] : List Addr) from m) (by simp)) (by simp)
      | some u =>
        rcases hO b with n | ⟨ob, xs, n⟩
        · rw [z] at n
          cases n
        · have same := (hok b _ n).1
          rw [q] at same
          cases same
          exact (hok' b _ (un.frzs b _ _ n)).1
/-- the end: the law's mirror says True -/
theorem walk_law {l : PySem.W.OpenLaw} {n j : Nat} {q : Program} {loose : List Str} {XP : (Str → Option Value) → Heap → Prop} {YP : World → Heap → Prop} {d : DefRec} {K : Params → PySem.W.Frag} {x : Str} {st : Stmt} {N : List Str} {s : S} {cl : World → Str → Addr}
    (hn : l.most = some n) (hn2 : n ≤ sizeLine) (hdf : d.params.defaults = []) (hj : j + 1 ≤ 40) (hY : ∀ (w : World) (h : Heap), YP w h → (K w.params).In h) (Sc : FnScope N [x] (defScope st))
    (F : ∀ (w : World) (mg : Str → Option Value) (fa : Addr) (h : Heap), (K w.params).In h → h.Ns mainGlobals mg → mg d.name = some (.ref fa) →
      ∃ fd : FuncData, Fun (K w.params) "law" "law" st fa fd ∧ (∀ (s : Shared) (u : Value), BindsTo s fd ⟨[u], []⟩ [(x, u)]) ∧ ∃ cl : Str → Addr, ∀ (base : Heap) (cdv : Value) (A : Around) (outer : List PySem.Env) (s0 : Shared) (H : Hp) (E : XK),
        A.guards = some [] → Room j (A.deeper (envOfC "law" (defScope st) s0.heap.objs.size fa cdv)) →
          PSs (cxOf (L2.CX l.prog w) l.prog w (K w.params) mg base N "law" (defScope st) fa cdv A outer s0 H E) (defBody st) (tS ⟨K w.params, cl, none, w⟩ (fun c d _ H' => E c d H') s))
    (hs : ∀ ns : List Int, ns.length ≤ n → (∀ i ∈ ns, Builtin.Int.intBits i ≤ 1048576) → ∃ env st', s (env0 N.length [.rol (ns.map .int)]) [] = some (.ret (.bl true), env, st')) :
    PySem.W.WalkO q loose XP YP l.row.toRowW d [] (fun f vs => PySem.call f vs) := by
  refine Att.attach_callB hn hdf fun w s₀ s₁ mg mb fa o pm cd doc a vs ns G Y ho hd hcd hmg hobj hints hlen hbits hg => ?_
  have KX := hY w _ Y
  obtain ⟨fd, FF, hb, cl, hF⟩ := F w mg fa _ KX G.T.g hmg
  refine law_at KX G.T.g G.T.b G.T.builtins G.T.nolimit hg hobj hints (Nat.le_trans hlen hn2) fun base H kb nb e0 hO hS => ?_
  obtain ⟨env, st', es⟩ := hs ns hlen hbits
  refine run_at (j := j) (ps := [x]) (vs := [.ref a]) (us := [.ref a]) FF Sc rfl (caller_room hj) e0 (hb _ _) (.cons rfl .nil) (fun cdv hr => hF base cdv callerA [] s₁ H _ rfl hr) ?_
  have hRo : RoL ⟨K w.params, cl, none, w⟩ H a (ns.map V.int) := by
    rcases hS with (h | h) | h
    · rcases hO a with z | ⟨ob, xs, z⟩
      · rw [h] at z
        cases z
      · rw [h] at z
        cases z
    · exact .inl h
    · exact .inr (.inr h)
  refine ⟨⟨[], fun _ => False⟩, _, [], _, ⟨List.nodup_nil, rfl, fun _ z => z.elim, fun _ _ z => z, fun i o p e => ?_⟩, RepE.begin (us := [.rol (ns.map .int)]) (RepL.cons ⟨a, ns.map V.int, rfl, hRo, RepL.map (f := Val.int) (g := V.int) (fun _ => rfl) _⟩ (show RepL _ _ _ [] [] from rfl)), es, ?_⟩
  · rw [List.getElem?_nil] at e
    cases e
  · exact fun W' H' u l o r => r
/-! ### repr -/
end Mi
namespace Mi
open PySem L2
/-! ### running the mirror -/
section
variable {α β : Type} {env e1 : Env} {st s1 : Sto} {a : α}
theorem bnd_ok {m : M α} {f : α → M β} (h : m env st = some (.ok a, s1)) : bnd m f env st = f a env s1 := by
  unfold bnd
  rw [h]
theorem sBnd_ok {m : M α} {f : α → S} (h : m env st = some (.ok a, s1)) : sBnd m f env st = f a env s1 := by
  unfold sBnd
  rw [h]
theorem sSeq_next {x y : S} (h : x env st = some (.next, e1, s1)) : sSeq x y env st = y e1 s1 := by
  unfold sSeq
  rw [h]
theorem sSeq_ret {x y : S} {v : Val} (h : x env st = some (.ret v, e1, s1)) : sSeq x y env st = some (.ret v, e1, s1) := by
  unfold sSeq
  rw [h]
theorem sSet_ok {m : M Val} {i : Nat} {v : Val} (h : m env st = some (.ok v, s1)) : sSet i m env st = some (.next, env.set i (some v), s1) := sBnd_ok h
theorem sRet_ok {m : M Val} {v : Val} (h : m env st = some (.ok v, s1)) : sRet m env st = some (.ret v, env, s1) := sBnd_ok h
theorem sExpr_ok {m : M Val} {v : Val} (h : m env st = some (.ok v, s1)) : sExpr m env st = some (.next, env, s1) := sBnd_ok h
theorem sIf_true {c : M Bool} {x y : S} (h : c env st = some (.ok true, s1)) : sIf c x y env st = x env s1 := by
  unfold sIf
  rw [sBnd_ok h]
  rfl
theorem sIf_false {c : M Bool} {x y : S} (h : c env st = some (.ok false, s1)) : sIf c x y env st = y env s1 := by
  unfold sIf
  rw [sBnd_ok h]
  rfl
theorem lift_ok {o : Sto → Option α} (h : o st = some a) : lift o env st = some (.ok a, st) := by
  unfold lift
  rw [h]
  rfl
theorem liftS_ok {o : Sto → Option (α × Sto)} (h : o st = some (a, s1)) : liftS o env st = some (.ok a, s1) := by
  unfold liftS
  rw [h]
  rfl
theorem bin_ok {f : Sto → Val → Val → Option Val} {ma mb : M Val} {x y z : Val} {s2 : Sto} (ha : ma env st = some (.ok x, s1)) (hb : mb env s1 = some (.ok y, s2)) (hf : f s2 x y = some z) : bin f ma mb env st = some (.ok z, s2) := by
  unfold bin
  rw [bnd_ok ha, bnd_ok hb]
  exact lift_ok hf
theorem un_ok {f : Sto → Val → Option Val} {ma : M Val} {x z : Val} (ha : ma env st = some (.ok x, s1)) (hf : f s1 x = some z) : un f ma env st = some (.ok z, s1) := by
  unfold un
  rw [bnd_ok ha]
  exact lift_ok hf
theorem asB_ok {m : M Val} {b : Bool} (h : m env st = some (.ok (.bl b), s1)) : asB m env st = some (.ok b, s1) := by
  unfold asB
  rw [bnd_ok h]
  rfl
theorem consM_ok {m : M Val} {ms : M (List Val)} {v : Val} {vs : List Val} {s2 : Sto} (h : m env st = some (.ok v, s1)) (h2 : ms env s1 = some (.ok vs, s2)) : consM m ms env st = some (.ok (v :: vs), s2) := by
  unfold consM
  rw [bnd_ok h, bnd_ok h2]
  rfl
theorem nilM_ok : nilM env st = some (.ok [], st) := rfl
theorem app_ok {f : Sto → List Val → Option Val} {ms : M (List Val)} {vs : List Val} {z : Val} (h : ms env st = some (.ok vs, s1)) (hf : f s1 vs = some z) : app f ms env st = some (.ok z, s1) := by
  unfold app
  rw [bnd_ok h]
  exact lift_ok hf
theorem ifV_true {c : M Bool} {x y : M Val} (h : c env st = some (.ok true, s1)) : ifV c x y env st = x env s1 := by
  unfold ifV
  rw [bnd_ok h]
  rfl
theorem ifV_false {c : M Bool} {x y : M Val} (h : c env st = some (.ok false, s1)) : ifV c x y env st = y env s1 := by
  unfold ifV
  rw [bnd_ok h]
  rfl
theorem mkTup_ok {ms : M (List Val)} {vs : List Val} (h : ms env st = some (.ok vs, s1)) (hl : vs.length ≤ LIM) : mkTup ms env st = some (.ok (.tup vs), s1) := by
  unfold mkTup
  rw [bnd_ok h]
  exact lift_ok (if_pos hl)
theorem mkLst_ok {ms : M (List Val)} {vs : List Val} (h : ms env st = some (.ok vs, s1)) (hl : vs.length ≤ LIM) : mkLst ms env st = some (.ok (.lst vs), s1) := by
  unfold mkLst
  rw [bnd_ok h]
  exact lift_ok (if_pos hl)
theorem mkLstM_ok {ms : M (List Val)} {vs : List Val} (h : ms env st = some (.ok vs, s1)) (hl : vs.length ≤ LIM) : mkLstM ms env st = some (.ok (.ref s1.length), s1 ++ [.lst vs]) := by
  unfold mkLstM
  rw [bnd_ok h]
  exact liftS_ok (if_pos hl)
end
/-! ### == -/
theorem eqV_int (st : Sto) (i j : Int) : eqV st (.int i) (.int j) = some (.bl (i == j)) := rfl
theorem eqV_str {st : Sto} {x y : Str} : eqV st (.str x) (.str y) = some (.bl (x == y)) := rfl
theorem neV_str {st : Sto} {x y : Str} : neV st (.str x) (.str y) = some (.bl (!(x == y))) := rfl
/-! ### loops and comprehensions -/
theorem loop_inv {t : Tg} {body : S} (I : Nat → Env → Sto → Prop) : ∀ (xs : List Val) (n : Nat) {env : Env} {st : Sto}, I n env st →
    (∀ i x env st, xs[i]? = some x → I (n + i) env st → ∃ env1, bindT t x env = some env1 ∧ ∃ env2 st2, (body env1 st = some (.next, env2, st2) ∨ body env1 st = some (.cont, env2, st2)) ∧ I (n + i + 1) env2 st2) →
    ∃ env' st', loop t body xs env st = some (.next, env', st') ∧ I (n + xs.length) env' st'
  | [], n, env, st, h0, _ => ⟨env, st, rfl, h0⟩
  | x :: xs, n, env, st, h0, hs => by
    obtain ⟨env1, e1, env2, st2, eb, h1⟩ := hs 0 x env st rfl h0
    obtain ⟨env', st', e2, h2⟩ := loop_inv I xs (n + 1) (env := env2) (st := st2) h1 fun i y env st hy hI => by
      have hI' : I (n + (i + 1)) env st := by
        rw [show n + (i + 1) = n + 1 + i by omega]
        exact hI
      obtain ⟨a, b, c, d, e, f⟩ := hs (i + 1) y env st hy hI'
      refine ⟨a, b, c, d, e, ?_⟩
      rw [show n + 1 + i + 1 = n + (i + 1) + 1 by omega]
      exact f
    refine ⟨env', st', ?_, ?_⟩
    · unfold loop
      rw [e1]
      dsimp only
      rcases eb with eb | eb
      · rw [eb]
        exact e2
      · rw [eb]
        exact e2
    · rw [List.length_cons, show n + (xs.length + 1) = n + 1 + xs.length by omega]
      exact h2
theorem sFor_inv {mi : M (List Val)} {t : Tg} {body : S} (I : Nat → Env → Sto → Prop) {xs : List Val} {env : Env} {st s1 : Sto} (hm : mi env st = some (.ok xs, s1)) (h0 : I 0 env s1)
    (hs : ∀ i x env st, xs[i]? = some x → I i env st → ∃ env1, bindT t x env = some env1 ∧ ∃ env2 st2, (body env1 st = some (.next, env2, st2) ∨ body env1 st = some (.cont, env2, st2)) ∧ I (i + 1) env2 st2) :
    ∃ env' st', sFor mi t body env st = some (.next, env', st') ∧ I xs.length env' st' := by
  obtain ⟨e, s, h1, h2⟩ := loop_inv I xs 0 h0 fun i x env st hx hI => by
    have hI' : I i env st := by simpa using hI
    obtain ⟨a, b, c, d, e, f⟩ := hs i x env st hx hI'
    exact ⟨a, b, c, d, e, by simpa using f⟩
  refine ⟨e, s, ?_, by simpa using h2⟩
  unfold sFor
  rw [sBnd_ok hm]
  exact h1
theorem itS_ok {m : M Val} {env : Env} {st s1 : Sto} {v : Val} {xs : List Val} (h : m env st = some (.ok v, s1)) (hv : stillOf v = some xs) : itS m env st = some (.ok xs, s1) := by
  unfold itS
  rw [bnd_ok h]
  exact lift_ok hv
theorem enumM_ok {ms : M (List Val)} {env : Env} {st s1 : Sto} {v : Val} {xs : List Val} (h : ms env st = some (.ok [v], s1)) (hv : seqStill v = some xs) : enumM ms env st = some (.ok (pairs xs), s1) := by
  unfold enumM
  rw [bnd_ok h]
  refine lift_ok ?_
  show (seqStill v).map pairs = _
  rw [hv]
  rfl
theorem loopR_inv {t : Tg} {body : S} {a n : Nat} (I : Nat → Env → Sto → Prop)
    (hs : ∀ i env st, i < n → I i env st → ∃ xs x env1, lstAt st a = some xs ∧ xs.length = n ∧ xs[i]? = some x ∧ bindT t x env = some env1 ∧ ∃ env2 st2, (body env1 st = some (.next, env2, st2) ∨ body env1 st = some (.cont, env2, st2)) ∧ I (i + 1) env2 st2)
    (hd : ∀ env st, I n env st → ∃ xs, lstAt st a = some xs ∧ xs.length = n) : ∀ (r : Nat) {env : Env} {st : Sto}, r ≤ n → I (n - r) env st → ∃ env' st', loopR t body a n r env st = some (.next, env', st') ∧ I n env' st'
  | 0, env, st, _, h => by
    obtain ⟨xs, e1, e2⟩ := hd env st h
    refine ⟨env, st, ?_, h⟩
    unfold loopR
    rw [e1]
    dsimp only
    rw [if_pos e2]
  | r + 1, env, st, hr, h => by
    obtain ⟨xs, x, env1, e1, e2, e3, e4, env2, st2, e5, h1⟩ := hs (n - (r + 1)) env st (by omega) h
    have h1' : I (n - r) env2 st2 := by
      rw [show n - r = n - (r + 1) + 1 by omega]
      exact h1
    obtain ⟨env', st', e6, h2⟩ := loopR_inv I hs hd r (by omega) h1'
    refine ⟨env', st', ?_, h2⟩
    unfold loopR
    rw [e1]
    dsimp only
    rw [if_pos e2, e3]
    dsimp only
    rw [e4]
    dsimp only
    rcases e5 with e5 | e5
    · rw [e5]
      exact e6
    · rw [e5]
      exact e6
theorem sForR_inv {m : M Val} {t : Tg} {body : S} {a : Nat} {xs0 : List Val} {env : Env} {st s1 : Sto} (I : Nat → Env → Sto → Prop) (hm : m env st = some (.ok (.ref a), s1)) (hx : lstAt s1 a = some xs0) (h0 : I 0 env s1)
    (hs : ∀ i env st, i < xs0.length → I i env st → ∃ xs x env1, lstAt st a = some xs ∧ xs.length = xs0.length ∧ xs[i]? = some x ∧ bindT t x env = some env1 ∧ ∃ env2 st2, (body env1 st = some (.next, env2, st2) ∨ body env1 st = some (.cont, env2, st2)) ∧ I (i + 1) env2 st2)
    (hd : ∀ env st, I xs0.length env st → ∃ xs, lstAt st a = some xs ∧ xs.length = xs0.length) : ∃ env' st', sForR m t body env st = some (.next, env', st') ∧ I xs0.length env' st' := by
  obtain ⟨env', st', e, h⟩ := loopR_inv I hs hd xs0.length (Nat.le_refl _) (by rw [Nat.sub_self]; exact h0)
  refine ⟨env', st', ?_, h⟩
  unfold sForR
  rw [sBnd_ok hm]
  dsimp only
  rw [hx]
  exact e
end Mi
namespace Mi
open PySem PySem.Spec PyProof.Rows L2
/-! ### values that speak of no store object -/
mutual
def noRef : Val → Bool
  | .non | .bl _ | .int _ | .str _ => true
  | .tup xs | .lst xs | .rol xs | .tpd xs => noRefs xs
  | .ins _ _ xs => noRefs xs
  | .ref _ => false
  | .exv _ _ _ => false
  | .cls _ => true
def noRefs : List Val → Bool
  | [] => true
  | x :: xs => noRef x && noRefs xs
end
mutual
/-- nor of a frozen list -/
def still : Val → Bool
  | .non | .bl _ | .int _ | .str _ => true
  | .tup xs | .rol xs | .tpd xs => stills xs
  | .ins _ _ xs => stills xs
  | .lst _ | .ref _ => false
  | .exv _ _ _ => false
  | .cls _ => true
def stills : List Val → Bool
  | [] => true
  | x :: xs => still x && stills xs
end
/-- a callee's world ends: back in the caller's world, whose store objects the callee did not have -/
def Wd.back (W W' : Wd) (x : Addr → Prop) : Wd := ⟨W.rho, fun p => (W'.fz p ∧ p ∉ W.rho) ∨ x p⟩
section
variable {k : Kx} {W W' : Wd} {H H' : Hp} {x : Addr → Prop}
mutual
theorem RepV.back (hl : ∀ p, p ∈ W.rho → W'.fz p → ∀ C dx fs, H' p ≠ some (.ins C dx fs)) (hL : (∀ p, p ∈ W.rho → ¬ W'.fz p)) : ∀ {v : Val} {u : V}, RepV k W' H' v u → noRef v = true → RepV k (W.back W' x) H' v u
  | .non, _, h, _ => h
  | .bl _, _, h, _ => h
  | .int _, _, h, _ => h
  | .str _, _, h, _ => h
  | .tup xs, _, h, n => by
    obtain ⟨p, vs, e, s, r⟩ := h
    exact ⟨p, vs, e, s, RepL.back hl hL r n⟩
  | .lst xs, _, h, n => by
    obtain ⟨p, vs, e, f, s, r⟩ := h
    exact ⟨p, vs, e, .inl ⟨f, fun m => hL p m f⟩, s, RepL.back hl hL r n⟩
  | .rol xs, _, h, n => by
    obtain ⟨p, vs, e, s, r⟩ := h
    exact ⟨p, vs, e, s, RepL.back hl hL r n⟩
  | .ins c ks xs, _, h, n => by
    obtain ⟨p, dx, vs, e, f, s, n1, r⟩ := h
    exact ⟨p, dx, vs, e, .inl ⟨f, fun m => hL p m f⟩, s, n1, RepL.back hl hL r n⟩
  | .ref i, _, _, n => nomatch n
  | .exv _ _ _, _, _, n => nomatch n
  | .cls _, _, h, _ => h
  | .tpd xs, _, h, n => by
    obtain ⟨p, o, vs, e, s, d, r⟩ := h
    exact ⟨p, o, vs, e, s, d, RepL.back hl hL r n⟩
theorem RepL.back (hl : ∀ p, p ∈ W.rho → W'.fz p → ∀ C dx fs, H' p ≠ some (.ins C dx fs)) (hL : (∀ p, p ∈ W.rho → ¬ W'.fz p)) : ∀ {v : List Val} {u : List V}, RepL k W' H' v u → noRefs v = true → RepL k (W.back W' x) H' v u
  | [], _, h, _ => h
  | y :: ys, _, h, n => by
    obtain ⟨v, r, e, h1, h2⟩ := h
    have n' := Bool.and_eq_true_iff.mp n
    exact ⟨v, r, e, RepV.back hl hL h1 n'.1, RepL.back hl hL h2 n'.2⟩
end
mutual
theorem RepV.backS (hl : ∀ p, p ∈ W.rho → W'.fz p → ∀ C dx fs, H' p ≠ some (.ins C dx fs)) : ∀ {v : Val} {u : V}, RepV k W' H' v u → still v = true → RepV k (W.back W' x) H' v u
  | .non, _, h, _ => h
  | .bl _, _, h, _ => h
  | .int _, _, h, _ => h
  | .str _, _, h, _ => h
  | .tup xs, _, h, n => by
    obtain ⟨p, vs, e, s, r⟩ := h
    exact ⟨p, vs, e, s, RepL.backS hl r n⟩
  | .lst xs, _, h, n => nomatch n
  | .rol xs, _, h, n => by
    obtain ⟨p, vs, e, s, r⟩ := h
    exact ⟨p, vs, e, s, RepL.backS hl r n⟩
  | .ins c ks xs, _, h, n => by
    obtain ⟨p, dx, vs, e, f, s, n1, r⟩ := h
    exact ⟨p, dx, vs, e, .inl ⟨f, fun m => hl p m f _ _ _ s⟩, s, n1, RepL.backS hl r n⟩
  | .ref i, _, _, n => nomatch n
  | .exv _ _ _, _, _, n => nomatch n
  | .cls _, _, h, _ => h
  | .tpd xs, _, h, n => by
    obtain ⟨p, o, vs, e, s, d, r⟩ := h
    exact ⟨p, o, vs, e, s, d, RepL.backS hl r n⟩
theorem RepL.backS (hl : ∀ p, p ∈ W.rho → W'.fz p → ∀ C dx fs, H' p ≠ some (.ins C dx fs)) : ∀ {v : List Val} {u : List V}, RepL k W' H' v u → stills v = true → RepL k (W.back W' x) H' v u
  | [], _, h, _ => h
  | y :: ys, _, h, n => by
    obtain ⟨v, r, e, h1, h2⟩ := h
    have n' := Bool.and_eq_true_iff.mp n
    exact ⟨v, r, e, RepV.backS hl h1 n'.1, RepL.backS hl h2 n'.2⟩
end
mutual
/-- in any world that freezes as much -/
theorem RepV.other {W2 : Wd} (ef : ∀ p, W.fz p → W2.fz p) : ∀ {v : Val} {u : V}, RepV k W H v u → noRef v = true → RepV k W2 H v u
  | .non, _, h, _ => h
  | .bl _, _, h, _ => h
  | .int _, _, h, _ => h
  | .str _, _, h, _ => h
  | .tup xs, _, h, n => by
    obtain ⟨p, vs, e, s, r⟩ := h
    exact ⟨p, vs, e, s, RepL.other ef r n⟩
  | .lst xs, _, h, n => by
    obtain ⟨p, vs, e, f, s, r⟩ := h
    exact ⟨p, vs, e, ef _ f, s, RepL.other ef r n⟩
  | .rol xs, _, h, n => by
    obtain ⟨p, vs, e, s, r⟩ := h
    exact ⟨p, vs, e, s, RepL.other ef r n⟩
  | .ins c ks xs, _, h, n => by
    obtain ⟨p, dx, vs, e, f, s, n1, r⟩ := h
    exact ⟨p, dx, vs, e, ef _ f, s, n1, RepL.other ef r n⟩
  | .ref i, _, _, n => nomatch n
  | .exv _ _ _, _, _, n => nomatch n
  | .cls _, _, h, _ => h
  | .tpd xs, _, h, n => by
    obtain ⟨p, o, vs, e, s, d, r⟩ := h
    exact ⟨p, o, vs, e, s, d, RepL.other ef r n⟩
theorem RepL.other {W2 : Wd} (ef : ∀ p, W.fz p → W2.fz p) : ∀ {v : List Val} {u : List V}, RepL k W H v u → noRefs v = true → RepL k W2 H v u
  | [], _, h, _ => h
  | y :: ys, _, h, n => by
    obtain ⟨v, r, e, h1, h2⟩ := h
    have n' := Bool.and_eq_true_iff.mp n
    exact ⟨v, r, e, RepV.other ef h1 n'.1, RepL.other ef h2 n'.2⟩
end
/-- a callee's world: nothing to write at but what is new -/
def Wd.sub (W : Wd) (b : Bool) (H : Hp) (l : List Addr) : Wd := ⟨l, fun p => W.fz p ∨ (b = true ∧ p ∈ W.rho ∧ ∃ vs, H p = some (.lst vs))⟩
/-- the list that a name stands for, frozen as long as the callee runs -/
def snap (st : Sto) (a : Val) : Option Val := if noRef a then some a else match a with
  | .ref i => match st[i]? with
    | some (.lst xs) => if noRefs xs then some (.lst xs) else none
    | _ => none
  | _ => none
def snaps (st : Sto) : List Val → Option (List Val)
  | [] => some []
  | x :: xs => match snap st x, snaps st xs with
    | some y, some ys => some (y :: ys)
    | _, _ => none
theorem snap_rep {st : Sto} {a b : Val} {u : V} {l : List Addr} (o : Ok k W H st) (r : RepV k W H a u) (e : snap st a = some b) : RepV k (W.sub true H l) H b u := by
  unfold snap at e
  split at e
  · rename_i n
    cases e
    exact RepV.other (fun p f => Or.inl f) r n
  · split at e
    · rename_i i _
      split at e
      · rename_i xs hx
        split at e
        · rename_i hn
          cases e
          obtain ⟨p, rfl, hp⟩ := r
          obtain ⟨vs, hv, rv⟩ := o.obj i _ p hx hp
          exact ⟨p, vs, rfl, .inr ⟨rfl, List.mem_of_getElem? hp, vs, hv⟩, hv, RepL.other (fun p f => Or.inl f) rv hn⟩
        · cases e
      · cases e
    · cases e
theorem snaps_rep {st : Sto} {l : List Addr} (o : Ok k W H st) : ∀ {as bs : List Val} {us : List V}, RepL k W H as us → snaps st as = some bs → RepL k (W.sub true H l) H bs us
  | [], bs, us, r, e => by
    cases e
    exact r
  | a :: as, bs, us, r, e => by
    obtain ⟨v, u, rfl, r1, r2⟩ := r
    unfold snaps at e
    split at e
    · rename_i y ys h1 h2
      cases e
      exact ⟨v, u, rfl, snap_rep o r1 h1, snaps_rep o r2 h2⟩
    · cases e
theorem Ok.sub {st : Sto} {b : Bool} (o : Ok k W H st) : Ok k (W.sub b H []) H [] := by
  refine ⟨List.nodup_nil, rfl, fun p f => ?_, fun p m => ?_, fun i u q e => ?_⟩
  · rcases f with f | ⟨_, _, vs, e⟩
    · exact o.fzs p f
    · rw [e]
      exact fun z => nomatch z
  · exact nomatch m
  · rw [List.getElem?_nil] at e
    cases e
/-- back in the caller's world -/
theorem Ok.back {st : Sto} {b : Bool} {l : List Addr} {H0 : Hp} (o : Ok k W H st) (hH : ∀ p u, H p = some u → H0 p = some u) (hl : ∀ p ∈ l, H p = none) (hx : ∀ p, x p → H p = none ∧ H' p ≠ none) (h : Le (W.sub b H l) W' H0 H') (hW : ∀ p, W'.fz p → H' p ≠ none)
    (hd : ∀ p, H0 p = none → H p = none) : Le W (W.back W' x) H H' ∧ Ok k (W.back W' x) H' st ∧ (∀ p, p ∈ W.rho → W'.fz p → ∀ C dx fs, H' p ≠ some (.ins C dx fs)) ∧ (b = false → ∀ p, p ∈ W.rho → ¬ W'.fz p) := by
  have keep : ∀ p u, H p = some u → H' p = some u := fun p u e => h.rest p u (hH p u e) fun m => by
    rw [hl p m] at e
    cases e
  have newf : ∀ p, W'.fz p → H p ≠ none → W.fz p ∨ (b = true ∧ p ∈ W.rho ∧ ∃ vs, H p = some (.lst vs)) := fun p f n => by
    rcases h.newf p f with z | z
    · exact z
    · exact absurd (hd p z) n
  have le : Le W (W.back W' x) H H' := ⟨⟨[], by simp [Wd.back]⟩, fun p f => .inl ⟨h.fz p (.inl f), fun m => o.apart p m f⟩, fun p u e _ => keep p u e, fun p u e _ => keep p u e, fun p u e _ => keep p u e, fun p m => .inl m, fun p f => by
    rcases f with ⟨f, n⟩ | f
    · cases q : H p with
      | none => exact .inr rfl
      | some u =>
        rcases newf p f (by rw [q]; exact fun z => nomatch z) with z | ⟨_, m, _⟩
        · exact .inl z
        · exact absurd m n
    · exact .inr (hx p f).1, fun p n => by
    cases q : H p with
    | none => exact absurd q n
    | some u =>
      rw [keep p u q]
      exact fun z => nomatch z⟩
  refine ⟨le, ⟨o.nd, o.len, fun p f => ?_, fun p m f => ?_, fun i u q e1 e2 => ?_⟩, fun p m f C dx fs e => ?_, fun hb p m f => ?_⟩
  · rcases f with ⟨f, _⟩ | f
    · exact hW p f
    · exact (hx p f).2
  · rcases f with ⟨_, n⟩ | f
    · exact n m
    · exact o.there m (hx p f).1
  · have hq : q ∈ W.rho := List.mem_of_getElem? e2
    refine (o.obj i u q e1 e2).le le ?_
    cases z : H q with
    | none => exact absurd z (o.there hq)
    | some y => exact keep q y z
  · rcases newf p f (o.there m) with z | ⟨_, _, vs, z⟩
    · exact o.apart p m z
    · rw [keep p _ z] at e
      cases e
  · rcases newf p f (o.there m) with z | ⟨z, _⟩
    · exact o.apart p m z
    · rw [hb] at z
      cases z
end
/-! ### calls that leave the store as it was -/
def outN (st : Sto) : Option (Except Exc Val × Sto) → Res Val
  | some (.ok v, _) => if noRef v then some (.ok v, st) else none
  | some (.error x, _) => if noRefs x.xs then some (.error x, st) else none
  | none => none
def outB (st : Sto) : Option (Except Exc Val × Sto) → Res Val
  | some (.ok v, _) => if still v then some (.ok v, st) else none
  | some (.error x, _) => if stills x.xs then some (.error x, st) else none
  | none => none
/-- us: all arguments -/
def runP (c : CF) (us : List Val) (st : Sto) : Res Val := if noRefs us then outN st (c us []) else match snaps st us with
  | some ws => outB st (c ws [])
  | none => none
def callP (n : Nat) (c : CF) (ds : List Val) (ms : M (List Val)) : M Val := bnd ms fun us _ st => if (us ++ ds).length = n then runP c (us ++ ds) st else none
section
variable {X : Cx} {k : Kx} {E : WX} {pos p : Pos} {e : Expr} {es : List Expr} {ms : M (List Val)}
theorem snaps_len {st : Sto} : ∀ {us ws : List Val}, snaps st us = some ws → ws.length = us.length
  | [], ws, e => by
    cases e
    rfl
  | a :: as, ws, e => by
    unfold snaps at e
    split at e
    · rename_i y ys h1 h2
      cases e
      simp [snaps_len h2]
    · cases e
theorem runP_sp {n : Nat} {c : CF} {us : List Val} {vs : List V} {st : Sto} {W : Wd} {H : Hp} {Q : VK} {E : XK} {o : Except Exc Val × Sto} (hn : us.length = n) (h1 : Ok k W H st) (r : RepL k W H us vs) (h3 : runP c us st = some o) (h4 : Fin k (RepV k) E W H Q o) : spM k n c vs H Q E := by
  unfold runP at h3
  split at h3
  · rename_i hr
    cases q : c us [] with
    | none =>
      rw [q] at h3
      cases h3
    | some p =>
      rw [q] at h3
      obtain ⟨y, st'⟩ := p
      have key : ∀ W' H', Le (W.sub false H []) W' H H' → Ok k W' H' st' → _ := fun W' H' l o' => h1.back (x := fun _ => False) (fun _ _ z => z) (fun _ z => by cases z) (fun _ z => z.elim) l o'.fzs (fun _ z => z)
      refine ⟨W.sub false H [], us, [], _, hn, h1.sub, r.other (fun p f => Or.inl f) hr, q, ?_⟩
      cases y with
      | ok v =>
        dsimp only [outN] at h3
        split at h3
        · rename_i hv
          cases h3
          intro W' H' u l o' ru
          obtain ⟨a1, a2, a3, a4⟩ := key W' H' l o'
          exact h4 _ H' u a1 a2 (ru.back a3 (a4 rfl) hv)
        · cases h3
      | error x =>
        dsimp only [outN] at h3
        split at h3
        · rename_i hv
          cases h3
          intro W' H' u d l o' ru
          obtain ⟨a1, a2, a3, a4⟩ := key W' H' l o'
          refine h4 _ H' u d a1 a2 ⟨ru.1, ru.2.1, ?_⟩
          rcases ru.2.2 with z | ⟨a, vs, z1, z2, z3⟩
          · exact .inl z
          · exact .inr ⟨a, vs, z1, z2, z3.back a3 (a4 rfl) hv⟩
        · cases h3
  · split at h3
    · rename_i ws hw
      cases q : c ws [] with
      | none =>
        rw [q] at h3
        cases h3
      | some p =>
        rw [q] at h3
        obtain ⟨y, st'⟩ := p
        have key : ∀ W' H', Le (W.sub true H []) W' H H' → Ok k W' H' st' → _ := fun W' H' l o' => h1.back (x := fun _ => False) (fun _ _ z => z) (fun _ z => by cases z) (fun _ z => z.elim) l o'.fzs (fun _ z => z)
        refine ⟨W.sub true H [], ws, [], _, (snaps_len hw).trans hn, h1.sub, snaps_rep h1 r hw, q, ?_⟩
        cases y with
        | ok v =>
          dsimp only [outB] at h3
          split at h3
          · rename_i hv
            cases h3
            intro W' H' u l o' ru
            obtain ⟨a1, a2, a3, a4⟩ := key W' H' l o'
            exact h4 _ H' u a1 a2 (ru.backS a3 hv)
          · cases h3
        | error x =>
          dsimp only [outB] at h3
          split at h3
          · rename_i hv
            cases h3
            intro W' H' u d l o' ru
            obtain ⟨a1, a2, a3, a4⟩ := key W' H' l o'
            refine h4 _ H' u d a1 a2 ⟨ru.1, ru.2.1, ?_⟩
            rcases ru.2.2 with z | ⟨a, vs, z1, z2, z3⟩
            · exact .inl z
            · exact .inr ⟨a, vs, z1, z2, z3.backS a3 hv⟩
          · cases h3
    · cases h3
theorem callP_read {n : Nat} {c : CF} {ds : List Val} {dvs : List V} (hd : ∀ W H, RepL k W H ds dvs) {σ : L2.St} {H : Hp} {Q : VK} (h : tM k E (callP n c ds ms) σ H Q) : tCallSD (spM k n c) dvs (WE E) (tMa k E ms) σ H Q :=
  tG.mono (tG.bnd (R1 := RepL k) h) fun vs H1 ⟨W, us, ru, env, st, o, h1, h2, h3, h4⟩ => by
    dsimp only at h3
    split at h3
    · rename_i hl
      exact runP_sp hl h1 (ru.append (hd W H1)) h3 h4
    · cases h3
theorem me_callP {x : Str} {j n : Nat} {f : Addr} {fd : FuncData} {ps : List Str} {c : CF} {ds : List Val} {dvs : List V} {dus : List Value} (F : FnOk X.prog X.w X.K X.mg X.base (L2.CX X.prog X.w) j f fd ps (spM k n c)) (hr : Room j X.A) (hg : Gl X x) (hm : X.mg x = some (.ref f)) (hk : PySem.W.keepIn X.K (.ref f) = true)
    (hb : Binds X.K fd ps dus) (hv : Vals dvs dus) (hd : ∀ W H, RepL k W H ds dvs) (tk : Takes X E) (ha : PA X (e :: es) (tMa k E ms)) (hdb : (x == ("__debug__" : Str)) = false := by decide)
    (he : starEach (e :: es) X.env = (false, eval e X.env) :: starEach es X.env := by rfl) (hpl : (backTo pos (starEach es X.env)).any (·.1) = false := by rfl) : PE X (.Call (.Name x p) (e :: es) [] pos) (tM k E (callP n c ds ms)) :=
  imp (pe_callSD F hr hg hm hk hb hv (fun σ => passAt tk σ) ha hdb he hpl) fun σ H Q h => callP_read hd h
end
end Mi
namespace Mi
open PySem PySem.Spec PyProof.Rows L2
/-! ### attributes -/
def fieldOf (f : Str) : List Str → List Val → Option Val
  | g :: ks, x :: xs => if f == g then some x else fieldOf f ks xs
  | _, _ => none
/-- a field is written: the names, the values -/
def putK (f : Str) : List Str → List Str
  | [] => [f]
  | g :: ks => if g = f then g :: ks else g :: putK f ks
def putX (f : Str) (y : Val) : List Str → List Val → List Val
  | [], _ => [y]
  | g :: ks, x :: xs => if g = f then y :: xs else x :: putX f y ks xs
  | _ :: _, [] => []
section
variable {k : Kx} {W : Wd} {H : Hp}
theorem fieldOf_rep {f : Str} : ∀ {ks : List Str} {xs : List Val} {vs : List V} {x : Val}, RepL k W H xs vs → fieldOf f ks xs = some x → ∃ v, (ks.zip vs).lookup f = some v ∧ RepV k W H x v
  | [], xs, vs, x, _, e => by cases e
  | g :: ks, [], vs, x, _, e => by cases e
  | g :: ks, y :: xs, vs, x, r, e => by
    obtain ⟨v, u, rfl, r1, r2⟩ := r
    unfold fieldOf at e
    show ∃ w, List.lookup f ((g, v) :: ks.zip u) = some w ∧ _
    rw [List.lookup_cons]
    cases q : f == g with
    | true =>
      rw [q] at e
      cases e
      exact ⟨v, rfl, r1⟩
    | false =>
      rw [q] at e
      exact fieldOf_rep r2 e
theorem fieldOf_no {f : Str} : ∀ {ks : List Str} {vs : List V}, ks.contains f = false → (ks.zip vs).lookup f = none
  | [], _, _ => rfl
  | g :: ks, [], _ => rfl
  | g :: ks, v :: vs, e => by
    have e' := Bool.or_eq_false_iff.mp (show (f == g || ks.contains f) = false from by rw [← List.contains_cons]; exact e)
    show List.lookup f ((g, v) :: ks.zip vs) = none
    rw [List.lookup_cons, e'.1]
    exact fieldOf_no e'.2
theorem put_len {f : Str} {y : Val} : ∀ {ks : List Str} {xs : List Val}, ks.length = xs.length → (putK f ks).length = (putX f y ks xs).length
  | [], [], _ => rfl
  | [], _ :: _, e => by cases e
  | g :: ks, [], e => by cases e
  | g :: ks, x :: xs, e => by
    unfold putK putX
    by_cases h : g = f
    · rw [if_pos h, if_pos h]
      exact e
    · rw [if_neg h, if_neg h, List.length_cons, List.length_cons, put_len (Nat.succ.inj e)]
theorem put_rep {f : Str} {y : Val} {v : V} (hy : RepV k W H y v) : ∀ {ks : List Str} {xs : List Val} {vs : List V}, ks.length = xs.length → RepL k W H xs vs → ∃ us, putF f v (ks.zip vs) = (putK f ks).zip us ∧ RepL k W H (putX f y ks xs) us
  | [], [], vs, _, r => by
    have e : vs = [] := r
    rw [e]
    exact ⟨[v], rfl, RepL.cons hy rfl⟩
  | [], _ :: _, _, e, _ => by cases e
  | g :: ks, [], _, e, _ => by cases e
  | g :: ks, x :: xs, vs, e, r => by
    obtain ⟨u, us, rfl, r1, r2⟩ := r
    show ∃ us', putF f v ((g, u) :: ks.zip us) = _ ∧ _
    unfold putF putK putX
    by_cases h : g = f
    · rw [if_pos h, if_pos h, if_pos h]
      exact ⟨v :: us, rfl, RepL.cons hy r2⟩
    · rw [if_neg h, if_neg h, if_neg h]
      obtain ⟨ws, e1, e2⟩ := put_rep hy (Nat.succ.inj e) r2
      exact ⟨u :: ws, by rw [e1]; rfl, RepL.cons r1 e2⟩
end
/-- o.f -/
def fldV (own : Str → Bool) (f : Str) (st : Sto) (a : Val) : Option Val := match a with
  | .ins c ks xs => if own c then fieldOf f ks xs else none
  | .ref i => match st[i]? with
    | some (.ins c ks xs) => if own c then fieldOf f ks xs else none
    | _ => none
  | _ => none
/-- o.f = v -/
def sFldV (own : Str → Bool) (f : Str) (mo mv : M Val) : S := sBnd mv fun y => sBnd mo fun a env st => match a with
  | .ref i => match st[i]? with
    | some (.ins c ks xs) => if own c = true ∧ ks.length < 900 then some (.next, env, st.set i (.ins c (putK f ks) (putX f y ks xs))) else none
    | _ => none
  | _ => none
section
variable {X : Cx} {k : Kx} {E : WX} {pos p : Pos} {e o : Expr} {es : List Expr} {ms : M (List Val)}
theorem fldV_rep {own : Str → Bool} {f : Str} {W : Wd} {H : Hp} {st : Sto} {a c : Val} {x : V} (hk : Ok k W H st) (r : RepV k W H a x) (e : fldV own f st a = some c) : ∃ a C dx fs v cn, x = .ref a ∧ H a = some (.ins C dx fs) ∧ fs.lookup f = some v ∧ RepV k W H c v ∧ own cn = true ∧ C = k.cl cn := by
  cases a with
  | ins cn ks xs =>
    unfold fldV at e
    dsimp only at e
    split at e
    · rename_i ho
      obtain ⟨p, dx, vs, e1, f1, s, n1, r1⟩ := r
      obtain ⟨v, l, rv⟩ := fieldOf_rep r1 e
      exact ⟨p, _, dx, _, v, cn, e1, s, l, rv, ho, rfl⟩
    · cases e
  | ref i =>
    unfold fldV at e
    dsimp only at e
    split at e
    · rename_i cn ks xs hx
      split at e
      · rename_i ho
        obtain ⟨p, e1, hp⟩ := r
        obtain ⟨dx, vs, s, n1, r1⟩ := hk.obj i _ p hx hp
        obtain ⟨v, l, rv⟩ := fieldOf_rep r1 e
        exact ⟨p, _, dx, _, v, cn, e1, s, l, rv, ho, rfl⟩
      · cases e
    · cases e
  | _ => cases e
theorem me_fld {own : Str → Bool} {f : Str} {m : M Val} (hown : ∀ c, own c = true → Cls k.K (k.cl c) ∧ NoAttr k.K (k.cl c) f) (he : PE X e (tM k E m)) (hb : attributeBase e f X.env (eval e X.env) = eval e X.env := by rfl) (hk : X.K = k.K := by rfl) : PE X (.Attribute e f pos) (tM k E (un (fldV own f) m)) :=
  imp (pe_fld he hb) fun σ H Q h => tG.mono (tG.bnd (R1 := RepV k) h) fun x H1 ⟨W, b, rb, h3⟩ => by
    obtain ⟨c, st, e, o, q⟩ := h3.lift
    obtain ⟨a, C, dx, fs, v, cn, e1, e2, e3, rv, ho, rfl⟩ := fldV_rep o rb e
    rw [hk]
    exact ⟨a, _, dx, fs, v, e1, e2, (hown cn ho).1, (hown cn ho).2, e3, q W H1 v (Le.refl _ _) o rv⟩
theorem ms_fld {own : Str → Bool} {f : Str} {mo mv : M Val} {pos' : Pos} (hown : ∀ c, own c = true → Cls k.K (k.cl c) ∧ NoAttr k.K (k.cl c) f) (ho : PE X o (tM k E mo)) (hv : PE X e (tM k E mv)) (hs : swapsWith e (some (.Attribute o f pos')) pos.line X.env = pure false := by rfl) (hk : X.K = k.K := by rfl) : PS X (.Assign [.Attribute o f pos'] e pos) (tS k E (sFldV own f mo mv)) :=
  impS (ps_fld ho hv hs) fun D σ H q => tG.mono (tS.bnd (R := RepV k) q) fun x H1 ⟨W, v, rv, h1⟩ =>
    tG.mono (AtS.bnd (R := RepV k) (fun W H => RepV k W H v x) (fun l r => r.le l) rv h1) fun y H2 ⟨W2, a, rv2, ra, env, st, o, g1, g2, g3, g4⟩ => by
      cases a with
      | ref i =>
        dsimp only at g3
        split at g3
        · rename_i c ks xs hx
          split at g3
          · rename_i hc
            cases g3
            obtain ⟨p, e1, hp⟩ := ra
            obtain ⟨dx, vs, hv, n1, rvs⟩ := g1.obj i _ p hx hp
            obtain ⟨us, e2, r2⟩ := put_rep (f := f) rv2 n1 rvs
            have ndf : ¬ W2.fz p := g1.apart p (List.mem_of_getElem? hp)
            obtain ⟨le, o'⟩ := g1.put (u := .ins c (putK f ks) (putX f v ks xs)) (o' := .ins (k.cl c) dx ((putK f ks).zip us)) hp hv (fun z => z) ⟨dx, us, upd_same, put_len n1, r2.le (g1.putLe hp hv fun z => z)⟩
            rw [hk]
            refine ⟨p, k.cl c, dx, _, e1, hv, (hown c hc.1).1, (hown c hc.1).2, ?_, ?_⟩
            · rw [List.length_zip]
              omega
            · rw [e2]
              exact g4 W2 _ σ le o' (g2.le le)
          · cases g3
        · cases g3
      | _ => cases g3
/-! ### methods -/
def tMthS (C : Addr) (m : Str) (sp : Sp) (dvs : List V) (E : L2.St → XK) (ta : TE) (t : TA) : TE := fun σ H Q => ta σ H fun x H1 => ∃ a dx fs, x = .ref a ∧ H1 a = some (.ins C dx fs) ∧ fs.lookup m = none ∧ t σ H1 fun vs H2 => sp (x :: (vs ++ dvs)) H2 Q (E σ)
theorem pe_mthS {CX : CXT} {kk : Nat} {C f : Addr} {m : Str} {fd : FuncData} {ps : List Str} {sp : Sp} {ds : List Value} {dvs : List V} {F : L2.St → XK} {ta : TE} {t : TA} {apos : Pos} {pl : Sem Bool} (he : PE X o ta) (c : Cls X.K C) (hm : Meth X.K C m f) (G : FnOk X.prog X.w X.K X.mg X.base CX kk f fd ps sp) (hr : Room kk X.A) (hb : Binds X.K fd ps ds) (hd : Vals dvs ds)
    (hx : ∀ σ, PassesAt CX X σ (F σ)) (ha : PA X (e :: es) t) (hst : starEach (e :: es) X.env = (false, eval e X.env) :: starEach es X.env := by rfl) (hpl : (backTo pos (starEach es X.env)).any (·.1) = false := by rfl)
    (ht : eval (.Call (.Attribute o m apos) (e :: es) [] pos) X.env = (do
      let recv ← eval o X.env
      standAt apos.atName
      let (g, first) ← holding [recv] (getMethod recv m pl)
      callWith pos g first (backTo pos (starEach (e :: es) X.env)) (backToKw pos (keywordEach [] X.env))) := by rfl) : PE X (.Call (.Attribute o m apos) (e :: es) [] pos) (tMthS C m sp dvs F ta t) := by
  refine ⟨fun pins s σ H Q I h => PySem.W.methodCall_KW (pl := pl) (thn (he.run pins s σ H _ I h) fun u s1 ⟨x, H1, I1, rx, a, dx, fs, ex, ea, l, q⟩ => ?_) ht⟩
  subst ex
  have eu : u = Value.ref a := rx
  subst eu
  refine getmeth_ok I1 ea c hm l (PySem.W.callWith_K (first := [.ref a]) (h₀ := X.base) I.ok.mod.kin hm.kp (thn (ha.run pos pins s1 σ H1 _ I1 q) fun us s2 ⟨vs, H2, I2, r, q2⟩ => ⟨I2.kIn, ?_⟩) hst hpl)
  exact run_fnSD (us := .ref a :: us) (vs := .ref a :: vs) G hr hb hd (hx σ) I2 (.cons rfl r) q2
theorem pe_mthS0 {CX : CXT} {kk : Nat} {C f : Addr} {m : Str} {fd : FuncData} {ps : List Str} {sp : Sp} {ds : List Value} {dvs : List V} {F : L2.St → XK} {ta : TE} {apos : Pos} {pl : Sem Bool} (he : PE X o ta) (c : Cls X.K C) (hm : Meth X.K C m f) (G : FnOk X.prog X.w X.K X.mg X.base CX kk f fd ps sp) (hr : Room kk X.A) (hb : Binds X.K fd ps ds) (hd : Vals dvs ds)
    (hx : ∀ σ, PassesAt CX X σ (F σ))
    (ht : eval (.Call (.Attribute o m apos) [] [] pos) X.env = (do
      let recv ← eval o X.env
      standAt apos.atName
      let (g, first) ← holding [recv] (getMethod recv m pl)
      callWith pos g first (backTo pos (starEach [] X.env)) (backToKw pos (keywordEach [] X.env))) := by rfl) : PE X (.Call (.Attribute o m apos) [] [] pos) (tMthS C m sp dvs F ta tNil) := by
  refine ⟨fun pins s σ H Q I h => PySem.W.methodCall_KW (pl := pl) (thn (he.run pins s σ H _ I h) fun u s1 ⟨x, H1, I1, rx, a, dx, fs, ex, ea, l, q⟩ => ?_) ht⟩
  subst ex
  have eu : u = Value.ref a := rx
  subst eu
  refine getmeth_ok I1 ea c hm l (PySem.W.callWith_K0 (first := [.ref a]) I1.kIn hm.kp ?_)
  exact run_fnSD (us := [.ref a]) (vs := [.ref a]) G hr hb hd (hx σ) I1 (.cons rfl .nil) q
/-- the class of an instance, its fields' names -/
def clsAt (st : Sto) : Val → Option (Str × List Str)
  | .ins c ks _ => some (c, ks)
  | .ref i => match st[i]? with
    | some (.ins c ks _) => some (c, ks)
    | _ => none
  | _ => none
def isOf (c m : Str) (st : Sto) (a : Val) : Bool := match clsAt st a with
  | some (c', ks) => c' == c && !ks.contains m
  | none => false
theorem isOf_rep {c m : Str} {W : Wd} {H : Hp} {st : Sto} {a : Val} {x : V} (hk : Ok k W H st) (r : RepV k W H a x) (e : isOf c m st a = true) : ∃ p dx fs, x = .ref p ∧ H p = some (.ins (k.cl c) dx fs) ∧ fs.lookup m = none := by
  unfold isOf at e
  split at e
  · rename_i c' ks hc
    have e' := Bool.and_eq_true_iff.mp e
    have ec : c' = c := eq_of_beq e'.1
    subst ec
    have en : ks.contains m = false := by simpa using e'.2
    cases a with
    | ins d ls xs =>
      cases hc
      obtain ⟨p, dx, vs, e1, f1, s, n1, r1⟩ := r
      exact ⟨p, dx, _, e1, s, fieldOf_no en⟩
    | ref i =>
      unfold clsAt at hc
      dsimp only at hc
      split at hc
      · rename_i d ls xs hx
        cases hc
        obtain ⟨p, e1, hp⟩ := r
        obtain ⟨dx, vs, s, n1, r1⟩ := hk.obj i _ p hx hp
        exact ⟨p, dx, _, e1, s, fieldOf_no en⟩
      · cases hc
    | _ => cases hc
  · cases e
/-- o.m(..): P: the store stays; M: with the store -/
def methP (c m : Str) (n : Nat) (cf : CF) (ds : List Val) (mo : M Val) (ms : M (List Val)) : M Val := bnd mo fun a => fun env st => if isOf c m st a then bnd ms (fun us _ st => if (a :: (us ++ ds)).length = n then runP cf (a :: (us ++ ds)) st else none) env st else none
def methM (c m : Str) (n : Nat) (cf : CF) (ds : List Val) (mo : M Val) (ms : M (List Val)) : M Val := bnd mo fun a => fun env st => if isOf c m st a then bnd ms (fun us _ st => if (a :: (us ++ ds)).length = n then cf (a :: (us ++ ds)) st else none) env st else none
theorem methM_read {c m : Str} {n : Nat} {cf : CF} {ds : List Val} {dvs : List V} {mo : M Val} (hd : ∀ W H, RepL k W H ds dvs) {σ : L2.St} {H : Hp} {Q : VK} (h : tM k E (methM c m n cf ds mo ms) σ H Q) : tMthS (k.cl c) m (spM k n cf) dvs (WE E) (tM k E mo) (tMa k E ms) σ H Q :=
  tG.mono (tG.bnd (R1 := RepV k) h) fun x H1 ⟨W, a, ra, env, st, o, h1, h2, h3, h4⟩ => by
    dsimp only at h3
    split at h3
    · rename_i hi
      obtain ⟨p, dx, fs, e1, e2, e3⟩ := isOf_rep h1 ra hi
      refine ⟨p, dx, fs, e1, e2, e3, ?_⟩
      refine tG.mono ((At.bnd (R1 := RepL k) (W := W) (fun W H => RepV k W H a x) (fun l r => r.le l) ra ⟨env, st, o, h1, h2, h3, h4⟩)) fun vs H2 ⟨W2, us, ra2, ru, env2, st2, o2, g1, g2, g3, g4⟩ => ?_
      dsimp only at g3
      split at g3
      · rename_i hl
        exact ⟨W2, _, st2, o2, hl, g1, RepL.cons ra2 (ru.append (hd W2 H2)), g3, g4⟩
      · cases g3
    · cases h3
theorem nil_read {σ : L2.St} {H : Hp} {Q : List V → Hp → Prop} (h : tMa k E nilM σ H Q) : tNil σ H Q := by
  obtain ⟨W, env, st, o, h1, h2, h3, h4⟩ := h
  cases h3
  exact h4 W H [] (Le.refl _ _) h1 rfl
section
variable {c m : Str} {kk n : Nat} {f : Addr} {fd : FuncData} {ps : List Str} {cf : CF} {ds : List Val} {dvs : List V} {dus : List Value} {mo : M Val} {apos : Pos} {pl : Sem Bool}
theorem me_methM (he : PE X o (tM k E mo)) (cl : Cls X.K (k.cl c)) (hm : Meth X.K (k.cl c) m f) (G : FnOk X.prog X.w X.K X.mg X.base (L2.CX X.prog X.w) kk f fd ps (spM k n cf)) (hr : Room kk X.A) (hb : Binds X.K fd ps dus) (hv : Vals dvs dus) (hd : ∀ W H, RepL k W H ds dvs) (tk : Takes X E)
    (ha : PA X (e :: es) (tMa k E ms)) (hst : starEach (e :: es) X.env = (false, eval e X.env) :: starEach es X.env := by rfl) (hpl : (backTo pos (starEach es X.env)).any (·.1) = false := by rfl)
    (ht : eval (.Call (.Attribute o m apos) (e :: es) [] pos) X.env = (do
      let recv ← eval o X.env
      standAt apos.atName
      let (g, first) ← holding [recv] (getMethod recv m pl)
      callWith pos g first (backTo pos (starEach (e :: es) X.env)) (backToKw pos (keywordEach [] X.env))) := by rfl) : PE X (.Call (.Attribute o m apos) (e :: es) [] pos) (tM k E (methM c m n cf ds mo ms)) :=
  imp (pe_mthS he cl hm G hr hb hv (fun σ => passAt tk σ) ha hst hpl ht) fun σ H Q h => methM_read hd h
theorem me_methM0 (he : PE X o (tM k E mo)) (cl : Cls X.K (k.cl c)) (hm : Meth X.K (k.cl c) m f) (G : FnOk X.prog X.w X.K X.mg X.base (L2.CX X.prog X.w) kk f fd ps (spM k n cf)) (hr : Room kk X.A) (hb : Binds X.K fd ps dus) (hv : Vals dvs dus) (hd : ∀ W H, RepL k W H ds dvs) (tk : Takes X E)
    (ht : eval (.Call (.Attribute o m apos) [] [] pos) X.env = (do
      let recv ← eval o X.env
      standAt apos.atName
      let (g, first) ← holding [recv] (getMethod recv m pl)
      callWith pos g first (backTo pos (starEach [] X.env)) (backToKw pos (keywordEach [] X.env))) := by rfl) : PE X (.Call (.Attribute o m apos) [] [] pos) (tM k E (methM c m n cf ds mo nilM)) :=
  imp (pe_mthS0 he cl hm G hr hb hv (fun σ => passAt tk σ) ht) fun σ H Q h => tG.mono (methM_read hd h) fun x H1 ⟨a, dx, fs, e1, e2, e3, q⟩ => ⟨a, dx, fs, e1, e2, e3, nil_read q⟩
end
/-! ### instances made -/
def tMkS (C : Addr) (sp : Sp) (dvs : List V) (E : L2.St → XK) (t : TA) : TE := fun σ H Q => t σ H fun vs H1 => ∀ x dx, H1 x = none → H1 dx = none → dx ≠ x → sp (.ref x :: (vs ++ dvs)) (upd (upd H1 dx (.own x)) x (.ins C dx [])) (fun v H2 => v = .non ∧ Q (.ref x) H2) (E σ)
theorem run_mkS {CX : CXT} {kk : Nat} {C f : Addr} {fd : FuncData} {ps : List Str} {sp : Sp} {ds : List Value} {dvs : List V} {F : XK} {pins : List (Addr × Obj)} {σ : L2.St} {H : Hp} {s : Shared} {Q : VK} {us : List Value} {vs : List V} (M : Mk X.K C f) (G : FnOk X.prog X.w X.K X.mg X.base CX kk f fd ps sp) (hr : Room (kk + 1) X.A) (hb : Binds X.K fd ps ds) (hd : Vals dvs ds) (hx : PassesAt CX X σ F) (I : Inv X pins σ H s) (r : Vals vs us)
    (h : ∀ x dx, H x = none → H dx = none → dx ≠ x → sp (.ref x :: (vs ++ dvs)) (upd (upd H dx (.own x)) x (.ins C dx [])) (fun v H2 => v = .non ∧ Q (.ref x) H2) F) : wpAny (model X.prog X.w) X.A (call (.ref C) us) (EP X pins σ Q) X.xe s := by
  have hq := h (s.heap.objs.size + 1) s.heap.objs.size (I.hok.fresh (Nat.le_succ _)) (I.hok.fresh (Nat.le_refl _)) (Nat.ne_of_lt (Nat.lt_succ_self _))
  have J := Inv.made (C := C) I
  have rr : Vals (V.ref (s.heap.objs.size + 1) :: (vs ++ dvs)) (Value.ref (s.heap.objs.size + 1) :: (us ++ ds)) := .cons rfl (r.append hd)
  have hl : (Value.ref (s.heap.objs.size + 1) :: us ++ ds).length = ps.length := rr.length.symm.trans (G.len _ _ _ _ hq)
  refine wpAny_call (make_map (f := f) I.kIn M.makes M.init (beq_iff_eq.mp M.fn) (codeAny_mono (G.run _ X.stack _ _ ⟨Value.ref (s.heap.objs.size + 1) :: us, []⟩ (Value.ref (s.heap.objs.size + 1) :: (us ++ ds)) _ _ F (hr.make C us []) (J.env0.make C us []) (hb _ (Value.ref (s.heap.objs.size + 1) :: us) J.kIn hl) rr hq) fun res s' hq' => ?_))
  match res, hq' with
  | .error e, z => exact hx pins _ _ e s' J z
  | .ok (.ret u), z =>
    obtain ⟨v, H', K3, rv, ev, q3⟩ := J.after z
    subst ev
    exact ⟨rv, ⟨V.ref (s.heap.objs.size + 1), H', K3, rfl, q3⟩⟩
  | .ok .next, z => exact z.elim
  | .ok .brk, z => exact z.elim
  | .ok .cont, z => exact z.elim
theorem pe_mkS {CX : CXT} {kk : Nat} {C f : Addr} {x : Str} {fd : FuncData} {ps : List Str} {sp : Sp} {ds : List Value} {dvs : List V} {F : L2.St → XK} {t : TA} (M : Mk X.K C f) (G : FnOk X.prog X.w X.K X.mg X.base CX kk f fd ps sp) (hr : Room (kk + 1) X.A) (hg : Gl X x) (hm : X.mg x = some (.ref C)) (hb : Binds X.K fd ps ds) (hd : Vals dvs ds) (hx : ∀ σ, PassesAt CX X σ (F σ))
    (ha : PA X (e :: es) t) (hdb : (x == ("__debug__" : Str)) = false := by decide) (he : starEach (e :: es) X.env = (false, eval e X.env) :: starEach es X.env := by rfl) (hpl : (backTo pos (starEach es X.env)).any (·.1) = false := by rfl) : PE X (.Call (.Name x p) (e :: es) [] pos) (tMkS C sp dvs F t) :=
  ⟨fun pins s σ H Q I h => wpAny_Call_Name_kw (ld_glob I hg hm (PySem.W.callWith_K (h₀ := X.base) I.ok.mod.kin M.kp (thn (ha.run pos pins s σ H _ I h) fun us s1 ⟨vs, H1, I1, r, q⟩ => ⟨I1.kIn, run_mkS M G hr hb hd (hx σ) I1 r q⟩) he hpl) hdb)⟩
/-- C(..), an instance that never changes: what __init__ leaves at its store's first place -/
def outMk (c : Str) (q : List Val → Bool) (st : Sto) : Option (Except Exc Val × Sto) → Res Val
  | some (.ok .non, st') => match (st' : List SO)[0]? with
    | some (SO.ins c' ks xs) => if c' = c ∧ q xs = true then some (.ok (.ins c ks xs), st) else none
    | _ => none
  | some (.ok _, _) => none
  | some (.error x, _) => if q x.xs then some (.error x, st) else none
  | none => none
def runMk (c : Str) (cf : CF) (us : List Val) (st : Sto) : Res Val := if noRefs us then outMk c noRefs st (cf (.ref 0 :: us) [.ins c [] []]) else match snaps st us with
  | some ws => outMk c stills st (cf (.ref 0 :: ws) [.ins c [] []])
  | none => none
def makeP (c : Str) (n : Nat) (cf : CF) (ds : List Val) (ms : M (List Val)) : M Val := bnd ms fun us _ st => if (us ++ ds).length + 1 = n then runMk c cf (us ++ ds) st else none
/-- one that changes -/
def makeM (c : Str) (n : Nat) (cf : CF) (ds : List Val) (ms : M (List Val)) : M Val := bnd ms fun us _ st => if (us ++ ds).length + 1 = n then match cf (.ref st.length :: (us ++ ds)) (st ++ [.ins c [] []]) with
  | some (.ok .non, st') => some (.ok (.ref st.length), st')
  | some (.ok _, _) => none
  | some (.error x, st') => some (.error x, st')
  | none => none else none
theorem Ok.begin {c : Str} {b : Bool} {W : Wd} {H : Hp} {st : Sto} {x dx : Addr} (o : Ok k W H st) (hx : H x = none) (hd : H dx = none) (ne : dx ≠ x) : Ok k (W.sub b H [x]) (upd (upd H dx (.own x)) x (.ins (k.cl c) dx [])) [.ins c [] []] := by
  refine ⟨by simp [Wd.sub], rfl, fun p f => ?_, fun p m f => ?_, fun i u q e1 e2 => ?_⟩
  · have hn : H p ≠ none := by
      rcases f with f | ⟨_, _, vs, e⟩
      · exact o.fzs p f
      · rw [e]
        exact fun z => nomatch z
    exact upd_dom (upd_dom hn)
  · have e : p = x := List.mem_singleton.mp m
    subst e
    rcases f with f | ⟨_, _, vs, e⟩
    · exact o.fzs p f hx
    · rw [hx] at e
      cases e
  · cases i with
    | zero =>
      cases e1
      cases e2
      exact ⟨dx, [], upd_same, rfl, rfl⟩
    | succ i => simp at e1
theorem sub_up {b : Bool} {W : Wd} {H : Hp} {x dx : Addr} {o o' : HO} {us : List Val} {vs : List V} (hx : H x = none) (hd : H dx = none) (ne : dx ≠ x) (h : RepL k (W.sub b H [x]) H us vs) : RepL k (W.sub b H [x]) (upd (upd H dx o) x o') us vs :=
  (h.le (Le.new (o := o) hd)).le (Le.new (o := o') (by rw [upd_ne (fun z => ne z.symm)]; exact hx))
theorem runMk_sp {c : Str} {n : Nat} {cf : CF} {us : List Val} {vs : List V} {st : Sto} {W : Wd} {H : Hp} {Q : VK} {F : XK} {o : Except Exc Val × Sto} {x dx : Addr} (hn : us.length + 1 = n) (h1 : Ok k W H st) (r : RepL k W H us vs) (h3 : runMk c cf us st = some o) (h4 : Fin k (RepV k) F W H Q o) (hx : H x = none) (hd : H dx = none) (ne : dx ≠ x) :
    spM k n cf (.ref x :: vs) (upd (upd H dx (.own x)) x (.ins (k.cl c) dx [])) (fun v H2 => v = .non ∧ Q (.ref x) H2) F := by
  have up : ∀ p u, H p = some u → upd (upd H dx (.own x)) x (.ins (k.cl c) dx []) p = some u := fun p u e => by
    rw [upd_ne (ne_of_none e hx), upd_ne (ne_of_none e hd)]
    exact e
  have dn : ∀ p, upd (upd H dx (.own x)) x (.ins (k.cl c) dx []) p = none → H p = none := fun p e => by
    cases q : H p with
    | none => rfl
    | some u =>
      rw [up p u q] at e
      cases e
  have rf : ∀ b, RepV k (W.sub b H [x]) (upd (upd H dx (.own x)) x (.ins (k.cl c) dx [])) (.ref 0) (.ref x) := fun b => ⟨x, rfl, rfl⟩
  have key : ∀ b W' H' st', Le (W.sub b H [x]) W' (upd (upd H dx (.own x)) x (.ins (k.cl c) dx [])) H' → Ok k W' H' st' → _ := fun b W' H' st' l o' =>
    h1.back (x := fun p => p = x) up (fun p z => by rw [List.mem_singleton.mp z]; exact hx) (fun p z => ⟨by rw [z]; exact hx, by rw [z]; exact l.dom x (by rw [upd_same]; exact fun z => nomatch z)⟩) l o'.fzs dn
  have at0 : ∀ b W' H' (st' : Sto), Le (W.sub b H [x]) W' (upd (upd H dx (.own x)) x (.ins (k.cl c) dx [])) H' → W'.rho[0]? = some x := fun b W' H' st' l => l.at rfl
  unfold runMk at h3
  split at h3
  · rename_i hr
    cases q : cf (.ref 0 :: us) [.ins c [] []] with
    | none =>
      rw [q] at h3
      cases h3
    | some y =>
      rw [q] at h3
      obtain ⟨y, st'⟩ := y
      refine ⟨W.sub false H [x], .ref 0 :: us, [.ins c [] []], _, hn, h1.begin hx hd ne, RepL.cons (rf _) (sub_up hx hd ne (r.other (fun p f => Or.inl f) hr)), q, ?_⟩
      cases y with
      | error z =>
        dsimp only [outMk] at h3
        split at h3
        · rename_i hv
          cases h3
          intro W' H' u d l o' ru
          obtain ⟨a1, a2, a3, a4⟩ := key false W' H' st' l o'
          refine h4 _ H' u d a1 a2 ⟨ru.1, ru.2.1, ?_⟩
          rcases ru.2.2 with z | ⟨a, vs, z1, z2, z3⟩
          · exact .inl z
          · exact .inr ⟨a, vs, z1, z2, z3.back a3 (a4 rfl) hv⟩
        · cases h3
      | ok v =>
        cases v with
        | non =>
          dsimp only [outMk] at h3
          split at h3
          · rename_i c' ks xs h0
            split at h3
            · rename_i hv
              obtain ⟨rfl, hv⟩ := hv
              cases h3
              intro W' H' u l o' ru
              refine ⟨ru, ?_⟩
              obtain ⟨a1, a2, a3, a4⟩ := key false W' H' st' l o'
              obtain ⟨dy, ws, g1, g2, g3⟩ := o'.obj 0 _ x h0 (at0 false W' H' st' l)
              exact h4 _ H' _ a1 a2 ⟨x, dy, ws, rfl, .inr rfl, g1, g2, g3.back a3 (a4 rfl) hv⟩
            · cases h3
          · cases h3
        | _ => cases h3
  · split at h3
    · rename_i ws hw
      cases q : cf (.ref 0 :: ws) [.ins c [] []] with
      | none =>
        rw [q] at h3
        cases h3
      | some y =>
        rw [q] at h3
        obtain ⟨y, st'⟩ := y
        refine ⟨W.sub true H [x], .ref 0 :: ws, [.ins c [] []], _, by rw [List.length_cons, snaps_len hw]; exact hn, h1.begin hx hd ne, RepL.cons (rf _) (sub_up hx hd ne (snaps_rep h1 r hw)), q, ?_⟩
        cases y with
        | error z =>
          dsimp only [outMk] at h3
          split at h3
          · rename_i hv
            cases h3
            intro W' H' u d l o' ru
            obtain ⟨a1, a2, a3, a4⟩ := key true W' H' st' l o'
            refine h4 _ H' u d a1 a2 ⟨ru.1, ru.2.1, ?_⟩
            rcases ru.2.2 with z | ⟨a, vs, z1, z2, z3⟩
            · exact .inl z
            · exact .inr ⟨a, vs, z1, z2, z3.backS a3 hv⟩
          · cases h3
        | ok v =>
          cases v with
          | non =>
            dsimp only [outMk] at h3
            split at h3
            · rename_i c' ks xs h0
              split at h3
              · rename_i hv
                obtain ⟨rfl, hv⟩ := hv
                cases h3
                intro W' H' u l o' ru
                refine ⟨ru, ?_⟩
                obtain ⟨a1, a2, a3, a4⟩ := key true W' H' st' l o'
                obtain ⟨dy, ws, g1, g2, g3⟩ := o'.obj 0 _ x h0 (at0 true W' H' st' l)
                exact h4 _ H' _ a1 a2 ⟨x, dy, ws, rfl, .inr rfl, g1, g2, g3.backS a3 hv⟩
              · cases h3
            · cases h3
          | _ => cases h3
    · cases h3
section
variable {c x : Str} {kk n : Nat} {f : Addr} {fd : FuncData} {ps : List Str} {cf : CF} {ds : List Val} {dvs : List V} {dus : List Value}
theorem makeP_read (hd : ∀ W H, RepL k W H ds dvs) {σ : L2.St} {H : Hp} {Q : VK} (h : tM k E (makeP c n cf ds ms) σ H Q) : tMkS (k.cl c) (spM k n cf) dvs (WE E) (tMa k E ms) σ H Q :=
  tG.mono (tG.bnd (R1 := RepL k) h) fun vs H1 ⟨W, us, ru, env, st, o, h1, h2, h3, h4⟩ a dx ha hdx ne => by
    dsimp only at h3
    split at h3
    · rename_i hl
      exact runMk_sp hl h1 (ru.append (hd W H1)) h3 h4 ha hdx ne
    · cases h3
theorem makeM_read (hd : ∀ W H, RepL k W H ds dvs) {σ : L2.St} {H : Hp} {Q : VK} (h : tM k E (makeM c n cf ds ms) σ H Q) : tMkS (k.cl c) (spM k n cf) dvs (WE E) (tMa k E ms) σ H Q :=
  tG.mono (tG.bnd (R1 := RepL k) h) fun vs H1 ⟨W, us, ru, env, st, o, h1, h2, h3, h4⟩ a dx ha hdx ne => by
    dsimp only at h3
    split at h3
    · rename_i hl
      have o1 := h1.new (o := .own a) hdx
      have l1 : Le W W H1 (upd H1 dx (.own a)) := Le.new hdx
      have ha1 : upd H1 dx (.own a) a = none := by
        rw [upd_ne (fun z => ne z.symm)]
        exact ha
      obtain ⟨l2, o2⟩ := o1.newOb (p := a) (o := .ins (k.cl c) dx []) (u := .ins c [] []) ha1 ⟨dx, [], upd_same, rfl, rfl⟩
      have lw : W.rho.length = st.length := h1.len
      have r0 : RepV k (W.ob a) (upd (upd H1 dx (.own a)) a (.ins (k.cl c) dx [])) (.ref st.length) (.ref a) := ⟨a, rfl, by
        show (W.rho ++ [a])[st.length]? = some a
        rw [← lw, List.getElem?_append_right (Nat.le_refl _), Nat.sub_self]
        rfl⟩
      cases q : cf (.ref st.length :: (us ++ ds)) (st ++ [.ins c [] []]) with
      | none =>
        rw [q] at h3
        cases h3
      | some y =>
        rw [q] at h3
        obtain ⟨y, st'⟩ := y
        refine ⟨W.ob a, .ref st.length :: (us ++ ds), _, _, hl, o2, RepL.cons r0 (((ru.append (hd W H1)).le l1).le l2), q, ?_⟩
        cases y with
        | error z =>
          cases h3
          exact fun W' H' u d l o' ru' => h4 W' H' u d ((l1.trans l2).trans l) o' ru'
        | ok v =>
          cases v with
          | non =>
            cases h3
            exact fun W' H' u l o' ru' => ⟨ru', h4 W' H' _ ((l1.trans l2).trans l) o' (r0.le l)⟩
          | _ => cases h3
    · cases h3
theorem me_makeP (M : Mk X.K (k.cl c) f) (G : FnOk X.prog X.w X.K X.mg X.base (L2.CX X.prog X.w) kk f fd ps (spM k n cf)) (hr : Room (kk + 1) X.A) (hg : Gl X x) (hm : X.mg x = some (.ref (k.cl c))) (hb : Binds X.K fd ps dus) (hv : Vals dvs dus) (hd : ∀ W H, RepL k W H ds dvs) (tk : Takes X E)
    (ha : PA X (e :: es) (tMa k E ms)) (hdb : (x == ("__debug__" : Str)) = false := by decide) (he : starEach (e :: es) X.env = (false, eval e X.env) :: starEach es X.env := by rfl) (hpl : (backTo pos (starEach es X.env)).any (·.1) = false := by rfl) : PE X (.Call (.Name x p) (e :: es) [] pos) (tM k E (makeP c n cf ds ms)) :=
  imp (pe_mkS M G hr hg hm hb hv (fun σ => passAt tk σ) ha hdb he hpl) fun σ H Q h => makeP_read hd h
theorem me_makeM (M : Mk X.K (k.cl c) f) (G : FnOk X.prog X.w X.K X.mg X.base (L2.CX X.prog X.w) kk f fd ps (spM k n cf)) (hr : Room (kk + 1) X.A) (hg : Gl X x) (hm : X.mg x = some (.ref (k.cl c))) (hb : Binds X.K fd ps dus) (hv : Vals dvs dus) (hd : ∀ W H, RepL k W H ds dvs) (tk : Takes X E)
    (ha : PA X (e :: es) (tMa k E ms)) (hdb : (x == ("__debug__" : Str)) = false := by decide) (he : starEach (e :: es) X.env = (false, eval e X.env) :: starEach es X.env := by rfl) (hpl : (backTo pos (starEach es X.env)).any (·.1) = false := by rfl) : PE X (.Call (.Name x p) (e :: es) [] pos) (tM k E (makeM c n cf ds ms)) :=
  imp (pe_mkS M G hr hg hm hb hv (fun σ => passAt tk σ) ha hdb he hpl) fun σ H Q h => makeM_read hd h
end
end
end Mi
namespace Mi
open PySem PySem.Spec PyProof.Rows L2
/-! ### f-strings -/
end Mi
namespace Mi
open PySem PySem.Spec PyProof.Rows L2
/-! ### != by an own __eq__ -/
/-! ### special methods of an own class -/
end Mi
namespace Mi
open PySem PySem.Spec PyProof.Rows L2
end Mi
namespace Mi
open PySem PySem.Spec PyProof.Rows L2
/-- the statements of a class -/
def clsB (s : Stmt) : List Stmt := match s with
  | .ClassDef _ _ _ b _ _ _ _ _ _ _ => b
  | _ => []
section
variable {k : Kx}
/-- a def with defaults keeps its mirror -/
theorem ok_defD {P : Program} {w : World} {mg : Str → Option Value} {base : Heap} {x qual : Str} {st : Stmt} {dvs : List V} {f : Addr} {fd : FuncData} {N ps : List Str} {j n nN : Nat} {s : S} {c : CF} (F : FunD k.K x qual (defArgs st) (defBody st) (defScope st) dvs [] f fd) (S : FnScope N ps (defScope st)) (hc : c = callS nN s) (hN : N.length = nN) (hn : ps.length = n)
    (body : ∀ (cdv : Value) (A : Around) (outer : List PySem.Env) (s0 : Shared) (H : Hp) (E : XK), Room j (A.deeper (envOfC qual (defScope st) s0.heap.objs.size f cdv)) →
      PSs (cxOf (L2.CX P w) P w k.K mg base N qual (defScope st) f cdv A outer s0 H E) (defBody st) (tS k (fun c d _ H' => E c d H') s)) :
    FnOk P w k.K mg base (L2.CX P w) (j + 1) f fd ps (spM k n c) := by
  subst hc hN
  refine F.ok S (fun vs H Q E h => ?_) (fun cdv A outer s0 H vs Q E hr h => ⟨_, body cdv A outer s0 H E hr, ?_⟩)
  · obtain ⟨W, us, st, o, h0, h1, h2, h3, h4⟩ := h
    rw [h2.len, h0, hn]
  · obtain ⟨W, us, st, o, h0, h1, h2, h3, h4⟩ := h
    unfold callS at h3
    cases e : s (env0 N.length us) st with
    | none =>
      rw [e] at h3
      cases h3
    | some p =>
      obtain ⟨r, env, st'⟩ := p
      rw [e] at h3
      refine ⟨W, _, st, _, h1, RepE.begin h2, e, ?_⟩
      cases r with
      | next =>
        cases h3
        exact fun W' H' σ l o r => h4 W' H' .non l o rfl
      | brk => cases h3
      | cont => cases h3
      | ret v =>
        cases h3
        exact fun W' H' u l o r => h4 W' H' u l o r
      | err x =>
        cases h3
        exact fun W' H' σ c d l o _ r => h4 W' H' c d l o r
end
/-! ### an expression asked over what stands now: lists of the store are read alone -/
/-! ### tables of the own classes -/
def ownL (cs : List Str) (c : Str) : Bool := cs.contains c
theorem ownL_nil {P : Str → Prop} : ∀ c, ownL [] c = true → P c := fun _ h => nomatch h
theorem ownL_cons {P : Str → Prop} {a : Str} {cs : List Str} (h : P a) (r : ∀ c, ownL cs c = true → P c) : ∀ c, ownL (a :: cs) c = true → P c := fun c hc => by
  have e : (c == a || cs.contains c) = true := by
    rw [← List.contains_cons]
    exact hc
  rcases Bool.or_eq_true_iff.mp e with e | e
  · rw [eq_of_beq e]
    exact h
  · exact r c e
def ownT {α : Type} (cs : List (Str × α)) (c : Str) : Option α := cs.lookup c
theorem ownT_nil {α : Type} {P : Str → α → Prop} : ∀ c f, ownT [] c = some f → P c f := fun _ _ h => nomatch h
theorem ownT_cons {α : Type} {P : Str → α → Prop} {a : Str} {g : α} {cs : List (Str × α)} (h : P a g) (r : ∀ c f, ownT cs c = some f → P c f) : ∀ c f, ownT ((a, g) :: cs) c = some f → P c f := fun c f hc => by
  unfold ownT at hc
  rw [List.lookup_cons] at hc
  split at hc
  · rename_i e
    rw [eq_of_beq e]
    cases hc
    exact h
  · exact r c f hc
/-- a class of the text -/
structure ClsK (k : Kx) (c : Str) : Prop where
  t : ClsT k.K (k.cl c)
  kit : ∀ n ∈ tyNames, PySem.W.kitOne k.K (.type n) (.ref (k.cl c)) = some false
theorem kit_mk {K : PySem.W.Frag} {C : Addr} (ic : PySem.W.isClsIn K C = true) (ty : PySem.W.typeIn K (.ref C) = some (.type "type")) (h : ∀ n ∈ tyNames, PySem.W.subIn K (.type n) (.ref C) = some false) : ∀ n ∈ tyNames, PySem.W.kitOne K (.type n) (.ref C) = some false := fun n hn => by
  unfold PySem.W.kitOne
  rw [if_neg (by simp)]
  show (if ((PySem.W.clsIn K C).isSome && PySem.W.typeIn K (.ref C) == some (.type "type")) = true then PySem.W.subIn K (.type n) (.ref C) else none) = _
  rw [if_pos (by rw [ty]; simpa [PySem.W.isClsIn] using ic)]
  exact h n hn
theorem six {P : String → Prop} (h1 : P "NoneType") (h2 : P "bool") (h3 : P "int") (h4 : P "str") (h5 : P "tuple") (h6 : P "list") : ∀ n ∈ tyNames, P n := fun n hn => by
  simp only [tyNames, List.mem_cons, List.not_mem_nil, or_false] at hn
  rcases hn with rfl | rfl | rfl | rfl | rfl | rfl
  · exact h1
  · exact h2
  · exact h3
  · exact h4
  · exact h5
  · exact h6
/-- isinstance against an own class -/
def isiF (n : String) : Option Bool := if n ∈ tyNames then some false else none
section
variable {X : Cx} {k : Kx} {E : WX} {pos p : Pos}
theorem isiF_ok {c : Str} (h : ClsK k c) : ∀ n b, isiF n = some b → PySem.W.kitOne k.K (.type n) (.ref (k.cl c)) = some b := fun n b e => by
  unfold isiF at e
  split at e
  · rename_i hn
    cases e
    exact h.kit n hn
  · cases e
theorem kit_self {c : Str} (h : ClsK k c) : ClsT k.K (k.cl c) ∧ PySem.W.kitOne k.K (.ref (k.cl c)) (.ref (k.cl c)) = some true := ⟨h.t, by unfold PySem.W.kitOne; rw [if_pos (by simp)]⟩
end
theorem rl_nil {k : Kx} {W : Wd} {H : Hp} : RepL k W H [] [] := rfl
theorem rl_str {k : Kx} {W : Wd} {H : Hp} {x : Str} {xs : List Val} {vs : List V} (h : RepL k W H xs vs) : RepL k W H (.str x :: xs) (.str x :: vs) := ⟨_, _, rfl, rfl, h⟩
theorem rl_int {k : Kx} {W : Wd} {H : Hp} {x : Int} {xs : List Val} {vs : List V} (h : RepL k W H xs vs) : RepL k W H (.int x :: xs) (.int x :: vs) := ⟨_, _, rfl, rfl, h⟩
end Mi
namespace Mi
open PySem L2
section
variable {env : Env} {st s1 s2 s3 : Sto}
theorem outN_ok {v : Val} {st' : Sto} (h : noRef v = true) : outN st (some (.ok v, st')) = some (.ok v, st) := if_pos h
theorem runP_ok {c : CF} {us : List Val} {v : Val} {st' : Sto} (hr : noRefs us = true) (hc : c us [] = some (.ok v, st')) (hv : noRef v = true) : runP c us st = some (.ok v, st) := by
  unfold runP
  rw [if_pos hr, hc]
  exact outN_ok hv
theorem popAtV_ref {i : Nat} {xs : List Val} {v : Val} {j : Int} (h : st[i]? = some (.lst xs)) (h0 : 0 ≤ j) (h1 : j < xs.length) (h2 : j < 16000000) (hv : xs[j.toNat]? = some v) : popAtV st (.ref i) [.int j] = some (v, st.set i (.lst (xs.eraseIdx j.toNat))) := by
  show (match st[i]? with | some (.lst xs) => if 0 ≤ j ∧ j < xs.length ∧ j < 16000000 then (match xs[j.toNat]? with | some y => some (y, st.set i (.lst (xs.eraseIdx j.toNat))) | none => none) else none | _ => none) = _
  rw [h]
  dsimp only
  rw [if_pos ⟨h0, h1, h2⟩, hv]
end
end Mi
namespace Mi
open PySem PySem.W PySem.Calls PyProof.Rows Builtin Builtin.ObjectAttr
/-! ### error classes of the text: super().__init__(x); self.f = x -/
/-- the two rows of such an __init__ -/
structure SupB (x f : Str) (body : List Stmt) : Prop where
  ex : ∃ p0 p1 p2 p3 p4 p5 p6 p7 p8 p9, (∀ env : PySem.Env, ∃ pl : Sem Bool, PySem.eval (.Call (.Attribute (.Call (.Name "super" p0) [] [] p1) "__init__" p2) [.Name x p3] [] p4) env = (do
      let ov ← attributeBase (.Call (.Name "super" p0) [] [] p1) "__init__" env (PySem.eval (.Call (.Name "super" p0) [] [] p1) env)
      standAt p2.atName
      let (fu, first) ← holding [ov] (getMethod ov "__init__" pl)
      callWith p4 fu first (backTo p4 (starEach [.Name x p3] env)) [])) ∧ body = [.Expr (.Call (.Attribute (.Call (.Name "super" p0) [] [] p1) "__init__" p2) [.Name x p3] [] p4) p5, .Assign [.Attribute (.Name "self" p6) f p7] (.Name x p8) p9]
structure SupS (x : Str) (sc : Scope) : Prop where
  ks : sc.names.lookup ("super" : Str) = some .globalImplicit
  kc : sc.names.lookup ("__class__" : Str) = some .free
  k0 : sc.names.lookup ("self" : Str) = some .local
  kx : sc.names.lookup x = some .local
  nc : ∀ y ∈ sc.names, y.2 ≠ .cell
  co : sc.isCoroutine = false
  gn : sc.isGenerator = false
  kd : sc.kind = .function
/-- what the written part says of the class C whose __init__ stands at fI -/
structure SupC (prog : Program) (K : Frag) (mg : Str → Option Value) (x f : Str) (B newId i : String) (bmB : List Value) (C fI : Addr) : Prop where
  fb : ExcBaseFacts B newId i bmB
  kf : KxsFacts B i
  sf : StoreFacts B bmB "object.__setattr__" "object"
  q : excInitIn K C bmB newId = true
  ov : excOver K C bmB = true
  hd : ∃ cd, clsIn K C = some cd ∧ cd.hasDict = true
  su : ks_superIn K C C "__init__" = some (some (.builtin i))
  op : nsIn K cStatics "thirdparty.any" = some none
  sb : subIn K (.ref C) (.type B) = some true
  sc : mroIn K C (.ref C) = some true
  sa : findIn K (.ref C) "__setattr__" = some (some (.builtin "object.__setattr__"))
  no : takerIn K C f = some none
  bx : subIn K (.ref C) (.type "BaseException") = some true
  ty : typeIn K (.ref C) = some (.type "type")
  kp : keepIn K (.ref C) = true
  ic : findIn K (.ref C) "__init__" = some (some (.ref fI))
  it : typeIn K (.ref fI) = some (.type "function")
  fn : ∃ oc od osl qual params body scope dV kV doc pm an cda ct cc ccl cdd vs ccs file tf cl cld csl, K.lookup fI = some ⟨oc, od, .func (ksFn "__init__" qual params body scope dV kV doc pm an (.ref cda) ct cc), osl⟩ ∧ codeIn K (.ref cda) qual = true ∧
    SupB x f body ∧ SupS x scope ∧ (params.posonlyargs ++ params.args).head?.map (·.arg) = some ("self" : Str) ∧ (∀ a b : Value, bindArgs (ksFn "__init__" qual params body scope dV kV doc pm an (.ref cda) ct cc) ⟨[a, b], []⟩ = (pure [(("self" : Str), a), (x, b)] : Sem (List (Str × Value)))) ∧
    K.lookup cda = some ⟨ccl, cdd, .fields vs, ccs⟩ ∧ vs[2]? = some (.str file tf) ∧ ((prog.main.file : Str) == file) = true ∧ K.lookup cc = some ⟨cl, cld, .cell (some (.ref C)), csl⟩
  sg : mg "super" = none
  tp : (prog.main.scope.names.lookup ("super" : Str)).isSome = false
  xs : (x == ("self" : Str)) = false
  xd : (x == ("__debug__" : Str)) = false
section
variable {prog : Program} {w : World} {A : Around} {E : Value → Shared → Prop} {R : Result → Shared → Prop} {K : Frag} {mg : Str → Option Value} {x f : Str} {B newId i : String} {bmB : List Value} {C fI : Addr}
variable {hp : Heap} {g : Array GenState} {d : Drawn} {t : Nat} {os : OsState}
/-- a field stored at an error that has no dict -/
theorem sup_store (S : SupC prog K mg x f B newId i bmB C fI) {e : Addr} {fv : Array Value} {v : Value} {Q : Unit → Shared → Prop} (X : K.In hp) (he : hp.get? e = some { cls := .ref C, data := .fields fv })
    (hq : ∀ h' tk' dx, (∀ b o, b ≠ e → hp.get? b = some o → h'.get? b = some o) → hp.objs.size ≤ dx → dx ≠ e → h'.get? e = some { cls := .ref C, dict := some dx, data := .fields fv } →
      h'.Ns1 dx (fun y => if y = f then some v else none) → Q () ⟨h', g, d, tk', os⟩) :
    wpAny (model prog w) A (setAttr (.ref e) f v) Q E ⟨hp, g, d, t, os⟩ := by
  have I : InstAt hp e { cls := .ref C, data := .fields fv } C none := ⟨he, rfl, rfl, trivial⟩
  refine set_plain X I S.sa (osa_openX S.sf X I S.ov S.no fun b => ?_)
  obtain ⟨cd, hcd, hh⟩ := S.hd
  have hxs : e ≠ hp.objs.size := Nat.ne_of_lt (Heap.lt_size he)
  have hcls : Looks (model prog w) hp (classData C) cd := looks_clsIn X hcd
  dsimp only
  obtain ⟨nm, bs, mro, ns, qn, hd, sn, sb, ab, col, del⟩ := cd
  dsimp only at hh
  subst hh
  unfold storeInOwnDict ownDictForStores
  repeat (first | with_reducible refine HandSPX.store_in_new ?_ ?_ | with_reducible refine wpAny_loadPart_at he ?_ | with_reducible refine hcls.at ?_ | wp_step)
  · exact ⟨_, #[], _, (Heap.get?_update_ne _ _ _ _ hxs.symm).trans (Heap.get?_push_at rfl rfl), rfl, fun e he => absurd he (by simp), fun _ => rfl⟩
  · intro h' tk' hn' hs
    have he1 : (hp.push { cls := .type "dict", data := .dict #[] }).get? e = some { cls := .ref C, data := .fields fv } := Heap.get?_push_of_some _ he
    refine hq h' tk' hp.objs.size (fun b o hb ho => ?_) (Nat.le_refl _) hxs.symm ?_ hn'
    · exact (hs.2 b (Nat.ne_of_lt (Heap.lt_size ho))).trans ((Heap.get?_update_ne _ _ _ _ hb).trans (Heap.get?_push_of_some _ ho))
    · exact (hs.2 e hxs).trans (Heap.get?_update_self _ he1 rfl)
/-- super().__init__(..), bound and called -/
theorem sup_call (S : SupC prog K mg x f B newId i bmB C fI) {u e t0 : Addr} {rest : List Value} {Q : Value → Shared → Prop} (X : K.In hp) (he : hp.get? e = some (excObj C t0 none .none)) (hu : hp.get? u = some (kxs_mw i e)) (hr : rest.length ≤ sizeLine)
    (hq : ∀ h' t1, (∀ b o, b ≠ e → hp.get? b = some o → h'.get? b = some o) → h'.get? e = some (excObj C t1 none .none) → Q .none ⟨h', g, d, t, os⟩) :
    wpAny (model prog w) A (call (.ref u) rest) Q E ⟨hp, g, d, t, os⟩ := by
  obtain ⟨nm, N', qn, bs, bm, hdct, sn, sub, ab, col, dd, k0, k1, k2, k3, k5, hC, hT⟩ := excInit_of X S.q
  refine wpAny_call (codeAny_of_tree ?_)
  show wpAny _ A.in1 (callAny (.ref u) ⟨rest, []⟩) _ _ _
  simp only [callAny]
  refine wpAny_bind (wpAny_load hu ?_)
  have z1 : (Value.type "method-wrapper" == Value.type "method" || Value.type "method-wrapper" == Value.type "builtin_function_or_method" || Value.type "method-wrapper" == Value.type "method-wrapper") = true := by decide
  simp only [kxs_mw, z1, if_true]
  refine KFB.if_so (by decide) ?_
  refine wpAny_bind (check_bound_init S.fb.toExcCallFacts hC he rfl ?_)
  refine wpAny_bind (wpAny_pure (wpAny_pure ?_))
  refine ⟨plainId_quiet S.fb.init.plain _, codeAny_builtin S.fb.initEntry ?_⟩
  exact exc_init_tree (cls := .ref C) (t0 := t0) (dv := none) (c2 := .none) (c3 := .none) (b4 := .bool false) he hr fun h' k e' _ => hq h' _ k e'
/-- the __init__ called: the error has a dict with its one field -/
theorem sup_init (S : SupC prog K mg x f B newId i bmB C fI) {e t0 : Addr} {v : Value} {base : Heap} (M : L2.Mod K mg base) (st : ∀ b o, base.get? b = some o → hp.get? b = some o) (hroom : A.depth < recursionLimit) (he : hp.get? e = some (excObj C t0 none .none)) (hbe : base.get? e = none)
    (hq : ∀ h' tk' t1 dx, (∀ b o, b ≠ e → hp.get? b = some o → h'.get? b = some o) → hp.objs.size ≤ dx → dx ≠ e → h'.get? e = some (excObj C t1 (some dx) .none) →
      h'.Ns1 dx (fun y => if y = f then some v else none) → R (.ok (.ret .none)) ⟨h', g, d, tk', os⟩) :
    codeAny (model prog w) A (.call (.ref fI) ⟨[.ref e, v], []⟩) R ⟨hp, g, d, t, os⟩ := by
  have X : K.In hp := M.kin.keeps st
  obtain ⟨oc, od, osl, qual, params, body, scope, dV, kV, doc, pm, an, cda, ct, cc, ccl, cdd, vs, ccs, file, tf, cl, cld, csl, hf, hcd, hB, hS, hself, hbind, hcode, hvs, hfile, hcell⟩ := S.fn
  obtain ⟨p0, p1, p2, p3, p4, p5, p6, p7, p8, p9, hev, rfl⟩ := hB.ex
  obtain ⟨pl, hev⟩ := hev (ksEnv qual scope hp.objs.size fI (.ref cda) cc)
  obtain ⟨ar, har, hnm⟩ := Option.map_eq_some_iff.mp hself
  have hxs := S.xs
  have hsx : (("self" : Str) == x) = false := by
    rw [Bool.eq_false_iff]
    intro z
    rw [(beq_iff_eq.mp z : ("self" : Str) = x)] at hxs
    simp at hxs
  refine ks_codeAny_call_defAt (s := ⟨hp, g, d, t, os⟩) (fd := ksFn "__init__" qual params _ scope dV kV doc pm an (.ref cda) ct cc) (body := _) (binds := [("self", .ref e), (x, v)]) hroom (X _ _ hf) rfl (M.nolimit.keeps st) (codeRec_of X hcd) rfl (BindsTo.of_eq (hbind _ _)) hS.nc ?_ (fun h0 hns k0 => ?_) hS.co hS.gn hS.kd
  · intro y hy
    rcases List.mem_cons.mp hy with rfl | hy
    · exact hS.k0
    · rw [List.mem_singleton.mp hy]
      exact hS.kx
  have X0 : K.In h0 := X.keeps k0
  have m0 : (fun y : Str => List.lookup y ([(("self" : Str), Value.ref e), (x, v)] : List (Str × Value)).reverse) ("self" : Str) = some (.ref e) := by
    show List.lookup ("self" : Str) [(x, v), (("self" : Str), Value.ref e)] = _
    simp [List.lookup, hsx]
  have mx : (fun y : Str => List.lookup y ([(("self" : Str), Value.ref e), (x, v)] : List (Str × Value)).reverse) x = some v := by
    show List.lookup x [(x, v), (("self" : Str), Value.ref e)] = _
    simp [List.lookup]
  generalize (fun y : Str => List.lookup y ([(("self" : Str), Value.ref e), (x, v)] : List (Str × Value)).reverse) = m at hns m0 mx
  have hD : ∃ oD cdD, h0.get? C = some oD ∧ oD.data = .cls cdD := by
    obtain ⟨cd, hcd, _⟩ := S.hd
    unfold clsIn at hcd
    split at hcd
    · rename_i c d cd' sl ho
      exact ⟨_, _, X0 _ _ ho, rfl⟩
    · cases hcd
  obtain ⟨oD, cdD, hD1, hD2⟩ := hD
  obtain ⟨mb, hb1, hb2⟩ := M.blt
  have st0 : ∀ b o, base.get? b = some o → h0.get? b = some o := fun b o z => k0 b o (st b o z)
  have he0 := k0 _ _ he
  have eL : e ≠ hp.objs.size := Nat.ne_of_lt (Heap.lt_size he)
  have hi : interactive (ksEnv qual scope hp.objs.size fI (.ref cda) cc) = false := by simp [interactive, hS.kd]
  refine ks_wpAt_execs_cons (ks_wpAt_Expr_any (env := ksEnv qual scope hp.objs.size fI (.ref cda) cc) (ks_wpAt_MethodCall (pl := pl) (env := ksEnv qual scope hp.objs.size fI (.ref cda) cc) (ks_wpAt_super_base (env := ksEnv qual scope hp.objs.size fI (.ref cda) cc) hS.ks hS.kc (by decide) rfl (X0 _ _ hf) rfl har rfl (X0 _ _ hcode) rfl hvs hfile S.tp ?_) hev) hi)
  refine ks_loadName_global hS.kd hS.ks (loadGlobal_builtin (env := ksEnv qual scope hp.objs.size fI (.ref cda) cc) (M.glob.keeps st0) S.sg (hb1.keeps st0) ((hb2 "super" (by decide)).trans (by first | boot_by_name | rfl | kernel_rfl)) ⟨rfl, ?_⟩)
  refine wpAny_loadName_free hS.kd hS.kc rfl ⟨_, X0 _ _ hcell, rfl⟩ ?_
  rw [hnm]
  refine wpAny_loadName_local hS.kd hS.k0 hns m0 ?_
  refine ks_wpAny_isType_cls hD1 hD2 ⟨rfl, ?_⟩
  refine ks_wpAny_call_super hD1 hD2 he0 rfl (fun c z => nomatch z) (looks_mroIn X0 S.sc) (fun h1 e1 k1 => ?_)
  have X1 : K.In h1 := X0.keeps k1
  have he1 := k1 _ _ he0
  have I1 : InstAt h1 e (excObj C t0 none .none) C none := ⟨he1, rfl, rfl, trivial⟩
  obtain ⟨cd, hcd', hdd⟩ := S.hd
  have hsu := S.su
  unfold ks_superIn at hsu
  rw [hcd'] at hsu
  refine kxs_getMethod S.kf e1 (looks_opaque X1 S.op) (l₀ := cd.mro) (fun A Q E s k q => wpAny_bind ((looks_clsIn X1 hcd') A _ E s k (wpAny_pure q))) rfl X1 hsu (I1.type.andThen (looks_subIn X1 S.sb)) (ks_ne X1 I1 hcd') (by decide) ?_
  have hn1 := (hns.keeps k1).keeps (fun b o z => Heap.get?_push_of_some (h := h1) (kxs_mw i e) z)
  refine kxs_callWith (i := i) (x := e) (by rfl) (evalArgs_plain ?_)
  refine Calls.spliced_cons (wpAny_Name (wpAny_loadName_local (env := ksEnv qual scope hp.objs.size fI (.ref cda) cc) hS.kd hS.kx hn1 mx ?_) S.xd)
  refine Calls.spliced_nil ⟨Heap.get?_push_at rfl rfl, ?_⟩
  have he2 := Heap.get?_push_of_some (kxs_mw i e) he1
  have X2 := X1.keeps (fun b o z => Heap.get?_push_of_some (h := h1) (kxs_mw i e) z)
  refine sup_call S X2 he2 (Heap.get?_push_at rfl rfl) (by show 1 ≤ _; decide) fun h3 t1 k3 e3 => ?_
  have hn3 : h3.Ns hp.objs.size m := by
    obtain ⟨oL, es, ep, hL, r⟩ := hn1
    exact ⟨oL, es, ep, k3 _ _ (Ne.symm eL) hL, r⟩
  have X3 : K.In h3 := M.kin.keeps fun b o z => k3 b o (fun y => by rw [y, hbe] at z; cases z) (Heap.get?_push_of_some _ (k1 b o (st0 b o z)))
  refine wpAt_of_wpAny (wpAny_execs_cons (plainObj_wpAny_Assign_Attribute (wpAny_Name (wpAny_loadName_local (env := ksEnv qual scope hp.objs.size fI (.ref cda) cc) hS.kd hS.kx hn3 mx ?_) S.xd)))
  refine wpAny_Name (wpAny_loadName_local (env := ksEnv qual scope hp.objs.size fI (.ref cda) cc) hS.kd hS.k0 hn3 m0 ?_) (by decide)
  refine sup_store S X3 e3 fun h4 tk4 dx k4 d1 d2 e4 n4 => ?_
  refine wpAny_execs_nil (hq h4 tk4 t1 dx (fun b o hb z => k4 b o hb (k3 b o hb (Heap.get?_push_of_some _ (k1 b o (k0 b o z))))) (Nat.le_trans ?_ d1) d2 e4 n4)
  obtain ⟨oL, _, _, hL, _⟩ := hn3
  exact Nat.le_of_lt (Heap.lt_size hL)
end
end Mi
namespace Mi
open PySem L2
/-- C(e) of such a class -/
def tMkSup (C : Addr) (f : Str) (ta : TA) : L2.St → Hp → XK → Prop := fun σ H Q => ta σ H fun vs H1 => ∃ v, vs = [v] ∧ ∀ d, H1 d = none → Q (.ref C) (some d) (upd H1 d (.xd [(f, v)]))
theorem pmk_sup {X : Cx} {nm px f : Str} {B newId i : String} {bmB : List Value} {C fI : Addr} {e : Expr} {ta : TA} {p pos : Pos} (S : SupC X.prog X.K X.mg px f B newId i bmB C fI) (hr : Room 1 X.A) (hg : Gl X nm) (hm : X.mg nm = some (.ref C)) (ha : PA X [e] ta)
    (hdb : (nm == ("__debug__" : Str)) = false := by decide) (he : starEach [e] X.env = (false, PySem.eval e X.env) :: starEach [] X.env := by rfl) : PMk X (.Call (.Name nm p) [e] [] pos) (tMkSup C f ta) := by
  intro pins s σ H Q I h
  refine wpAny_Call_Name_kw (ld_glob I hg hm ?_ hdb)
  refine PySem.W.callWith_K (h₀ := X.base) I.ok.mod.kin S.kp (thn (ha.run pos pins s σ H _ I h) fun us s1 ⟨vs, H1, I1, r1, v, ev, q1⟩ => ⟨I1.kIn, ?_⟩) he rfl
  subst ev
  show wpAny _ _ (call (.ref C) us) _ _ _
  obtain ⟨hp, g, dr, tk, os⟩ := s1
  obtain ⟨u, rfl, ru⟩ : ∃ u, us = [u] ∧ RelV v u := by
    cases r1 with
    | cons a b =>
      cases b
      exact ⟨_, rfl, a⟩
  obtain ⟨nm', N', qn, bs, bm, hdct, sn, sub, ab, col, dd, k0, k1, k2, k3, k5, hC, hT⟩ := PySem.W.excInit_of I1.kIn S.q
  have kk : ∀ b o, hp.get? b = some o → ((hp.push (PySem.W.kdv_tup [u])).push (PySem.HandSPX.excO C hp.objs.size)).get? b = some o := fun b o e => Heap.get?_push_of_some _ (Heap.get?_push_of_some _ e)
  have hget : ((hp.push (PySem.W.kdv_tup [u])).push (PySem.HandSPX.excO C hp.objs.size)).get? (hp.objs.size + 1) = some (PySem.HandSPX.excO C hp.objs.size) := by heap_get
  have hbe : X.base.get? (hp.objs.size + 1) = none := by
    cases z : X.base.get? (hp.objs.size + 1) with
    | none => rfl
    | some o => exact absurd (Heap.lt_size (I1.bk _ _ z)) (Nat.not_lt.mpr (Nat.le_succ _))
  refine wpAny_call (PySem.HandSPX.call_own S.fb hT hC (PySem.W.looks_findIn I1.kIn S.ic) (fun self => PySem.W.bind_fn I1.kIn self S.it) (by show 1 ≤ _; decide) ?_)
  refine sup_init S I1.mod (fun b o z => kk b o (I1.bk b o z)) (hr.make C [u] []).depth hget hbe fun h2 tk2 t1 dx k2 d1 d2 e2 n2 => ?_
  have dz : hp.objs.size ≤ dx := by
    rw [Heap.size_push, Heap.size_push] at d1
    omega
  obtain ⟨G, g1, g2⟩ := restrict h2 fun b => decide (b ≠ hp.objs.size + 1)
  have gk : ∀ b, b ≠ hp.objs.size + 1 → G.get? b = h2.get? b := fun b hb => g1 b (decide_eq_true hb)
  have ge : G.get? (hp.objs.size + 1) = none := g2 _ (by simp)
  have nd : ∀ {b : Addr} {o : Obj}, hp.get? b = some o → b ≠ hp.objs.size + 1 := fun {b o} z => Nat.ne_of_lt (Nat.lt_of_lt_of_le (Heap.lt_size z) (Nat.le_succ _))
  have hn1 : H1 dx = none := I1.hok.fresh dz
  have J : L2.Inv X pins σ (upd H1 dx (.xd [(f, v)])) ⟨G, g, dr, tk2, os⟩ := I1.laid (t' := tk2) (a := dx) (o := .xd [(f, v)]) (h' := G) (fun b o z => by
      rw [gk b (nd z)]
      exact k2 b o (nd z) (kk b o z)) dz ⟨_, n2.at fun o y => (gk dx d2).trans y, fun y => by
      by_cases hy : y = f
      · subst hy
        simp [List.lookup, RelO]
        exact ru
      · have hb : (y == f) = false := by simpa using hy
        simp [List.lookup, hb, hy, RelO]⟩
  refine ⟨rfl, hp.objs.size + 1, _, _, ⟨G, g, dr, tk2, os⟩, _, .ref C, some dx, rfl, J, fun b o z => ?_, ge, e2, ⟨rfl, rfl⟩, rfl, rfl, ?_, rfl, I1.bare, raises_own S.bx S.ty, q1 dx hn1⟩
  · by_cases hb : b = hp.objs.size + 1
    · rw [hb, ge] at z
      cases z
    · exact (gk b hb).symm.trans z
  · rw [upd_ne (Ne.symm d2)]
    exact I1.hok.fresh (Nat.le_succ _)
end Mi
namespace Mi
open PySem L2
/-! ### raise -/
/-- raise c(..), c an error class whose fields are fs -/
def sRaise (c : Str) (fs : List Str) (ms : M (List Val)) : S := sBnd ms fun vs env st => if fs.length = vs.length then some (.err ⟨c, fs, vs⟩, env, st) else none
section
variable {X : Cx} {k : Kx} {E : WX}
theorem ms_raise {c nm px f : Str} {B newId i : String} {bmB : List Value} {fI : Addr} {e : Expr} {ms : M (List Val)} {p pos pos' : Pos} (S : SupC X.prog X.K X.mg px f B newId i bmB (k.cl c) fI) (hc : X.calm = true) (tk : Takes X E) (hr : Room 1 X.A) (hg : Gl X nm) (hm : X.mg nm = some (.ref (k.cl c))) (ha : PA X [e] (tMa k E ms))
    (hdb : (nm == ("__debug__" : Str)) = false := by decide) (he : starEach [e] X.env = (false, PySem.eval e X.env) :: starEach [] X.env := by rfl) : PS X (.Raise (some (.Call (.Name nm p) [e] [] pos)) none pos') (tS k E (sRaise c [f] ms)) :=
  impS (ps_raise hc tk (pmk_sup S hr hg hm ha hdb he)) fun D σ H h => tG.mono (tS.bnd (R := RepL k) h) fun vs H1 ⟨W, us, ru, env, st, o, h1, h2, h3, h4⟩ => by
    dsimp only at h3
    split at h3
    · rename_i hl
      cases h3
      obtain ⟨y, rfl⟩ : ∃ y, us = [y] := by
        cases us with
        | nil => cases hl
        | cons y l =>
          cases l with
          | nil => exact ⟨y, rfl⟩
          | cons z l => simp at hl
      obtain ⟨v, r, rfl, r1, r2⟩ := ru
      obtain rfl : r = [] := r2
      refine ⟨v, rfl, fun d hd => ?_⟩
      have l : Le W W H1 (upd H1 d (.xd [(f, v)])) := Le.new hd
      exact h4 W _ σ _ _ l (h1.new hd) (h2.le l) ⟨rfl, rfl, .inr ⟨d, [v], rfl, upd_same, v, [], rfl, r1.le l, rfl⟩⟩
    · cases h3
/-- a class without an own __init__, called with nothing -/
theorem pmk_own0 {C : Addr} {bmB : List Value} {B newId initId : String} {x : Str} {p pos : Pos} (F : ExcBaseFacts B newId initId bmB) (q : PySem.W.excIn X.K C bmB newId = true) (gC : X.mg x = some (.ref C))
    (kC : PySem.W.keepIn X.K (.ref C) = true) (r : Raises X (.ref C)) (hg : Gl X x) (hdb : (x == ("__debug__" : Str)) = false := by decide) :
    PMk X (.Call (.Name x p) [] [] pos) (fun _ H Q => Q (.ref C) none H) := by
  intro pins s σ H Q I h
  refine wpAny_Call_Name_kw (ld_glob I hg gC ?_ hdb)
  refine PySem.W.callWith_K0 I.kIn kC ?_
  show wpAny _ _ (call (.ref C) []) _ _ _
  obtain ⟨hp1, g1, d1, tk1, os1⟩ := s
  obtain ⟨bm, N, nm, qn, bs, hdct, sn, sub, ab, col, dd, k0, k1, k2, k3, k5, mN, hC, hN, hni, T⟩ := exc_obj I.kIn q
  refine wpAny_call_exc_subT F T hC hN hni (fun h' e hm => ?_) (by show 0 ≤ _; omega)
  exact mk_of I hm r h (I.hok.gone hm.new)
/-- what the written part says of an error class without an own __init__ -/
structure Sup0 (K : PySem.W.Frag) (B newId initId : String) (bmB : List Value) (C : Addr) : Prop where
  fb : ExcBaseFacts B newId initId bmB
  q : PySem.W.excIn K C bmB newId = true
  bx : PySem.W.subIn K (.ref C) (.type "BaseException") = some true
  ty : PySem.W.typeIn K (.ref C) = some (.type "type")
  kp : PySem.W.keepIn K (.ref C) = true
theorem ms_raise0 {c nm : Str} {B newId initId : String} {bmB : List Value} {p pos pos' : Pos} (S : Sup0 X.K B newId initId bmB (k.cl c)) (hc : X.calm = true) (tk : Takes X E) (hg : Gl X nm) (hm : X.mg nm = some (.ref (k.cl c)))
    (hdb : (nm == ("__debug__" : Str)) = false := by decide) : PS X (.Raise (some (.Call (.Name nm p) [] [] pos)) none pos') (tS k E (sRaise c [] nilM)) :=
  impS (ps_raise hc tk (pmk_own0 S.fb S.q hm S.kp (raises_own S.bx S.ty) hg hdb)) fun D σ H ⟨W, env, st, o, h1, h2, h3, h4⟩ => by
    cases h3
    exact h4 W H σ _ _ (Le.refl W H) h1 h2 ⟨rfl, rfl, .inl ⟨rfl, rfl⟩⟩
/-! ### try -/
/-- the same values, whatever is handled -/
def Kx.hd (k : Kx) (z : Option (Addr × Value × Option Addr)) : Kx := ⟨k.K, k.cl, z, k.w⟩
mutual
theorem RepV.hd {z : Option (Addr × Value × Option Addr)} {W : Wd} {H : Hp} : ∀ {v : Val} {u : V}, RepV k W H v u → noRef v = true → RepV (k.hd z) W H v u
  | .non, _, h, _ => h
  | .bl _, _, h, _ => h
  | .int _, _, h, _ => h
  | .str _, _, h, _ => h
  | .tup xs, _, h, n => by
    obtain ⟨p, vs, e, s, r⟩ := h
    exact ⟨p, vs, e, s, RepL.hd r n⟩
  | .lst xs, _, h, n => by
    obtain ⟨p, vs, e, f, s, r⟩ := h
    exact ⟨p, vs, e, f, s, RepL.hd r n⟩
  | .rol xs, _, h, n => by
    obtain ⟨p, vs, e, s, r⟩ := h
    exact ⟨p, vs, e, s, RepL.hd r n⟩
  | .ins c ks xs, _, h, n => by
    obtain ⟨p, dx, vs, e, f, s, n1, r⟩ := h
    exact ⟨p, dx, vs, e, f, s, n1, RepL.hd r n⟩
  | .ref i, _, _, n => nomatch n
  | .exv _ _ _, _, _, n => nomatch n
  | .cls _, _, h, _ => h
  | .tpd xs, _, h, n => by
    obtain ⟨p, o, vs, e, s, d, r⟩ := h
    exact ⟨p, o, vs, e, s, d, RepL.hd r n⟩
theorem RepL.hd {z : Option (Addr × Value × Option Addr)} {W : Wd} {H : Hp} : ∀ {v : List Val} {u : List V}, RepL k W H v u → noRefs v = true → RepL (k.hd z) W H v u
  | [], _, h, _ => h
  | y :: ys, _, h, n => by
    obtain ⟨v, r, e, h1, h2⟩ := h
    have n' := Bool.and_eq_true_iff.mp n
    exact ⟨v, r, e, RepV.hd h1 n'.1, RepL.hd h2 n'.2⟩
end
/-- no name: nothing of the error is asked -/
def tryN (own : Str → Option Bool) (suite : S) (x : Exc) (env : Env) (st : Sto) : Option (Out × Env × Sto) := match own x.cls with
  | some true => match suite env st with
    | some (.err _, _, _) => none
    | o => o
  | some false => some (.err x, env, st)
  | none => none
def sTryN (own : Str → Option Bool) (b suite : S) : S := fun env st => match b env st with
  | some (.err x, env1, st1) => tryN own suite x env1 st1
  | o => o
theorem FinS.wx {E' : WX} {W : Wd} {H : Hp} {D : Ends} {o : Out × Env × Sto} (h : FinS k E W H D o) (n : ∀ x env st, o ≠ (.err x, env, st)) : FinS k E' W H D o := by
  obtain ⟨r, env, st⟩ := o
  cases r with
  | err x => exact absurd rfl (n x env st)
  | _ => exact h
theorem ms_tryN {x : Str} {c : Value} {body suite : List Stmt} {b₀ : Stmt} {np pos pos' : Pos} {b s : S} {own : Str → Option Bool} (hs : X.stack = X.env :: X.outer) (hf : X.env.frame = some X.env.locals) (hc : Names X x c) (tk : Takes X E) (ho : ∀ n t, own n = some t → PySem.W.exmOne X.K (.ref (k.cl n)) c = some t)
    (hb : ∀ (W : WX) (pn : List (Addr × Obj)) (xe : Value → Shared → Prop), Takes (X.tr pn xe) W → PassesOwn (model X.prog X.w) X.A X.env xe → PSs (X.tr pn xe) body (tS k W b))
    (hsu : ∀ (a : Addr) (oe : Obj) (pn : List (Addr × Obj)), (∃ vs, oe.data = .fields vs) → PSs (X.suite a ((a, oe) :: pn)) (b₀ :: suite) (tS k (fun _ _ _ _ => False) s)) :
    PS X (.Try body [.ExceptHandler (some (.Name x np)) none (b₀ :: suite) pos'] [] [] pos) (tS k E (sTryN own b s)) :=
  impS (ps_try_only hs hf hc tk hb fun a oe cls d pn _ hv => hsu a oe pn hv) fun D σ H ⟨W, env, st, o, h1, h2, h3, h4⟩ => by
    unfold sTryN at h3
    cases q : b env st with
    | none =>
      rw [q] at h3
      cases h3
    | some o' =>
      rw [q] at h3
      obtain ⟨r, env1, st1⟩ := o'
      refine ⟨W, env, st, _, h1, h2, q, ?_⟩
      cases r with
      | err y =>
        intro W' H' σ' cc d l o' r' rx
        dsimp only at h3
        unfold tryN at h3
        obtain ⟨rfl, _, _⟩ := rx
        cases q2 : own y.cls with
        | none =>
          rw [q2] at h3
          cases h3
        | some t =>
          rw [q2] at h3
          refine ⟨t, ho _ _ q2, fun ht a na => ?_, fun ht => ?_⟩
          · subst ht
            dsimp only at h3
            cases q3 : s env1 st1 with
            | none =>
              rw [q3] at h3
              cases h3
            | some o3 =>
              rw [q3] at h3
              obtain ⟨r3, env3, st3⟩ := o3
              refine ⟨W', env1, st1, _, o', r', q3, ?_⟩
              cases r3 with
              | err z => cases h3
              | _ =>
                cases h3
                exact FinS.wx (h4.le l) (fun _ _ _ z => nomatch z)
          · subst ht
            cases h3
            exact h4 W' H' σ' _ _ l o' r' ⟨rfl, ‹_›, ‹_›⟩
      | _ =>
        cases h3
        exact FinS.wx h4 (fun _ _ _ z => nomatch z)
end
end Mi
namespace Mi
open PySem L2
/-! ### the handled error: its fields, its class -/
end Mi
namespace Mi
open PySem PySem.Spec PyProof.Rows L2
/-! ### sets of ints and texts: their members as a list without repetition -/
def kof : Value → Option Key
  | .int k _ => some (.inl k)
  | .str x _ => some (.inr x)
  | _ => none
theorem kof_is {k : Key} {v : Value} : keyIs k v = true ↔ kof v = some k := by
  constructor
  · intro h
    rcases keyIs_shape h with ⟨i, t, rfl, rfl⟩ | ⟨x, t, rfl, rfl⟩ <;> rfl
  · intro h
    cases v with
    | int i t => cases h; exact keyIs_int i t
    | str x t => cases h; exact keyIs_str x t
    | _ => cases h
theorem kof_scan {k : Key} {v : Value} (h : kof v = some k) : v.scannable = true := by
  cases v with
  | int i t => rfl
  | str x t => rfl
  | _ => cases h
def GoodK (w : World) (e : Int × Value) : Prop := ∃ k, kof e.2 = some k ∧ e.1 = keyH w k
def hasK (ks : List Key) (k : Key) : Bool := ks.any fun j => decide (j = k)
def addK (ks : List Key) (k : Key) : List Key := if hasK ks k then ks else ks ++ [k]
theorem has_iff {ks : List Key} {k : Key} : hasK ks k = true ↔ k ∈ ks := by simp [hasK]
def SetG (w : World) (h : Heap) (a : Addr) (ks : List Key) : Prop :=
  ∃ o es ep t, h.get? a = some o ∧ o.ExactSet ∧ o.data = .set es ep t ∧ (∀ e ∈ es.toList, GoodK w e) ∧ (es.toList.map fun e => kof e.2).Perm (ks.map some) ∧ ks.Nodup ∧ es.size < scanBound ∧ t.fits es.size = true ∧
    Ris t.place.toList ∧ (w.params.followText "set-order" = true ∨ t.led = true)
section
variable {P : Program} {w : World} {A : Around} {E : Value → Shared → Prop} {s : Shared} {a : Addr} {ks : List Key} {k : Key}
theorem SetG.at {h h' : Heap} (R : SetG w h a ks) (kp : ∀ o, h.get? a = some o → h'.get? a = some o) : SetG w h' a ks := by
  obtain ⟨o, es, ep, t, ho, r⟩ := R
  exact ⟨o, es, ep, t, kp o ho, r⟩
theorem goods {l : List (Int × Value)} (g : ∀ e ∈ l, GoodK w e) : ElemsOf (mixKind P w) l := fun e he => by
  obtain ⟨k, h1, h2⟩ := g e he
  exact ⟨⟨k, kof_is.mpr h1, h2⟩, kof_scan h1⟩
theorem mem_some {ks : List Key} {k : Key} : some k ∈ ks.map some ↔ k ∈ ks := by simp
theorem setG_tail {gv : Bool → Sem Unit} (hg : ∀ (b : Bool) (s1 : Shared) (Q' : Unit → Shared → Prop), Q' () s1 → wpAny (model P w) A (gv b) Q' E s1)
    {o : Obj} {es e1 : Array (Int × Value)} {ep : Nat} {t t2 : SetTable} (ho : s.heap.get? a = some o) (hx : o.ExactSet) (hd : o.data = .set es ep t) (g1 : ∀ e ∈ e1.toList, GoodK w e) (p1 : (e1.toList.map fun e => kof e.2).Perm (ks.map some)) (nd : ks.Nodup)
    (b1 : e1.size < scanBound) (f2 : t2.fits e1.size = true) (r2 : Ris t2.place.toList) (l2 : w.params.followText "set-order" = true ∨ t2.led = true) {dm : Bool} {R : Option Bool → Shared → Prop}
    (hR : ∀ h', Heap.SameBut a s.heap h' → SetG w h' a ks → R (some true) { s with heap := h' }) :
    wpAny (model P w) A (do
        storeSet a e1 t2
        if (!dm && t2.tooFull) = true then do
            gv (relayAll t2 e1 (SetTable.grown e1.size)).2.2
            storeSet a (relayAll t2 e1 (SetTable.grown e1.size)).1 (relayAll t2 e1 (SetTable.grown e1.size)).2.1
            pure (some true)
          else pure (some true)) R E s := by
  refine wpAny_bind (wpAny_storeSet_of ho hd ?_ (fits_of_scanBound b1))
  have q1 := store_at (es' := e1) (t' := t2) ho hd
  have sb := Heap.SameBut.update s.heap a (Obj.putSet e1 t2)
  split
  · have pm := relayAll_perm t2 e1 (SetTable.grown e1.size)
    have f3 := relayAll_fits t2 e1 (SetTable.grown e1.size)
    have r3 := relayAll_ris t2 e1 (SetTable.grown e1.size)
    have l3 := relayAll_led t2 e1 (SetTable.grown e1.size)
    generalize relayAll t2 e1 (SetTable.grown e1.size) = Z at pm f3 r3 l3 ⊢
    obtain ⟨e2, t3, gave⟩ := Z
    dsimp only at pm f3 r3 l3 ⊢
    have z2 : e2.size = e1.size := by rw [← Array.length_toList, pm.length_eq, Array.length_toList]
    have b2 : e2.size < scanBound := z2 ▸ b1
    refine wpAny_bind (hg _ _ _ (wpAny_bind (wpAny_storeSet_of q1 rfl ?_ (fits_of_scanBound b2))))
    have q2 := store_at (es' := e2) (t' := t3) q1 rfl
    exact wpAny_pure (hR _ (sb.trans (Heap.SameBut.update _ a _)) ⟨_, e2, _, t3, q2, hx, rfl, fun e he => g1 e (pm.mem_iff.mp he), (pm.map _).trans p1, nd, b2, f3, r3, l2.imp id fun z => l3.trans z⟩)
  · exact wpAny_pure (hR _ sb ⟨_, e1, _, t2, q1, hx, rfl, g1, p1, nd, b1, f2, r2, l2⟩)
theorem setG_addH {v : Value} {Q : Bool → Shared → Prop} (hk : kof v = some k) (R : SetG w s.heap a ks) (room : ks.length + 1 < scanBound)
    (hQ : ∀ b h', Heap.SameBut a s.heap h' → SetG w h' a (addK ks k) → Q b { s with heap := h' }) : wpAny (model P w) A (setAddHashed a v ((mixKind P w).hash k)) Q E s := by
  obtain ⟨o, es, ep, t, ho, hx, hd, g, pm0, nd, hb, hf, hr, hl⟩ := R
  have hkey : (mixKind P w).is k v = true := kof_is.mpr hk
  have hsc := kof_scan hk
  have hel : ElemsOf (mixKind P w) es.toList := goods g
  unfold setAddHashed setAddHashedIn
  refine wpAny_holding (wpAny_bind (wpAny_setState_of ho hd hf ?_))
  dsimp only
  rw [byScan_of hsc hb hel]
  simp only [↓reduceIte]
  unfold setAddByScan
  refine wpAny_bind (wpAny_bind (wpAny_rule (wpAny_bind (wpAny_setScan_of hkey ho hd hf hel ?_))))
  cases hfi : List.findIdx? (fun e => (mixKind P w).is k e.2) es.toList with
  | some j =>
    dsimp only
    obtain ⟨hj, pj, _⟩ := List.findIdx?_eq_some_iff_getElem.mp hfi
    have hin : k ∈ ks := mem_some.mp (pm0.mem_iff.mp (List.mem_map.mpr ⟨es.toList[j], List.getElem_mem hj, kof_is.mp pj⟩))
    refine wpAny_pure (wpAny_pure (hQ _ s.heap (Heap.SameBut.refl a s.heap) ?_))
    unfold addK
    rw [if_pos (has_iff.mpr hin)]
    exact ⟨o, es, ep, t, ho, hx, hd, g, pm0, nd, hb, hf, hr, hl⟩
  | none =>
    dsimp only
    have hout : k ∉ ks := fun z => by
      obtain ⟨e, he, q⟩ := List.mem_map.mp (pm0.mem_iff.mpr (mem_some.mpr z))
      have c := List.findIdx?_eq_none_iff.mp hfi e he
      rw [show (mixKind P w).is k e.2 = true from kof_is.mpr q] at c
      cases c
    have hgw : ∀ (b : Bool) {s1 : Shared} {Q' : Unit → Shared → Prop}, Q' () s1 → wpAny (model P w) A (match b with | true => rule "set.scan.the-table-gave-way" | false => pure ()) Q' E s1 :=
      fun b s1 Q' q => by cases b <;> first | exact wpAny_pure q | exact wpAny_rule q
    have pm := layNew_perm t es ((mixKind P w).hash k) v
    have hf1 := layNew_fits t es ((mixKind P w).hash k) v
    have hr1 := layNew_ris t es ((mixKind P w).hash k) v hr
    have hl1 := layNew_led t es ((mixKind P w).hash k) v
    generalize layNew t es ((mixKind P w).hash k) v = Z at pm hf1 hr1 hl1 ⊢
    obtain ⟨e1, t1, dm, gave⟩ := Z
    dsimp only at pm hf1 hr1 hl1 ⊢
    rw [Array.toList_push] at pm
    have pc : e1.toList.Perm (((mixKind P w).hash k, v) :: es.toList) := pm.trans (List.perm_append_singleton _ _)
    have g1 : ∀ e ∈ e1.toList, GoodK w e := fun e he => by
      rcases List.mem_cons.mp (pc.mem_iff.mp he) with z | z
      · rw [z]; exact ⟨k, hk, rfl⟩
      · exact g e z
    have ea : addK ks k = ks ++ [k] := if_neg fun z => hout (has_iff.mp z)
    have p1 : (e1.toList.map fun e => kof e.2).Perm ((addK ks k).map some) := by
      rw [ea, List.map_append]
      refine (pc.map _).trans ?_
      rw [List.map_cons]
      dsimp only
      rw [hk]
      exact (pm0.cons _).trans (List.perm_append_singleton _ _).symm
    have nd1 : (addK ks k).Nodup := by
      rw [ea, List.nodup_append]
      exact ⟨nd, by simp, fun x hx y hy => by rw [List.mem_singleton.mp hy]; exact fun z => hout (z ▸ hx)⟩
    have b1 : e1.size < scanBound := by
      have z := p1.length_eq
      rw [List.length_map, List.length_map, Array.length_toList, ea, List.length_append] at z
      rw [z]
      exact room
    have hled : w.params.followText "set-order" = true ∨ t1.led = true := hl.imp id fun z => hl1.trans z
    refine wpAny_bind (hgw _ ?_)
    split
    · refine wpAny_bind ?_
      rw [hashByValue_scannable 8 hsc]
      refine wpAny_pure (setG_tail (ks := addK ks k) ?_ ho hx hd g1 p1 nd1 b1 ?_ ?_ ?_ ?_)
      · intro b s1 Q' q; cases b <;> first | exact wpAny_pure q | exact wpAny_rule q
      · first | (split <;> first | exact hf1 | exact SetTable.fits_plain_off hf1) | exact hf1
      · first | (split <;> exact hr1) | exact hr1
      · first | (split <;> exact hled) | exact hled
      · intro h' sb r; dsimp only; exact wpAny_pure (hQ _ h' sb r)
    · refine wpAny_bind (wpAny_pure ?_)
      simp only [↓reduceIte]
      refine setG_tail (ks := addK ks k) ?_ ho hx hd g1 p1 nd1 b1 hf1 hr1 hled ?_
      · intro b s1 Q' q; cases b <;> first | exact wpAny_pure q | exact wpAny_rule q
      · intro h' sb r; dsimp only; exact wpAny_pure (hQ _ h' sb r)
abbrev noSet (w : World) : Obj := { cls := .type "set", dict := none, data := .set #[] 0 (.fresh 0 0 (!w.params.followText "set-order")) }
theorem setG_fresh {h : Heap} (ho : h.get? a = some (noSet w)) : SetG w h a [] :=
  ⟨_, #[], 0, _, ho, ⟨rfl, rfl, rfl⟩, rfl, (fun e he => by simp at he), List.Perm.nil, List.nodup_nil, (by decide), (by rfl), List.Pairwise.nil, by
    show _ ∨ (!w.params.followText "set-order") = true
    cases w.params.followText "set-order" <;> simp⟩
theorem SetG.len_eq {h : Heap} (R : SetG w h a ks) : ∃ o es ep t, h.get? a = some o ∧ o.ExactSet ∧ o.data = .set es ep t ∧ t.fits es.size = true ∧ es.size = ks.length ∧ es.size < scanBound := by
  obtain ⟨o, es, ep, t, ho, hx, hd, g, pm, nd, hb, hf, _⟩ := R
  have z := pm.length_eq
  rw [List.length_map, List.length_map, Array.length_toList] at z
  exact ⟨o, es, ep, t, ho, hx, hd, hf, z, hb⟩
theorem len_setG {Q : Value → Shared → Prop} (R : SetG w s.heap a ks) (h : Q (.int ks.length (s.toks + 1)) { s with toks := s.toks + 1 + 1 }) : wpAny (model P w) A (call (.builtin "len") [.ref a]) Q E s := by
  obtain ⟨o, es, ep, t, ho, hx, hd, hf, z, hb⟩ := R.len_eq
  refine call_len_set ho hx hd hf (by have : scanBound ≤ 1048577 := by decide
                                      omega) ?_
  rw [z]
  exact h
end
/-- distinct, in their first order -/
def addAll (ks : List Key) : List Key → List Key
  | [] => ks
  | k :: r => addAll (addK ks k) r
theorem addK_len {ks : List Key} {k : Key} : (addK ks k).length ≤ ks.length + 1 := by
  unfold addK
  split <;> simp
theorem addAll_len : ∀ {js ks : List Key}, (addAll ks js).length ≤ ks.length + js.length
  | [], ks => Nat.le_refl _
  | j :: js, ks => by
    have h1 := addAll_len (js := js) (ks := addK ks j)
    have h2 := addK_len (ks := ks) (k := j)
    show (addAll (addK ks j) js).length ≤ _
    rw [List.length_cons]
    omega
theorem addAll_snoc {ks : List Key} {k : Key} : ∀ {js ks : List Key}, addAll ks (js ++ [k]) = addK (addAll ks js) k
  | [], ks => rfl
  | j :: js, ks => addAll_snoc (k := k) (ks := addK ks j) (js := js)
section
variable {prog : Program} {w : World} {A : Around} {R : Result → Shared → Prop} {I : Addr} {fp wr : List Addr} {G : Array GenState → Array GenState → Prop} {n : Nat} {Pv : Nat → Value → Prop} {St : Nat → Shared → Prop}
theorem loopG (W : WalksS prog w A.in1 I fp wr G n Pv St) (S : Addr) (hSf : S ∉ fp) (xs : List Key) (hsz : xs.length = n) (hb : n + 1 < scanBound) (hval : ∀ i v, Pv i v → kof v = xs[i]?) :
    ∀ (m i : Nat) (s : Shared), n - i = m → i ≤ n → St i s → SetG w s.heap S (addAll [] (xs.take i)) → (∀ s', Moved (S :: wr) G s s' → SetG w s'.heap S (addAll [] xs) → R (.ok (.ret .none)) s') →
      codeAny (model prog w) A (.builtin "set.update.loop" ⟨[.ref S, .ref I], []⟩) R s := by
  have hSw : S ∉ wr := fun h => hSf (W.sub _ h)
  have more : ∀ b ∈ wr, b ∈ S :: wr := fun b hb => List.mem_cons_of_mem _ hb
  intro m
  induction m with
  | zero =>
    intro i s hm hi hst hS hR
    obtain rfl : i = n := by omega
    rw [← hsz, List.take_length] at hS
    refine codeAny_builtin F.entry_set_update_loop ?_
    rw [Around.under_plainId F.plain_set_update_loop _]
    show wpAny _ A.in1 (pyNext (.ref I) >>= _) _ _ s
    exact wpAny_bind (W.done s _ _ hst fun s' mv => wpAny_pure (hR s' (mv.mono more) (hS.at fun o z => mv.heap S _ hSw z)))
  | succ m ih =>
    intro i s hm hi hst hS hR
    have hlt : i < n := by omega
    have hix : i < xs.length := by omega
    refine codeAny_builtin F.entry_set_update_loop ?_
    rw [Around.under_plainId F.plain_set_update_loop _]
    show wpAny _ A.in1 (pyNext (.ref I) >>= _) _ _ s
    refine wpAny_bind (W.item i s _ _ hlt hst fun v s' hP hst' mv => ?_)
    have hk := hval i v hP
    rw [List.getElem?_eq_getElem hix] at hk
    have hS' : SetG w s'.heap S (addAll [] (xs.take i)) := hS.at fun o z => mv.heap S _ hSw z
    show wpAny _ A.in1 (holding [v] (setAdd S v) >>= _) _ _ s'
    refine wpAny_bind (wpAny_holding ?_)
    unfold setAdd
    refine wpAny_holding (wpAny_bind ((mixKind prog w).pyHash (kof_is.mpr hk) ?_))
    have room : (addAll [] (xs.take i)).length + 1 < scanBound := by
      have := addAll_len (js := xs.take i) (ks := [])
      rw [List.length_take, List.length_nil] at this
      omega
    refine setG_addH (s := { s' with toks := s'.toks + 1 }) hk hS' room fun b h' sb hS2 => ?_
    have e : addAll [] (xs.take (i + 1)) = addK (addAll [] (xs.take i)) xs[i] := by
      rw [List.take_succ_eq_append_getElem hix, addAll_snoc (ks := [])]
    rw [← e] at hS2
    refine wpAny_pure ⟨plainId_quiet F.plain_set_update_loop _, ih (i + 1) _ (by omega) hlt (W.frame _ s' _ _ hst' (Nat.le_succ _) fun b hb o z => ?_) hS2 fun s'' mv2 hS3 => ?_⟩
    · rw [sb.2 b (fun h : b = S => hSf (h ▸ hb))]; exact z
    · refine hR s'' (Moved.trans W.gtrans ((mv.mono more).then_heap (Nat.le_succ _) fun b o hb z => ?_) mv2) hS3
      rw [sb.2 b (fun h : b = S => hb (h ▸ List.mem_cons_self))]; exact z
end
section
variable {P : Program} {w : World} {A : Around} {E : Value → Shared → Prop} {s : Shared} {a : Addr}
/-- set(l), l a list of ints and texts -/
theorem call_setG {l : Addr} {items : Array Value} {xs : List Key} {Q : Value → Shared → Prop} (hh : A.handled = none) (hl : s.heap.IsList l items) (hi : items.toList.map kof = xs.map some) (hb : xs.length + 1 < scanBound)
    (h : ∀ (h' : Heap) (tk : Nat), SetG w h' s.heap.objs.size (addAll [] xs) → (∀ b o, s.heap.get? b = some o → h'.get? b = some o) → Q (.ref s.heap.objs.size) { s with heap := h', toks := tk }) :
    wpAny (model P w) A (call (.type "set") [.ref l]) Q E s := by
  have isz : xs.length = items.size := by
    have q := congrArg List.length hi
    rw [List.length_map, List.length_map, Array.length_toList] at q
    exact q.symm
  obtain ⟨c, tl, hmro⟩ := PySem.F.called_set.mro
  have m1 := PySem.F.called_set.made; have m2 := PySem.F.called_set.sub
  refine wpAny_call (codeAny_of_tree ?_); show wpAny _ _ (callAny (.type "set") _) _ _ _
  refine wpAny_pure ⟨Code.quiet_builtin _ (by decide +kernel), codeAny_builtin PySem.F.entry_type_call ?_⟩
  rw [Around.under_plain (weight_type_call_type "set" [.ref l] []) rfl]
  have m3 := PySem.F.called_set.notType; have m4 := PySem.F.called_set.canCreate; have m5 := PySem.F.typeCall_set_1 (.ref l)
  repeat (any_goals (first | assumption | wp_step))
  refine codeAny_mono (code_set_led1 (.ref l) (E := E) (Q₁ := fun obj s1 => obj = .ref s.heap.objs.size ∧ s1 = { s with heap := s.heap.push (noSet w) }) ⟨rfl, rfl⟩) fun r s1 hr => ?_
  cases r with
  | error e => exact hr
  | ok fl =>
    cases fl with
    | ret obj =>
      obtain ⟨rfl, rfl⟩ := hr
      have hS : (s.heap.push (noSet w)).get? s.heap.objs.size = some (noSet w) := Heap.get?_push_size _ rfl
      have hT : Shared.TypeIs { s with heap := s.heap.push (noSet w) } (.ref s.heap.objs.size) "set" := ⟨_, hS, rfl⟩
      have m6 := PySem.F.called_set.init.lookup; have m7 := PySem.F.called_set.init.bind (.ref s.heap.objs.size)
      repeat (any_goals (first | assumption | wp_step))
      refine codeAny_mono (codeAny_call_builtin (R := wants (fun r s2 => r = .none ∧ ∃ h' tk, s2 = { s with heap := h', toks := tk } ∧ SetG w h' s.heap.objs.size (addAll [] xs) ∧ ∀ b o, s.heap.get? b = some o → h'.get? b = some o) E) PySem.F.called_set.init.plain PySem.F.entry_set_init (check_set_init_1 hT ?_)) fun r2 s2 hr2 => ?_
      · obtain ⟨⟨_, odict, _, oslots⟩, hol, hcl, nl, hdl⟩ := hl
        simp only at hcl hdl; subst hcl; subst hdl
        have hol' : (s.heap.push (noSet w)).get? l = some { cls := .type "list", dict := odict, data := .seq items nl, slots := oslots } := Heap.get?_push_of_some _ hol
        have m8 := PySem.F.sub_list_set; have m9 := PySem.F.sub_list_frozenset; have m0 : (Value.type "list" == Value.type "dict") = false := by decide
        have hl1 : (s.heap.push (noSet w)).IsList l items := ⟨_, hol', rfl, nl, rfl⟩
        unfold Builtin.«set.__init__» noKeywords Builtin.Frozenset.updateFrom
        generalize hPI : pyIter = PI
        wp_walk
        subst hPI
        refine wpAny_pyIter_list hl1 (wpAny_bind (wpAny_runValue ?_))
        have lS : l < s.heap.objs.size := Heap.lt_size hol
        have sz1 : (s.heap.push (noSet w)).objs.size = s.heap.objs.size + 1 := Heap.size_push ..
        have neI : l ≠ (s.heap.push (noSet w)).objs.size := by rw [sz1]; exact Nat.ne_of_lt (Nat.lt_succ_of_lt lS)
        have hSf : s.heap.objs.size ∉ [(s.heap.push (noSet w)).objs.size, l] := by
          intro z
          rcases List.mem_cons.mp z with z | z
          · rw [sz1] at z; exact absurd z (Nat.ne_of_lt (Nat.lt_succ_self _))
          · exact absurd (List.mem_singleton.mp z) (Nat.ne_of_gt lS)
        have hval : ∀ (i : Nat) (v : Value), items[i]? = some v → kof v = xs[i]? := fun i v hv => by
          have q : (items.toList.map kof)[i]? = some (kof v) := by rw [List.getElem?_map, Array.getElem?_toList, hv]; rfl
          rw [hi, List.getElem?_map] at q
          cases z : xs[i]? with
          | none => rw [z] at q; cases q
          | some k => rw [z] at q; exact (Option.some.inj q).symm
        refine loopG ((Walks.list (by simp [hh]) _ l neI items).toS) s.heap.objs.size hSf xs isz (isz ▸ hb) hval (items.size - 0) 0 _ (by omega) (Nat.zero_le _) ⟨⟨_, Heap.get?_push_size _ rfl, rfl, rfl⟩, (hl1.push _)⟩ ?hS0 ?hR
        case hS0 => exact setG_fresh (Heap.get?_push_of_some _ hS)
        case hR =>
          intro s' mv hS'
          obtain ⟨h', g', d', tk', os'⟩ := s'
          have eg : g' = s.gens := mv.gens
          have ed : d' = s.drawn := mv.drawn
          have eo : os' = s.os := mv.os
          subst eg ed eo
          refine wpAny_pure (wpAny_pure ⟨rfl, h', tk', rfl, hS', fun b o z => ?_⟩)
          have hb := Heap.lt_size z
          refine mv.heap b o (fun y => ?_) (Heap.get?_push_of_some _ (Heap.get?_push_of_some _ z))
          rcases List.mem_cons.mp y with y | y
          · exact absurd y (Nat.ne_of_lt hb)
          · exact absurd ((List.mem_singleton.mp y).trans sz1) (Nat.ne_of_lt (Nat.lt_succ_of_lt hb))
      · cases r2 with
        | error e => exact hr2
        | ok fl2 =>
          cases fl2 with
          | ret r =>
            obtain ⟨rfl, h', tk, rfl, hS', hk'⟩ := hr2
            repeat (any_goals (first | assumption | wp_step))
            exact h _ _ hS' hk'
          | _ => exact hr2.elim
    | _ => exact hr.elim
end
end Mi
namespace Mi
open PySem PySem.Spec PyProof.Rows L2
/-! ### sorted of a set -/
end Mi
namespace Mi
open PySem PySem.Spec PyProof.Rows L2
/-! ### the one arrangement in order -/
def insBy {α : Type} (le : α → α → Bool) (x : α) : List α → List α
  | [] => [x]
  | y :: r => if le x y then x :: y :: r else y :: insBy le x r
def sortBy {α : Type} (le : α → α → Bool) : List α → List α
  | [] => []
  | x :: r => insBy le x (sortBy le r)
def leS (a b : Str) : Bool := !ltCps b.cps.toList a.cps.toList
def sortS : List Str → List Str := sortBy leS
/-! ### len(set(e)), sorted(set(e)) -/
def keyV : Val → Option Key
  | .int i => some (.inl i)
  | .str x => some (.inr x)
  | _ => none
theorem keys_rep {k : Kx} {W : Wd} {H : Hp} : ∀ {xs : List Val} {vs : List V} {ks : List Key}, RepL k W H xs vs → allOf keyV xs = some ks → vs = ks.map kV
  | [], vs, ks, r, e => by
    have r' : vs = [] := r
    cases e
    exact r'
  | x :: xs, vs, ks, r, e => by
    obtain ⟨v, u, rfl, r1, r2⟩ := r
    unfold allOf at e
    cases q : keyV x with
    | none =>
      rw [q] at e
      cases e
    | some kk =>
      rw [q] at e
      cases q2 : allOf keyV xs with
      | none =>
        rw [q2] at e
        cases e
      | some ks' =>
        rw [q2] at e
        cases e
        rw [keys_rep r2 q2]
        cases x with
        | int i =>
          cases q
          have : v = .int i := r1
          rw [this]
          rfl
        | str i =>
          cases q
          have : v = .str i := r1
          rw [this]
          rfl
        | _ => cases q
theorem kofs_of : ∀ {ks : List Key} {us : List Value}, Vals (ks.map kV) us → us.map kof = ks.map some
  | [], us, r => by
    cases r
    rfl
  | kk :: ks, us, r => by
    cases r with
    | cons a b =>
      rw [List.map_cons, List.map_cons, kofs_of b]
      cases kk with
      | inl i =>
        obtain ⟨t, rfl⟩ := a
        rfl
      | inr x =>
        obtain ⟨t, rfl⟩ := a
        rfl
/-- set(e): the set stands beside H -/
def SetP (X : Cx) (pins : List (Addr × Obj)) (σ : L2.St) (Q : List Key → Hp → Prop) (u : Value) (s' : Shared) : Prop := ∃ p ks H', u = .ref p ∧ L2.Inv X pins σ H' s' ∧ SetG X.w s'.heap p ks ∧ H' p = none ∧ Q ks H'
def tSetL (K : PySem.W.Frag) (ta : TE) : L2.St → Hp → (List Key → Hp → Prop) → Prop := fun σ H Q => ta σ H fun x H1 => ∃ l ks, x = .ref l ∧ SqL K H1 l (ks.map kV) ∧ ks.length + 1 < scanBound ∧ Q (addAll [] ks) H1
section
variable {X : Cx} {a : Expr} {ta : TE} {p q pos : Pos}
theorem eval_setL {pins : List (Addr × Obj)} {s : Shared} {σ : L2.St} {H : Hp} {Q : List Key → Hp → Prop} (hc : X.calm = true) (hg : Gl X "set") (hm : X.mg "set" = none) (ha : PE X a ta) (I : L2.Inv X pins σ H s) (h : tSetL X.K ta σ H Q)
    (na : starEach [a] X.env = (false, PySem.eval a X.env) :: starEach [] X.env := by rfl) : wpAny (model X.prog X.w) X.A (PySem.eval (.Call (.Name "set" p) [a] [] q) X.env) (SetP X pins σ Q) X.xe s := by
  refine Call_ (ld_blt I hg hm boot_set ?_)
  refine PyProof.Rows.callWith_type1 (PyProof.Rows.args_cons (thn (ha.run pins s σ H _ I h) fun v s1 ⟨x, H1, I1, r1, l, ks, ex, hq, hz, q1⟩ => PyProof.Rows.args_nil ?_) na) na rfl
  subst ex
  cases r1
  obtain ⟨its, r, pl, _⟩ := I1.list hq
  refine call_setG (I1.ok.hd hc) pl.isList (by simpa using kofs_of r) hz fun h' tk hS hk => ?_
  exact ⟨_, _, H1, rfl, I1.kept (t' := tk) hk, hS, I1.hok.fresh (Nat.le_refl _), q1⟩
/-- len(..) of a set made on the spot -/
theorem pe_lenOf {e : Expr} {t : L2.St → Hp → (List Key → Hp → Prop) → Prop} (hg : Gl X "len") (hm : X.mg "len" = none) (he : ∀ pins s σ H Q, L2.Inv X pins σ H s → t σ H Q → wpAny (model X.prog X.w) X.A (PySem.eval e X.env) (SetP X pins σ Q) X.xe s)
    (ne : starEach [e] X.env = (false, PySem.eval e X.env) :: starEach [] X.env := by rfl) : PE X (.Call (.Name "len" p) [e] [] pos) (fun σ H Q => t σ H fun ks H1 => Q (.int ks.length) H1) := by
  refine ⟨fun pins s σ H Q I h => ?_⟩
  refine Call_ (ld_blt I hg hm boot_len ?_)
  refine PyProof.Rows.callWith_builtin1 (PyProof.Rows.args_cons (thn (he pins s σ H _ I h) fun u s1 ⟨b, ks, H1, eu, I1, hS, hn, q⟩ => PyProof.Rows.args_nil ?_) ne) ne rfl
  subst eu
  exact len_setG hS ⟨.int ks.length, H1, I1.tok _, ⟨_, rfl⟩, q⟩
end
/-! ### the same, mirrored -/
def lenKV (ks : List Key) : Option Val := if ks.length + 1 < 4096 then some (.int (addAll [] ks).length) else none
end Mi
namespace Mi
open PySem PySem.Spec PyProof.Rows L2 ClX
/-! ### len(set(e)), sorted(set(e)), mirrored -/
def lenSetV (st : Sto) (a : Val) : Option Val := match lstOf st a with
  | some xs => match allOf keyV xs with
    | some ks => lenKV ks
    | none => none
  | none => none
section
variable {X : Cx} {k : Kx} {E : WX} {a : Expr} {m : M Val} {p p2 q pos : Pos}
theorem me_lenSet (hc : X.calm = true) (hg : Gl X "len") (hm : X.mg "len" = none) (hg2 : Gl X "set") (hm2 : X.mg "set" = none) (ha : PE X a (tM k E m)) (na : starEach [a] X.env = (false, PySem.eval a X.env) :: starEach [] X.env := by rfl)
    (nc : starEach [.Call (.Name "set" p2) [a] [] q] X.env = (false, PySem.eval (.Call (.Name "set" p2) [a] [] q) X.env) :: starEach [] X.env := by rfl) (hk : X.K = k.K := by rfl) :
    PE X (.Call (.Name "len" p) [.Call (.Name "set" p2) [a] [] q] [] pos) (tM k E (un lenSetV m)) :=
  imp (pe_lenOf (t := tSetL X.K (tM k E m)) hg hm (fun pins s σ H Q I h => eval_setL hc hg2 hm2 ha I h na) nc) fun σ H Q h => tG.mono (tG.bnd (R1 := RepV k) h) fun x H1 ⟨W, b, rb, h3⟩ => by
    obtain ⟨c, st, e, o, q⟩ := h3.lift
    unfold lenSetV at e
    split at e
    · rename_i xs hx
      split at e
      · rename_i ks hks
        unfold lenKV at e
        split at e
        · rename_i hl
          cases e
          obtain ⟨pp, vs, e1, s1, r1⟩ := lstOf_rep o rb hx
          rw [keys_rep r1 hks] at s1
          exact ⟨pp, ks, e1, by rw [hk]; exact s1, hl, q W H1 _ (Le.refl _ _) o rfl⟩
        · cases e
      · cases e
    · cases e
end
/-! ### classes as values; class methods -/
section
variable {X : Cx} {k : Kx} {E : WX}
def tCMthS (C : Addr) (sp : Sp) (F : L2.St → XK) (t : TA) : TE := fun σ H Q => t σ H fun vs H2 => sp (.ref C :: vs) H2 Q (F σ)
theorem pe_cmthS {CX : CXT} {kk : Nat} {C pa g : Addr} {mc : Value} {c m : Str} {fd : FuncData} {ps : List Str} {sp : Sp} {F : L2.St → XK} {t : TA} {e : Expr} {es : List Expr} {apos np pos : Pos} {pl : Sem Bool} (hg : Gl X c) (hm : X.mg c = some (.ref C)) (r : CRead X.K C mc) (cm : CMet X.K C mc m pa g)
    (G : FnOk X.prog X.w X.K X.mg X.base CX kk g fd ps sp) (hr : Room kk X.A) (hb : Binds X.K fd ps []) (hx : ∀ σ, PassesAt CX X σ (F σ)) (ha : PA X (e :: es) t) (hdb : (c == ("__debug__" : Str)) = false := by decide)
    (hst : starEach (e :: es) X.env = (false, PySem.eval e X.env) :: starEach es X.env := by rfl) (hpl : (backTo pos (starEach es X.env)).any (·.1) = false := by rfl)
    (ht : PySem.eval (.Call (.Attribute (.Name c np) m apos) (e :: es) [] pos) X.env = (do
      let ov ← PySem.eval (.Name c np) X.env
      standAt apos.atName
      let (f, first) ← holding [ov] (getMethod ov m pl)
      callWith pos f first (backTo pos (starEach (e :: es) X.env)) (backToKw pos (keywordEach [] X.env))) := by rfl) :
    PE X (.Call (.Attribute (.Name c np) m apos) (e :: es) [] pos) (tCMthS C sp F t) := by
  refine ⟨fun pins s σ H Q I h => ?_⟩
  refine PySem.W.methodCall_KW (pl := pl) (ld_glob I hg hm ?_ hdb) ht
  refine getmethcm_ok I r cm fun s2 I2 => ?_
  refine callwith_cm I2 (base_none I (Nat.le_refl _)) cm.fi (thn (ha.run pos _ s2 σ H _ I2 h) fun us s3 ⟨vs, H2, I3, rv, q2⟩ => ⟨⟨pin_at I3, I3.kIn⟩, ?_⟩) hst hpl
  have r2 : Vals (V.ref C :: vs) (Value.ref C :: us) := .cons rfl rv
  have hl : (Value.ref C :: us).length = ps.length := by
    rw [← r2.length]
    exact G.len _ _ _ _ q2
  have z : wpAny (model X.prog X.w) X.A (call (.ref s.heap.objs.size) us) (EP X ((s.heap.objs.size, PySem.W.methodObj (.ref g) (.ref C)) :: pins) σ Q) X.xe s3 := by
    refine wpAny_call (PySem.W.method_call (pin_at I3) (codeAny_mono (G.run X.A X.stack s3 H2 ⟨Value.ref C :: us, []⟩ (Value.ref C :: us) (V.ref C :: vs) Q (F σ) hr I3.env0 (by have z := hb s3 (Value.ref C :: us) I3.kIn (by rw [List.append_nil]; exact hl); rw [List.append_nil] at z; exact z) r2 q2) fun r s' hq => ?_))
    cases r with
    | error er => exact hx σ _ H2 s3 er s' I3 hq
    | ok fl =>
      cases fl with
      | ret u => exact I3.after hq
      | next => exact False.elim hq
      | brk => exact False.elim hq
      | cont => exact False.elim hq
  exact thn z fun _ _ y => unpinE y
/-- C.m(..), the callee over the empty store -/
def cmthP (c : Str) (n : Nat) (cf : CF) (ms : M (List Val)) : M Val := bnd ms fun us _ st => if us.length + 1 = n then runP cf (.cls c :: us) st else none
theorem me_cmthP {kk n : Nat} {pa g : Addr} {mc : Value} {c m : Str} {fd : FuncData} {ps : List Str} {cf : CF} {ms : M (List Val)} {e : Expr} {es : List Expr} {apos np pos : Pos} {pl : Sem Bool} (hg : Gl X c) (hm : X.mg c = some (.ref (k.cl c))) (r : CRead X.K (k.cl c) mc) (cm : CMet X.K (k.cl c) mc m pa g)
    (G : FnOk X.prog X.w X.K X.mg X.base (L2.CX X.prog X.w) kk g fd ps (spM k n cf)) (hr : Room kk X.A) (hb : Binds X.K fd ps []) (tk : Takes X E) (ha : PA X (e :: es) (tMa k E ms)) (hdb : (c == ("__debug__" : Str)) = false := by decide)
    (hst : starEach (e :: es) X.env = (false, PySem.eval e X.env) :: starEach es X.env := by rfl) (hpl : (backTo pos (starEach es X.env)).any (·.1) = false := by rfl)
    (ht : PySem.eval (.Call (.Attribute (.Name c np) m apos) (e :: es) [] pos) X.env = (do
      let ov ← PySem.eval (.Name c np) X.env
      standAt apos.atName
      let (f, first) ← holding [ov] (getMethod ov m pl)
      callWith pos f first (backTo pos (starEach (e :: es) X.env)) (backToKw pos (keywordEach [] X.env))) := by rfl) :
    PE X (.Call (.Attribute (.Name c np) m apos) (e :: es) [] pos) (tM k E (cmthP c n cf ms)) :=
  imp (pe_cmthS (F := WE E) hg hm r cm G hr hb (fun σ => passAt tk σ) ha hdb hst hpl ht) fun σ H Q h => tG.mono (tG.bnd (R1 := RepL k) h) fun vs H1 ⟨W, us, ru, env, st, o, h1, h2, h3, h4⟩ => by
    dsimp only at h3
    split at h3
    · rename_i hl
      exact runP_sp (us := .cls c :: us) hl h1 (RepL.cons rfl ru) h3 h4
    · cases h3
end
end Mi
namespace Mi
open PySem PySem.Spec PyProof.Rows L2
/-! ### x(..), x a local that holds a class -/
def makeL (i : Nat) (c : Str) (n : Nat) (cf : CF) (ds : List Val) (ms : M (List Val)) : M Val := fun env st => match env[i]? with
  | some (some (.cls c')) => if c' = c then makeP c n cf ds ms env st else none
  | _ => none
section
variable {X : Cx} {k : Kx} {E : WX}
theorem pe_mkLS {CX : CXT} {kk i : Nat} {C f : Addr} {x : Str} {fd : FuncData} {ps : List Str} {sp : Sp} {ds : List Value} {dvs : List V} {F : L2.St → XK} {t : TA} {e : Expr} {es : List Expr} {p pos : Pos} (hn : PE X (.Name x p) (tVar i)) (M : Mk X.K C f) (G : FnOk X.prog X.w X.K X.mg X.base CX kk f fd ps sp) (hr : Room (kk + 1) X.A)
    (hb : Binds X.K fd ps ds) (hd : Vals dvs ds) (hx : ∀ σ, PassesAt CX X σ (F σ)) (ha : PA X (e :: es) t) (he : starEach (e :: es) X.env = (false, PySem.eval e X.env) :: starEach es X.env := by rfl) (hpl : (backTo pos (starEach es X.env)).any (·.1) = false := by rfl) :
    PE X (.Call (.Name x p) (e :: es) [] pos) (fun σ H Q => σ[i]? = some (some (.ref C)) ∧ tMkS C sp dvs F t σ H Q) := by
  refine ⟨fun pins s σ H Q I h => ?_⟩
  obtain ⟨hσ, h⟩ := h
  refine wpAny_Call_Name_kw (thn (hn.run pins s σ H (fun v H' => v = .ref C ∧ H' = H) I ⟨_, hσ, rfl, rfl⟩) fun u s0 ⟨v, H0, I0, rv, ev, eH⟩ => ?_)
  subst ev
  subst eH
  obtain rfl : u = Value.ref C := rv
  exact PySem.W.callWith_K (h₀ := X.base) I.ok.mod.kin M.kp (thn (ha.run pos pins s0 σ H0 _ I0 h) fun us s1 ⟨vs, H1, I1, r, q⟩ => ⟨I1.kIn, run_mkS M G hr hb hd (hx σ) I1 r q⟩) he hpl
theorem me_makeL {kk n i : Nat} {f : Addr} {x c : Str} {fd : FuncData} {ps : List Str} {cf : CF} {ds : List Val} {dus : List Value} {dvs : List V} {ms : M (List Val)} {e : Expr} {es : List Expr} {p pos : Pos} (hn : PE X (.Name x p) (tVar i)) (M : Mk X.K (k.cl c) f) (G : FnOk X.prog X.w X.K X.mg X.base (L2.CX X.prog X.w) kk f fd ps (spM k n cf)) (hr : Room (kk + 1) X.A)
    (hb : Binds X.K fd ps dus) (hv : Vals dvs dus) (hd : ∀ W H, RepL k W H ds dvs) (tk : Takes X E) (ha : PA X (e :: es) (tMa k E ms)) (he : starEach (e :: es) X.env = (false, PySem.eval e X.env) :: starEach es X.env := by rfl) (hpl : (backTo pos (starEach es X.env)).any (·.1) = false := by rfl) :
    PE X (.Call (.Name x p) (e :: es) [] pos) (tM k E (makeL i c n cf ds ms)) :=
  imp (pe_mkLS (F := WE E) hn M G hr hb hv (fun σ => passAt tk σ) ha he hpl) fun σ H Q ⟨W, env, st, o, h1, h2, h3, h4⟩ => by
    unfold makeL at h3
    split at h3
    · rename_i c' hc
      split at h3
      · rename_i ec
        subst ec
        obtain ⟨v, hv, rv⟩ := h2.get hc
        have ev : v = .ref (k.cl c') := rv
        subst ev
        exact ⟨hv, makeP_read hd ⟨W, env, st, o, h1, h2, h3, h4⟩⟩
      · cases h3
    · cases h3
/-! ### xs.extend(ys) -/
end
end Mi
namespace Mi
open PySem L2
/-! ### running a mirror by rewriting: what follows a step stands unapplied, so that nothing ahead of its turn is run -/
def bK {α β : Type} : Res α → (α → M β) → Env → Res β
  | some (.ok a, s), f, env => f a env s
  | some (.error x, s), _, _ => some (.error x, s)
  | none, _, _ => none
@[simp] theorem bK_ok {α β : Type} {a : α} {s : Sto} {f : α → M β} {env : Env} : bK (some (.ok a, s)) f env = f a env s := rfl
@[simp] theorem bK_err {α β : Type} {x : Exc} {s : Sto} {f : α → M β} {env : Env} : bK (some (.error x, s)) f env = some (.error x, s) := rfl
@[simp] theorem bK_none {α β : Type} {f : α → M β} {env : Env} : bK none f env = none := rfl
def lR {α : Type} : Option α → Sto → Res α
  | some c, s => some (.ok c, s)
  | none, _ => none
@[simp] theorem lR_some {α : Type} {c : α} {s : Sto} : lR (some c) s = some (.ok c, s) := rfl
@[simp] theorem lR_none {α : Type} {s : Sto} : lR (none : Option α) s = none := rfl
def lSR {α : Type} : Option (α × Sto) → Res α
  | some (c, s) => some (.ok c, s)
  | none => none
@[simp] theorem lSR_some {α : Type} {c : α} {s : Sto} : lSR (some (c, s)) = some (.ok c, s) := rfl
def vR : Option (Option Val) → Sto → Res Val
  | some (some v), s => some (.ok v, s)
  | _, _ => none
@[simp] theorem vR_some {v : Val} {s : Sto} : vR (some (some v)) s = some (.ok v, s) := rfl
section
variable {α β : Type} {env : Env} {st : Sto}
@[simp] theorem x_ret {a : α} : ret a env st = some (.ok a, st) := rfl
@[simp] theorem x_bnd {m : M α} {f : α → M β} : bnd m f env st = bK (m env st) f env := by
  unfold bnd bK
  split <;> simp_all
@[simp] theorem x_lift {o : Sto → Option α} : lift o env st = lR (o st) st := by
  unfold lift lR
  cases o st <;> rfl
@[simp] theorem x_liftS {o : Sto → Option (α × Sto)} : liftS o env st = lSR (o st) := by
  unfold liftS lSR
  cases o st <;> rfl
@[simp] theorem x_var {i : Nat} : var i env st = vR env[i]? st := by
  unfold var vR
  split <;> simp_all
@[simp] theorem x_bin {f : Sto → Val → Val → Option Val} {ma mb : M Val} : bin f ma mb env st = bK (ma env st) (fun a => bnd mb fun b => lift fun st => f st a b) env := x_bnd
@[simp] theorem x_un {f : Sto → Val → Option Val} {ma : M Val} : un f ma env st = bK (ma env st) (fun a => lift fun st => f st a) env := x_bnd
@[simp] theorem x_asB {m : M Val} : asB m env st = bK (m env st) (fun a => lift fun _ => asBool a) env := x_bnd
@[simp] theorem asBool_bl {b : Bool} : asBool (.bl b) = some b := rfl
@[simp] theorem x_andB {a b : M Bool} : andB a b env st = bK (a env st) (fun c => if c then b else ret false) env := x_bnd
@[simp] theorem x_orB {a b : M Bool} : orB a b env st = bK (a env st) (fun c => if c then ret true else b) env := x_bnd
@[simp] theorem x_notB {a : M Bool} : notB a env st = bK (a env st) (fun c => ret (!c)) env := x_bnd
@[simp] theorem x_andV {a b : M Val} : andV a b env st = bK (asB a env st) (fun c => if c then b else ret (.bl false)) env := x_bnd
@[simp] theorem x_orV {a b : M Val} : orV a b env st = bK (asB a env st) (fun c => if c then ret (.bl true) else b) env := x_bnd
@[simp] theorem x_notV {a : M Val} : notV a env st = bK (asB a env st) (fun c => ret (.bl (!c))) env := x_bnd
@[simp] theorem x_ifV {c : M Bool} {a b : M Val} : ifV c a b env st = bK (c env st) (fun t => if t then a else b) env := x_bnd
@[simp] theorem x_chain {f g : Sto → Val → Val → Option Val} {ma mb mc : M Val} : chain f g ma mb mc env st = bK (ma env st) (fun a => bnd mb fun b => bnd (lift fun st => (f st a b).bind asBool) fun t => if t then bnd mc fun c => lift fun st => g st b c else ret (.bl false)) env := x_bnd
@[simp] theorem x_consM {m : M Val} {ms : M (List Val)} : consM m ms env st = bK (m env st) (fun a => bnd ms fun as => ret (a :: as)) env := x_bnd
@[simp] theorem x_nilM : nilM env st = some (.ok [], st) := rfl
@[simp] theorem x_app {f : Sto → List Val → Option Val} {ms : M (List Val)} : app f ms env st = bK (ms env st) (fun as => lift fun st => f st as) env := x_bnd
@[simp] theorem x_mkTup {ms : M (List Val)} : mkTup ms env st = bK (ms env st) (fun xs => lift fun _ => if xs.length ≤ LIM then some (.tup xs) else none) env := x_bnd
@[simp] theorem x_callM {n : Nat} {c : CF} {ds : List Val} {ms : M (List Val)} : callM n c ds ms env st = bK (ms env st) (fun us _ st => if (us ++ ds).length = n then c (us ++ ds) st else none) env := x_bnd
@[simp] theorem x_callP {n : Nat} {c : CF} {ds : List Val} {ms : M (List Val)} : callP n c ds ms env st = bK (ms env st) (fun us _ st => if (us ++ ds).length = n then runP c (us ++ ds) st else none) env := x_bnd
/-! statements -/
def sR : Option (Out × Env × Sto) → S → Option (Out × Env × Sto)
  | some (.next, e, s), f => f e s
  | o, _ => o
@[simp] theorem sR_next {e : Env} {s : Sto} {f : S} : sR (some (.next, e, s)) f = f e s := rfl
@[simp] theorem sR_ret {v : Val} {e : Env} {s : Sto} {f : S} : sR (some (.ret v, e, s)) f = some (.ret v, e, s) := rfl
@[simp] theorem sR_err {v : Exc} {e : Env} {s : Sto} {f : S} : sR (some (.err v, e, s)) f = some (.err v, e, s) := rfl
@[simp] theorem sR_cont {e : Env} {s : Sto} {f : S} : sR (some (.cont, e, s)) f = some (.cont, e, s) := rfl
@[simp] theorem sR_brk {e : Env} {s : Sto} {f : S} : sR (some (.brk, e, s)) f = some (.brk, e, s) := rfl
@[simp] theorem x_sSeq {a b : S} : sSeq a b env st = sR (a env st) b := by
  unfold sSeq sR
  split <;> simp_all
def eK {γ : Type} : Res γ → (γ → S) → Env → Option (Out × Env × Sto)
  | some (.ok a, s), f, e => f a e s
  | some (.error x, s), _, e => some (.err x, e, s)
  | none, _, _ => none
@[simp] theorem eK_ok {γ : Type} {a : γ} {s : Sto} {e : Env} {f : γ → S} : eK (some (.ok a, s)) f e = f a e s := rfl
@[simp] theorem eK_err {γ : Type} {x : Exc} {s : Sto} {e : Env} {f : γ → S} : eK (some (.error x, s)) f e = some (.err x, e, s) := rfl
@[simp] theorem eK_none {γ : Type} {e : Env} {f : γ → S} : eK none f e = none := rfl
@[simp] theorem x_sBnd {m : M α} {f : α → S} : sBnd m f env st = eK (m env st) f env := by
  unfold sBnd eK
  split <;> simp_all
@[simp] theorem x_sExpr {m : M Val} : sExpr m env st = eK (m env st) (fun _ => sNext) env := x_sBnd
@[simp] theorem x_sRet {m : M Val} : sRet m env st = eK (m env st) (fun v env st => some (.ret v, env, st)) env := x_sBnd
@[simp] theorem x_sSet {i : Nat} {m : M Val} : sSet i m env st = eK (m env st) (fun v env st => some (.next, env.set i (some v), st)) env := x_sBnd
@[simp] theorem x_sIf {c : M Bool} {a b : S} : sIf c a b env st = eK (c env st) (fun t => if t then a else b) env := x_sBnd
@[simp] theorem x_sNext : sNext env st = some (.next, env, st) := rfl
@[simp] theorem x_sCont : sCont env st = some (.cont, env, st) := rfl
@[simp] theorem x_sPar {i j : Nat} {ms : M (List Val)} : sPar i j ms env st = eK (ms env st) (fun xs env st => match xs with
  | [a, b] => some (.next, (env.set i (some a)).set j (some b), st)
  | _ => none) env := x_sBnd
def oR : Option (Out × Env × Sto) → Res Val
  | some (.ret v, _, s) => some (.ok v, s)
  | some (.next, _, s) => some (.ok .non, s)
  | some (.err x, _, s) => some (.error x, s)
  | _ => none
@[simp] theorem oR_ret {v : Val} {e : Env} {s : Sto} : oR (some (.ret v, e, s)) = some (.ok v, s) := rfl
@[simp] theorem oR_next {e : Env} {s : Sto} : oR (some (.next, e, s)) = some (.ok .non, s) := rfl
@[simp] theorem oR_err {x : Exc} {e : Env} {s : Sto} : oR (some (.err x, e, s)) = some (.error x, s) := rfl
theorem x_callS {N : Nat} {s : S} {us : List Val} : callS N s us st = oR (s (env0 N us) st) := by
  unfold callS oR
  split <;> simp_all
end
end Mi
namespace Mi
open PySem L2
/-! ### running comprehensions, loops, calls over lists of coded things -/
theorem compLoop_gen {α : Type} {enc g : α → Val} {t : Tg} {own : List Nat} {elt : M Val} {env : Env} {st : Sto} : ∀ {as : List α}, (∀ a ∈ as, ∃ env1, bindT t (enc a) (wipeE env own) = some env1 ∧ elt env1 st = some (.ok (g a), st)) → compLoop t own yes elt (as.map enc) env st = some (.ok (as.map g), st)
  | [], _ => rfl
  | a :: as, h => by
    obtain ⟨e1, h1, h2⟩ := h a List.mem_cons_self
    rw [List.map_cons]
    have ih := compLoop_gen (t := t) (own := own) (elt := elt) (env := env) (st := st) (g := g) fun b hb => h b (List.mem_cons_of_mem _ hb)
    unfold compLoop
    rw [h1]
    show (match elt e1 st with | some (.ok y, st2) => (match compLoop t own yes elt (as.map enc) env st2 with | some (.ok ys, st3) => some (Except.ok (y :: ys), st3) | _ => none) | _ => none) = _
    rw [h2]
    dsimp only
    rw [ih]
    rfl
theorem comp_gen {α : Type} {enc g : α → Val} {as : List α} {mi : M (List Val)} {t : Tg} {own : List Nat} {elt : M Val} {env : Env} {st s1 : Sto} (hm : mi env st = some (.ok (as.map enc), s1)) (hl : as.length ≤ 16000000)
    (h : ∀ a ∈ as, ∃ env1, bindT t (enc a) (wipeE env own) = some env1 ∧ elt env1 s1 = some (.ok (g a), s1)) : comp mi t own yes elt env st = some (.ok (.lst (as.map g)), s1) := by
  unfold comp compM
  rw [x_bnd, x_bnd, hm, bK_ok, if_pos (by rw [List.length_map]; exact hl), compLoop_gen h]
  rfl
theorem noRefs_map {α : Type} {enc : α → Val} (h : ∀ a, noRef (enc a) = true) : ∀ as : List α, noRefs (as.map enc) = true
  | [] => rfl
  | a :: as => by
    rw [List.map_cons]
    unfold noRefs
    rw [h a, noRefs_map h as]
    rfl
section
variable {env : Env} {st : Sto}
@[simp] theorem x_makeP {c : Str} {n : Nat} {cf : CF} {ds : List Val} {ms : M (List Val)} : makeP c n cf ds ms env st = bK (ms env st) (fun us _ st => if (us ++ ds).length + 1 = n then runMk c cf (us ++ ds) st else none) env := x_bnd
@[simp] theorem x_methP {c m : Str} {n : Nat} {cf : CF} {ds : List Val} {mo : M Val} {ms : M (List Val)} : methP c m n cf ds mo ms env st = bK (mo env st) (fun a env st => if isOf c m st a then bnd ms (fun us _ st => if (a :: (us ++ ds)).length = n then runP cf (a :: (us ++ ds)) st else none) env st else none) env := x_bnd
@[simp] theorem x_itS {m : M Val} : itS m env st = bK (m env st) (fun a => lift fun _ => stillOf a) env := x_bnd
@[simp] theorem x_cmpV {p : Int → Int → Bool} {i j : Int} : cmpV p st (.int i) (.int j) = some (.bl (p i j)) := rfl
@[simp] theorem x_sFldV {own : Str → Bool} {f : Str} {mo mv : M Val} : sFldV own f mo mv env st = eK (mv env st) (fun y => sBnd mo fun a env st => match a with
  | .ref i => match st[i]? with
    | some (.ins c ks xs) => if own c = true ∧ ks.length < 900 then some (.next, env, st.set i (.ins c (putK f ks) (putX f y ks xs))) else none
    | _ => none
  | _ => none) env := x_sBnd
@[simp] theorem x_part {m : M Val} : part m env st = bK (m env st) (fun a => lift fun _ => (intOf a).map some) env := x_bnd
@[simp] theorem x_nopart : nopart env st = some (.ok none, st) := rfl
@[simp] theorem x_sliceM {ma : M Val} {ml mh : M (Option Int)} : sliceM ma ml mh env st = bK (ma env st) (fun a => bnd ml fun lo => bnd mh fun hi => lift fun st => cutVal st a lo hi) env := x_bnd
@[simp] theorem intOf_int {i : Int} : intOf (.int i) = some i := rfl
@[simp] theorem addV_int {i j : Int} : addV st (.int i) (.int j) = some (.int (i + j)) := rfl
@[simp] theorem cutVal_tup {xs : List Val} {lo hi : Option Int} : cutVal st (.tup xs) lo hi = some (.tup (cutL xs lo hi)) := rfl
@[simp] theorem cutVal_lst {xs : List Val} {lo hi : Option Int} : cutVal st (.lst xs) lo hi = some (.lst (cutL xs lo hi)) := rfl
@[simp] theorem x_m1 {f : Sto → Val → Val → Option Val} {mo ma : M Val} : m1 f mo ma env st = bK (mo env st) (fun a => bnd (lift fun _ => strOf a) fun _ => bnd ma fun b => lift fun st => f st a b) env := x_bnd
@[simp] theorem strOf_str {x : Str} : strOf (.str x) = some x := rfl
@[simp] theorem x_lm {f : Sto → Val → List Val → Option (Val × Sto)} {mo : M Val} {ms : M (List Val)} : lm f mo ms env st = bK (mo env st) (fun a => bnd (lift fun st => isLst st a) fun _ => bnd ms fun as => liftS fun st => f st a as) env := x_bnd
theorem cut_lo {α : Type} (xs : List α) {n : Nat} : cutL xs none (some (n : Int)) = xs.take n := by
  show (xs.drop 0).take (HT.sIx xs.length xs.length (some (n : Int)) - 0) = _
  rw [HT.sIx_nat, List.drop_zero, Nat.sub_zero]
  by_cases hn : n ≤ xs.length
  · rw [Nat.min_eq_left hn]
  · rw [Nat.min_eq_right (by omega), List.take_of_length_le (Nat.le_refl _), List.take_of_length_le (by omega)]
theorem cut_hi {α : Type} (xs : List α) {n : Nat} : cutL xs (some (n : Int)) none = xs.drop n := by
  show (xs.drop (HT.sIx xs.length 0 (some (n : Int)))).take (xs.length - HT.sIx xs.length 0 (some (n : Int))) = _
  rw [HT.sIx_nat]
  by_cases hn : n ≤ xs.length
  · rw [Nat.min_eq_left hn, List.take_of_length_le (by rw [List.length_drop]; omega)]
  · rw [Nat.min_eq_right (by omega), Nat.sub_self, List.drop_of_length_le (by omega : xs.length ≤ n)]
    simp
end
end Mi
namespace Mi
open PySem PySem.Spec PyProof.Rows L2
section
variable {X : Cx} {k : Kx}
/-! ### a[i] by an own __getitem__ -/
def idxG (c : Str) (cf : CF) (ma mb : M Val) : M Val := bnd ma fun a => bnd mb fun b _ st => match clsAt st a with
  | some (c', _) => if c' = c then runP cf [a, b] st else none
  | none => match idxV st a b with
    | some z => some (.ok z, st)
    | none => none
@[simp] theorem x_idxG {c : Str} {cf : CF} {ma mb : M Val} {env : Env} {st : Sto} : idxG c cf ma mb env st = bK (ma env st) (fun a => bnd mb fun b _ st => match clsAt st a with
  | some (c', _) => if c' = c then runP cf [a, b] st else none
  | none => match idxV st a b with
    | some z => some (.ok z, st)
    | none => none) env := x_bnd
end
/-! ### xs[::0 - 1] -/
end Mi
namespace Mi
open PySem PySem.Spec PyProof.Rows L2
/-! ### text.upper() -/
end Mi
namespace L2
open PySem PySem.Spec PyProof.Rows
/-- a clause: its class, its suite -/
abbrev Cla := Value × (Addr → Value → Option Addr → TS)
inductive ClaOk (X : Cx) (n : Str) : List ExceptHandler → List Cla → Prop
  | nil : ClaOk X n [] []
  | cons {y : Str} {c : Value} {ts : Addr → Value → Option Addr → TS} {t0 : Stmt} {tl : List Stmt} {p1 p2 : Pos} {hs : List ExceptHandler} {l : List Cla}
      (hc : Names X y c)
      (hsu : ∀ (z : Addr) (ob : Obj) (cl : Value) (d : Option Addr) (pn : List (Addr × Obj)), Zc cl d ob →
        (∃ vs, ob.data = .fields vs) → PSs (X.suite z ((z, ob) :: pn)) (t0 :: tl) (ts z cl d))
      (r : ClaOk X n hs l) :
      ClaOk X n (.ExceptHandler (some (.Name y p1)) (some n) (t0 :: tl) p2 :: hs) ((c, ts) :: l)
end L2
namespace Mi
open PySem L2
section
variable {X : Cx} {k : Kx} {E : WX}
inductive ClaM (X : Cx) (k : Kx) (n : Str) : List ExceptHandler → List (Value × (Str → Option Bool) × S) → Prop
  | nil : ClaM X k n [] []
  | cons {y : Str} {c : Value} {own : Str → Option Bool} {s : S} {t0 : Stmt} {tl : List Stmt} {p1 p2 : Pos} {hs : List ExceptHandler} {l : List (Value × (Str → Option Bool) × S)}
      (hc : Names X y c) (ho : ∀ n t, own n = some t → PySem.W.exmOne X.K (.ref (k.cl n)) c = some t)
      (hsu : ∀ (z : Addr) (ob : Obj) (cl : Value) (d : Option Addr) (pn : List (Addr × Obj)), Zc cl d ob →
        (∃ vs, ob.data = .fields vs) → PSs (X.suite z ((z, ob) :: pn)) (t0 :: tl) (tS (k.hd (some (z, cl, d))) (fun _ _ _ _ => False) s))
      (r : ClaM X k n hs l) :
      ClaM X k n (.ExceptHandler (some (.Name y p1)) (some n) (t0 :: tl) p2 :: hs) ((c, own, s) :: l)
def claT (k : Kx) (q : Value × (Str → Option Bool) × S) : Cla := (q.1, fun z cl d => tS (k.hd (some (z, cl, d))) (fun _ _ _ _ => False) q.2.2)
theorem ClaM.ok {n : Str} {hs : List ExceptHandler} {l : List (Value × (Str → Option Bool) × S)} (h : ClaM X k n hs l) : ClaOk X n hs (l.map (claT k)) := by
  induction h with
  | nil => exact .nil
  | cons hc ho hsu r ih => exact .cons hc hsu ih
end
end Mi
namespace Mi
open PySem
end Mi
namespace Mi
open PySem L2
theorem kit_ty {K : PySem.W.Frag} {C : Addr} {T : String} {b : Bool} (hm : PySem.W.kitMeta T = true) (h : PySem.W.subIn K (.ref C) (.type T) = some b) : PySem.W.kitOne K (.ref C) (.type T) = some b := by
  unfold PySem.W.kitOne
  rw [if_neg (by simp)]
  show (if PySem.W.kitMeta T = true then PySem.W.subIn K (.ref C) (.type T) else none) = _
  rw [if_pos hm, h]
end Mi
/-! arguments by their names -/
namespace Mi
open PySem PySem.Spec PyProof.Rows L2 ClX
def sel {α : Type} (jx : List Nat) (l : List α) : List α := jx.filterMap fun j => l[j]?
theorem vals_get : ∀ {vs : List V} {us : List Value} (j : Nat), Vals vs us → (vs[j]? = none ∧ us[j]? = none) ∨ ∃ v u, vs[j]? = some v ∧ us[j]? = some u ∧ RelV v u
  | _, _, j, .nil => .inl ⟨rfl, rfl⟩
  | _, _, 0, .cons h t => .inr ⟨_, _, rfl, rfl, h⟩
  | _, _, j + 1, .cons h t => by
    rw [List.getElem?_cons_succ, List.getElem?_cons_succ]
    exact vals_get j t
theorem sel_vals (jx : List Nat) {vs : List V} {us : List Value} (r : Vals vs us) : Vals (sel jx vs) (sel jx us) := by
  induction jx with
  | nil => exact .nil
  | cons j jx ih =>
    unfold sel at ih ⊢
    rw [List.filterMap_cons, List.filterMap_cons]
    rcases vals_get j r with ⟨a, b⟩ | ⟨v, u, a, b, c⟩
    · rw [a, b]
      exact ih
    · rw [a, b]
      exact .cons c ih
section
variable {X : Cx} {k : Kx} {E : WX}
theorem sel_rep (jx : List Nat) {W : Wd} {H : Hp} {xs : List Val} {vs : List V} (r : RepL k W H xs vs) : RepL k W H (sel jx xs) (sel jx vs) := by
  induction jx with
  | nil => exact rfl
  | cons j jx ih =>
    unfold sel at ih ⊢
    rw [List.filterMap_cons, List.filterMap_cons]
    cases e : xs[j]? with
    | none =>
      have e2 : vs[j]? = none := by
        rw [List.getElem?_eq_none_iff] at e ⊢
        rw [r.len]
        exact e
      rw [e2]
      exact ih
    | some x =>
      obtain ⟨v, e2, r2⟩ := r.get e
      rw [e2]
      exact RepL.cons r2 ih
/-- values by place (np), then by name (nk), put in the parameters' order, the defaults ds among them -/
def kwM (np nk : Nat) (jx : List Nat) (ds : List Val) (mp mk : M (List Val)) : M (List Val) := bnd mp fun us => fun env st => if us.length = np then bnd mk (fun ws _ st => if ws.length = nk then some (.ok (sel jx (us ++ (ws ++ ds))), st) else none) env st else none
def tKw (np nk : Nat) (jx : List Nat) (dvs : List V) (t tk : TA) : TA := fun σ H Q => t σ H fun vs H1 => tk σ H1 fun zs H2 => vs.length = np ∧ zs.length = nk ∧ Q (sel jx (vs ++ (zs ++ dvs))) H2
theorem kwM_read {np nk : Nat} {jx : List Nat} {ds : List Val} {dvs : List V} {mp mk : M (List Val)} (hd : ∀ W H, RepL k W H ds dvs) {σ : L2.St} {H : Hp} {Q : List V → Hp → Prop} (h : tMa k E (kwM np nk jx ds mp mk) σ H Q) : tKw np nk jx dvs (tMa k E mp) (tMa k E mk) σ H Q :=
  tG.mono (tG.bnd (R1 := RepL k) h) fun vs H1 ⟨W, us, ru, env, st, o, h1, h2, h3, h4⟩ => by
    dsimp only at h3
    split at h3
    · rename_i hl
      refine tG.mono (At.bnd (R1 := RepL k) (W := W) (fun W H => RepL k W H us vs) (fun l r => r.le l) ru ⟨env, st, o, h1, h2, h3, h4⟩) fun zs H2 ⟨W2, ws, ru2, rz, env2, st2, o2, g1, g2, g3, g4⟩ => ?_
      dsimp only at g3
      split at g3
      · rename_i hl2
        cases g3
        exact ⟨by rw [ru2.len, hl], by rw [rz.len, hl2], g4 W2 H2 _ (Le.refl _ _) g1 (sel_rep jx (ru2.append (rz.append (hd W2 H2))))⟩
      · cases g3
    · cases h3
theorem impK {kws : List Keyword} {t u : TA} (h : PK X kws t) (i : ∀ σ H Q, u σ H Q → t σ H Q) : PK X kws u := ⟨fun pos pins s σ H Q I q => h.run pos pins s σ H Q I (i σ H Q q)⟩
theorem mk_nil : PK X [] (tMa k E nilM) := impK pk_nil fun σ H Q h => nil_read h
theorem mk_cons {nm : Option Str} {kpos : Pos} {e : Expr} {kws : List Keyword} {m : M Val} {ms : M (List Val)} (h : PE X e (tM k E m)) (t : PK X kws (tMa k E ms)) : PK X (⟨nm, e, kpos⟩ :: kws) (tMa k E (consM m ms)) :=
  impK (pk_cons h t) fun σ H Q h => tG.mono (tG.bnd (R1 := RepV k) h) fun x H1 ⟨W, a, ra, h1⟩ =>
    tG.mono (At.bnd (R1 := RepL k) (fun W H => RepV k W H a x) (fun l r => r.le l) ra h1) fun xs H2 ⟨W2, as, ra2, rs, h2⟩ => h2.ret (RepL.cons ra2 rs)
end
structure KBf (K : PySem.W.Frag) (fd : FuncData) (ps ks : List Str) (np : Nat) (jx : List Nat) (dus : List Value) : Prop where
  to : ∀ (s : Shared) (us ws : List Value), K.In s.heap → us.length = np → ws.length = ks.length → BindsTo s fd ⟨us, ks.zip ws⟩ (ps.zip (sel jx (us ++ (ws ++ dus))))
section
variable {K : PySem.W.Frag} {x qual : Str} {params : Arguments} {body : List Stmt} {scope : Scope} {dvs : List V} {f : Addr} {fd : FuncData} {ps : List Str} {st : Stmt}
theorem kbf_plain (F : Fun K x qual st f fd) (np : Nat) (ks : List Str) (jx : List Nat)
    (h : ∀ (kV doc pm : Value) (an : Option Addr) (cdv ct : Value) (us ws : List Value), us.length = np → ws.length = ks.length →
      bindArgs (PySem.W.fnOf x qual (defArgs st) (defBody st) (defScope st) .none kV doc pm an cdv ct) ⟨us, ks.zip ws⟩ = pure (ps.zip (sel jx (us ++ (ws ++ []))))) :
    ∃ its : List Value, Vals [] its ∧ KBf K fd ps ks np jx its := by
  obtain ⟨oc, od, kV, doc, pm, an, cdv, ct, osl, rfl, lk, hcd⟩ := F.ex
  exact ⟨[], .nil, ⟨fun s us ws X l1 l2 => .of_eq (h kV doc pm an cdv ct us ws l1 l2)⟩⟩
end
section
variable {X : Cx} {CX : CXT} {kk : Nat} {C f : Addr} {x m : Str} {fd : FuncData} {ps ks : List Str} {sp : Sp} {F : L2.St → XK} {p pos apos : Pos} {e o : Expr} {es : List Expr} {kws : List Keyword} {t tk : TA} {ta : TE} {jx : List Nat} {dvs : List V} {dus : List Value} {np : Nat}
theorem run_fnB {G1 : XK} {pins : List (Addr × Obj)} {σ : L2.St} {H : Hp} {s : Shared} {Q : VK} {us ws bs : List Value} {bv : List V} (G : FnOk X.prog X.w X.K X.mg X.base CX kk f fd ps sp) (hr : Room kk X.A) (hx : PassesAt CX X σ G1) (I : Inv X pins σ H s)
    (hb : BindsTo s fd ⟨us, ks.zip ws⟩ (ps.zip bs)) (r : Vals bv bs) (h : sp bv H Q G1) : wpAny (model X.prog X.w) X.A (call (.ref f) us (ks.zip ws)) (EP X pins σ Q) X.xe s := by
  refine wpAny_call (codeAny_mono (G.run X.A X.stack s H ⟨us, ks.zip ws⟩ bs bv Q G1 hr I.env0 hb r h) fun r s' hq => ?_)
  match r, hq with
  | .error e, z => exact hx pins H s e s' I z
  | .ok (.ret u), z => exact I.after z
  | .ok .next, z => exact z.elim
  | .ok .brk, z => exact z.elim
  | .ok .cont, z => exact z.elim
/-- f(k = v, ..) -/
theorem pe_fnK0 (G : FnOk X.prog X.w X.K X.mg X.base CX kk f fd ps sp) (hr : Room kk X.A) (hg : Gl X x) (hm : X.mg x = some (.ref f)) (hkp : PySem.W.keepIn X.K (.ref f) = true) (hb : KBf X.K fd ps ks 0 jx dus) (hv : Vals dvs dus) (hx : ∀ σ, PassesAt CX X σ (F σ)) (hkw : PK X kws tk)
    (hall : (backToKw pos (keywordEach kws X.env)).all (·.1.isSome) = true := by rfl) (hks : (backToKw pos (keywordEach kws X.env)).filterMap (·.1) = ks := by rfl) (hdb : (x == ("__debug__" : Str)) = false := by decide)
    (hpl : ((backTo pos (starEach [] X.env)).any (·.1) || (backToKw pos (keywordEach kws X.env)).any (·.1.isNone)) = false := by rfl) :
    PE X (.Call (.Name x p) [] kws pos) (tCallSD sp [] F (tKw 0 ks.length jx dvs tNil tk)) :=
  ⟨fun pins s σ H Q I h => wpAny_Call_Name_kw (ld_glob I hg hm (PySem.W.callWith_KW0 (h₀ := X.base) I.ok.mod.kin hkp hall (thn (hkw.run pos pins s σ H _ I h) fun ws s2 ⟨zs, H2, I2, rz, l1, l2, q2⟩ => ⟨I2.kIn, by
    rw [hks]
    dsimp only at q2
    rw [List.append_nil] at q2
    exact run_fnB (us := []) G hr (hx σ) I2 (hb.to s2 [] ws I2.kIn rfl (rz.length.symm.trans l2)) (sel_vals jx (rz.append hv)) q2⟩) hpl) hdb)⟩
end
section
variable {X : Cx} {k : Kx} {E : WX} {kk n np : Nat} {f : Addr} {c x m : Str} {fd : FuncData} {ps ks : List Str} {cf : CF} {p pos apos : Pos} {e o : Expr} {es : List Expr} {kws : List Keyword} {jx : List Nat} {ds : List Val} {dvs : List V} {dus : List Value} {ms mk : M (List Val)} {mo : M Val}
theorem me_callPK0 (G : FnOk X.prog X.w X.K X.mg X.base (L2.CX X.prog X.w) kk f fd ps (spM k n cf)) (hr : Room kk X.A) (hg : Gl X x) (hm : X.mg x = some (.ref f)) (hkp : PySem.W.keepIn X.K (.ref f) = true) (hb : KBf X.K fd ps ks 0 jx dus) (hv : Vals dvs dus) (hd : ∀ W H, RepL k W H ds dvs) (tk : Takes X E) (hkw : PK X kws (tMa k E mk))
    (hall : (backToKw pos (keywordEach kws X.env)).all (·.1.isSome) = true := by rfl) (hks : (backToKw pos (keywordEach kws X.env)).filterMap (·.1) = ks := by rfl) (hdb : (x == ("__debug__" : Str)) = false := by decide)
    (hpl : ((backTo pos (starEach [] X.env)).any (·.1) || (backToKw pos (keywordEach kws X.env)).any (·.1.isNone)) = false := by rfl) : PE X (.Call (.Name x p) [] kws pos) (tM k E (callP n cf [] (kwM 0 ks.length jx ds nilM mk))) :=
  imp (pe_fnK0 G hr hg hm hkp hb hv (fun σ => passAt tk σ) hkw hall hks hdb hpl) fun σ H Q h => nil_read (kwM_read hd (callP_read (fun _ _ => rl_nil) h))
end
end Mi
namespace Mi
open PySem PySem.Spec PyProof.Rows L2
/-! ### calls over deep snapshots: all that stands in the store is read alone -/
def snapD (st : Sto) : Nat → Val → Option Val
  | 0, a => if noRef a then some a else none
  | n + 1, a => if noRef a then some a else match a with
    | .ref i => match st[i]? with
      | some (.lst xs) => (allOf (snapD st n) xs).map Val.lst
      | some (.ins c ks xs) => (allOf (snapD st n) xs).map (Val.ins c ks)
      | _ => none
    | .tup xs => (allOf (snapD st n) xs).map Val.tup
    | .lst xs => (allOf (snapD st n) xs).map Val.lst
    | .ins c ks xs => (allOf (snapD st n) xs).map (Val.ins c ks)
    | _ => none
mutual
/-- tuples and what is no object of the store's kinds -/
def plain : Val → Bool
  | .non | .bl _ | .int _ | .str _ | .cls _ => true
  | .tup xs | .rol xs => plains xs
  | _ => false
def plains : List Val → Bool
  | [] => true
  | x :: xs => plain x && plains xs
end
/-- everything frozen -/
def Wd.all (W : Wd) : Wd := ⟨[], fun p => W.fz p ∨ p ∈ W.rho⟩
section
variable {k : Kx} {W W' : Wd} {H H' : Hp} {st : Sto}
theorem allOf_rep {f : Val → Option Val} {W2 : Wd} (h : ∀ a b u, RepV k W H a u → f a = some b → RepV k W2 H b u) : ∀ {xs ys : List Val} {vs : List V}, RepL k W H xs vs → allOf f xs = some ys → RepL k W2 H ys vs
  | [], ys, vs, r, e => by
    cases e
    exact r
  | x :: xs, ys, vs, r, e => by
    obtain ⟨v, u, rfl, r1, r2⟩ := r
    unfold allOf at e
    split at e
    · rename_i a rr h1 h2
      cases e
      exact ⟨v, u, rfl, h _ _ _ r1 h1, allOf_rep h r2 h2⟩
    · cases e
theorem allOf_len {α : Type} {f : Val → Option α} : ∀ {xs : List Val} {ys : List α}, allOf f xs = some ys → ys.length = xs.length
  | [], ys, e => by
    cases e
    rfl
  | x :: xs, ys, e => by
    unfold allOf at e
    split at e
    · rename_i a rr h1 h2
      cases e
      simp [allOf_len h2]
    · cases e
theorem snapD_rep (o : Ok k W H st) : ∀ (n : Nat) (a b : Val) (u : V), RepV k W H a u → snapD st n a = some b → RepV k W.all H b u
  | 0, a, b, u, r, e => by
    unfold snapD at e
    split at e
    · rename_i hn
      cases e
      exact RepV.other (fun p f => Or.inl f) r hn
    · cases e
  | n + 1, a, b, u, r, e => by
    unfold snapD at e
    split at e
    · rename_i hn
      cases e
      exact RepV.other (fun p f => Or.inl f) r hn
    · cases a with
      | ref i =>
        dsimp only at e
        obtain ⟨p, rfl, hp⟩ := r
        have hm : p ∈ W.rho := List.mem_of_getElem? hp
        split at e
        · rename_i xs hx
          obtain ⟨vs, hv, rv⟩ := o.obj i _ p hx hp
          cases q : allOf (snapD st n) xs with
          | none =>
            rw [q] at e
            cases e
          | some ys =>
            rw [q] at e
            cases e
            exact ⟨p, vs, rfl, .inr hm, hv, allOf_rep (snapD_rep o n) rv q⟩
        · rename_i c ks xs hx
          obtain ⟨dx, vs, hv, n1, rv⟩ := o.obj i _ p hx hp
          cases q : allOf (snapD st n) xs with
          | none =>
            rw [q] at e
            cases e
          | some ys =>
            rw [q] at e
            cases e
            exact ⟨p, dx, vs, rfl, .inr hm, hv, by rw [allOf_len q]; exact n1, allOf_rep (snapD_rep o n) rv q⟩
        · cases e
      | tup xs =>
        dsimp only at e
        obtain ⟨p, vs, e1, s, rv⟩ := r
        cases q : allOf (snapD st n) xs with
        | none =>
          rw [q] at e
          cases e
        | some ys =>
          rw [q] at e
          cases e
          exact ⟨p, vs, e1, s, allOf_rep (snapD_rep o n) rv q⟩
      | lst xs =>
        dsimp only at e
        obtain ⟨p, vs, e1, f, s, rv⟩ := r
        cases q : allOf (snapD st n) xs with
        | none =>
          rw [q] at e
          cases e
        | some ys =>
          rw [q] at e
          cases e
          exact ⟨p, vs, e1, .inl f, s, allOf_rep (snapD_rep o n) rv q⟩
      | ins c ks xs =>
        dsimp only at e
        obtain ⟨p, dx, vs, e1, f, s, n1, rv⟩ := r
        cases q : allOf (snapD st n) xs with
        | none =>
          rw [q] at e
          cases e
        | some ys =>
          rw [q] at e
          cases e
          exact ⟨p, dx, vs, e1, .inl f, s, by rw [allOf_len q]; exact n1, allOf_rep (snapD_rep o n) rv q⟩
      | _ => cases e
theorem Ok.all (o : Ok k W H st) : Ok k W.all H [] := by
  refine ⟨List.nodup_nil, rfl, fun p f => ?_, fun p m => ?_, fun i u q e => ?_⟩
  · rcases f with f | f
    · exact o.fzs p f
    · exact o.there f
  · exact nomatch m
  · rw [List.getElem?_nil] at e
    cases e
def Wd.again (W W' : Wd) : Wd := ⟨W.rho, fun p => W'.fz p ∧ p ∉ W.rho⟩
theorem Ok.again (o : Ok k W H st) (h : Le W.all W' H H') (hW : ∀ p, W'.fz p → H' p ≠ none) : Le W (W.again W') H H' ∧ Ok k (W.again W') H' st := by
  have keep : ∀ p u, H p = some u → H' p = some u := fun p u e => h.rest p u e fun m => nomatch m
  have le : Le W (W.again W') H H' := ⟨⟨[], by simp [Wd.again]⟩, fun p f => ⟨h.fz p (.inl f), fun m => o.apart p m f⟩, fun p u e _ => keep p u e, fun p u e _ => keep p u e, fun p u e _ => keep p u e, fun p m => .inl m, fun p f => by
    rcases h.newf p f.1 with z | z
    · rcases z with z | z
      · exact .inl z
      · exact absurd z f.2
    · exact .inr z, h.dom⟩
  refine ⟨le, ⟨o.nd, o.len, fun p f => hW p f.1, fun p m f => f.2 m, fun i u q e1 e2 => ?_⟩⟩
  have hq : q ∈ W.rho := List.mem_of_getElem? e2
  refine (o.obj i u q e1 e2).le le ?_
  cases z : H q with
  | none => exact absurd z (o.there hq)
  | some y => exact keep q y z
mutual
theorem RepV.plain {W2 : Wd} : ∀ {v : Val} {u : V}, RepV k W H v u → plain v = true → RepV k W2 H v u
  | .non, _, h, _ => h
  | .bl _, _, h, _ => h
  | .int _, _, h, _ => h
  | .str _, _, h, _ => h
  | .cls _, _, h, _ => h
  | .tpd _, _, _, n => nomatch n
  | .tup xs, _, h, n => by
    obtain ⟨p, vs, e, s, r⟩ := h
    exact ⟨p, vs, e, s, RepL.plain r n⟩
  | .rol xs, _, h, n => by
    obtain ⟨p, vs, e, s, r⟩ := h
    exact ⟨p, vs, e, s, RepL.plain r n⟩
  | .lst _, _, _, n => nomatch n
  | .ins _ _ _, _, _, n => nomatch n
  | .ref _, _, _, n => nomatch n
  | .exv _ _ _, _, _, n => nomatch n
theorem RepL.plain {W2 : Wd} : ∀ {v : List Val} {u : List V}, RepL k W H v u → plains v = true → RepL k W2 H v u
  | [], _, h, _ => h
  | y :: ys, _, h, n => by
    obtain ⟨v, r, e, h1, h2⟩ := h
    have n' := Bool.and_eq_true_iff.mp n
    exact ⟨v, r, e, RepV.plain h1 n'.1, RepL.plain h2 n'.2⟩
end
def outD (st : Sto) : Option (Except Exc Val × Sto) → Res Val
  | some (.ok v, _) => if plain v then some (.ok v, st) else none
  | some (.error x, _) => if plains x.xs then some (.error x, st) else none
  | none => none
/-- the callee looks at deep snapshots, its answer is plain -/
def pureD (c : CF) : CF := fun us st => match allOf (snapD st 9) us with
  | some ws => outD st (c ws [])
  | none => none
theorem pureD_sp {n : Nat} {c : CF} {vs : List V} {Q : VK} {E : XK} (h : spM k n (pureD c) vs H Q E) : spM k n c vs H Q E := by
  obtain ⟨W, us, st, o, h0, h1, h2, h3, h4⟩ := h
  unfold pureD at h3
  split at h3
  · rename_i ws hw
    cases q : c ws [] with
    | none =>
      rw [q] at h3
      cases h3
    | some y =>
      rw [q] at h3
      obtain ⟨y, st'⟩ := y
      refine ⟨W.all, ws, [], _, (allOf_len hw).trans h0, h1.all, allOf_rep (snapD_rep h1 9) h2 hw, q, ?_⟩
      cases y with
      | ok v =>
        dsimp only [outD] at h3
        split at h3
        · rename_i hv
          cases h3
          intro W' H' u l o' ru
          obtain ⟨a1, a2⟩ := h1.again l o'.fzs
          exact h4 _ H' u a1 a2 (ru.plain hv)
        · cases h3
      | error x =>
        dsimp only [outD] at h3
        split at h3
        · rename_i hv
          cases h3
          intro W' H' u d l o' ru
          obtain ⟨a1, a2⟩ := h1.again l o'.fzs
          refine h4 _ H' u d a1 a2 ⟨ru.1, ru.2.1, ?_⟩
          rcases ru.2.2 with z | ⟨a, vs, z1, z2, z3⟩
          · exact .inl z
          · exact .inr ⟨a, vs, z1, z2, z3.plain hv⟩
        · cases h3
  · cases h3
theorem ok_pureD {P : Program} {w : World} {mg : Str → Option Value} {base : Heap} {j n : Nat} {f : Addr} {fd : FuncData} {ps : List Str} {c : CF} (F : FnOk P w k.K mg base (L2.CX P w) j f fd ps (spM k n c)) : FnOk P w k.K mg base (L2.CX P w) j f fd ps (spM k n (pureD c)) :=
  F.imp fun _ _ _ _ h => pureD_sp h
end
end Mi
namespace Mi
open PySem PySem.Spec PyProof.Rows L2 PpSet
/-! ### set comprehensions of ints and texts -/
end Mi
namespace Mi
open PySem PySem.Spec PyProof.Rows L2 PpSet
/-! ### sorted({.. for .. in ..}) -/
section
variable {X : Cx} {k : Kx} {E : WX} {p pos : Pos}
/-! the world beside an object that no value speaks of -/
theorem keyV_rep {W : Wd} {H : Hp} {a : Val} {v : V} {q : Key} (r : RepV k W H a v) (e : keyV a = some q) : v = kV q := by
  have h := keys_rep (xs := [a]) (ks := [q]) (RepL.cons r (show RepL k W H [] [] from rfl)) (by unfold allOf allOf; rw [e])
  have h' := List.cons.inj h
  exact h'.1
end
end Mi
namespace Mi
open PySem PySem.Spec PyProof.Rows L2
/-! ### for at, x in enumerate(a list of the store), which the turns leave as long as it is -/
def loopE (t : Tg) (body : S) (a n : Nat) : Nat → S
  | 0, env, st => match lstAt st a with
    | some xs => if xs.length = n then some (.next, env, st) else none
    | none => none
  | r + 1, env, st => match lstAt st a with
    | some xs => if xs.length = n then match xs[n - (r + 1)]? with
      | none => none
      | some x => match bindT t (.tup [.int ((n - (r + 1) : Nat) : Int), x]) env with
        | none => none
        | some env1 => match body env1 st with
          | some (.next, e, s) => loopE t body a n r e s
          | some (.cont, e, s) => loopE t body a n r e s
          | some (.brk, e, s) => some (.next, e, s)
          | o => o
      else none
    | none => none
def sForE (ms : M (List Val)) (t : Tg) (body : S) : S := sBnd ms fun vs env st => match vs with
  | [.ref a] => match lstAt st a with
    | some xs => loopE t body a xs.length xs.length env st
    | none => none
  | _ => none
section
variable {X : Cx} {k : Kx} {E : WX}
theorem forE_read {ms : M (List Val)} {t : Tg} {body : S} {D : Ends} {σ : L2.St} {H : Hp} (h : tS k E (sForE ms t body) D σ H) :
    tFor (fun σ H R => tMa k E ms σ H fun vs H1 => ∃ c xs, vs = [.ref (Sc.addr c)] ∧ c.sq k.K H1 xs ∧ R (IteS k.K c) H1) (gT k.K t) (tS k E body) D σ H := by
  refine tG.mono (tS.bnd (R := RepL k) h) fun us H1 ⟨W, as, ra, env, st, o, h1, h2, h3, h4⟩ => ?_
  dsimp only at h3
  split at h3
  · rename_i a
    obtain ⟨x, rfl, r1⟩ := rep1 ra
    obtain ⟨p, e1, hp⟩ := r1
    cases hx : lstAt st a with
    | none =>
      rw [hx] at h3
      cases h3
    | some xs =>
      rw [hx] at h3
      dsimp only at h3
      obtain ⟨vs, hv, rv⟩ := lstAt_rep h1 hx hp
      refine ⟨.l p, vs, by rw [e1]; rfl, .inl (.inl hv), fun i m σ H => i + m = xs.length ∧ ∃ W' env st, Le W W' H1 H ∧ Ok k W' H st ∧ RepE k W' H env σ ∧ loopE t body a xs.length m env st = some o, ⟨xs.length, by omega, W, env, st, Le.refl _ _, h1, h2, h3⟩, ?_⟩
      rintro i m σ H ⟨hi, W', env, st, l, ok, re, hl⟩
      cases m with
      | zero =>
        dsimp only [loopE] at hl
        cases hy : lstAt st a with
        | none =>
          rw [hy] at hl
          cases hl
        | some ys =>
          rw [hy] at hl
          dsimp only at hl
          split at hl
          · rename_i hn
            cases hl
            obtain ⟨us, hu, ru⟩ := lstAt_rep ok hy (l.at hp)
            exact .inl ⟨⟨us, .inl (.inl hu), by rw [ru.len, hn]; omega⟩, h4 W' H σ l ok re⟩
          · cases hl
      | succ m =>
        dsimp only [loopE] at hl
        cases hy : lstAt st a with
        | none =>
          rw [hy] at hl
          cases hl
        | some ys =>
          rw [hy] at hl
          dsimp only at hl
          split at hl
          · rename_i hn
            have ei : xs.length - (m + 1) = i := by omega
            rw [ei] at hl
            obtain ⟨us, hu, ru⟩ := lstAt_rep ok hy (l.at hp)
            cases hz : ys[i]? with
            | none =>
              rw [hz] at hl
              cases hl
            | some z =>
              rw [hz] at hl
              dsimp only at hl
              obtain ⟨w, hw, rw'⟩ := ru.get hz
              refine .inr ⟨⟨us, w, .inl (.inl hu), hw⟩, fun σ' H' => ∃ W'' env st, Le W W'' H1 H' ∧ Ok k W'' H' st ∧ RepE k W'' H' env σ' ∧ loopE t body a xs.length m env st = some o, fun σ' H' ⟨W2, env2, st2, l2, o2, r2, e2⟩ => ⟨m, by omega, by omega, W2, env2, st2, l2, o2, r2, e2⟩, fun v H' hy' => ?_⟩
              obtain ⟨T, w', ev, hT, eh, same⟩ := hy'
              have ew : w = w' := Option.some.inj (hw.symm.trans (same us (.inl (.inl hu))))
              subst ev eh ew
              have lT : Le W' W' H (upd H T (.tup [.int (i : Nat), w])) := Le.new hT
              have okT := ok.new (o := .tup [.int (i : Nat), w]) hT
              have rT : RepV k W' (upd H T (.tup [.int (i : Nat), w])) (.tup [.int ((i : Nat) : Int), z]) (.ref T) := ⟨T, _, rfl, .inl (.inl upd_same), RepL.cons rfl (RepL.cons (rw'.le lT) (show RepL k _ _ [] [] from rfl))⟩
              cases e : bindT t (.tup [.int ((i : Nat) : Int), z]) env with
              | none =>
                rw [e] at hl
                cases hl
              | some env1 =>
                rw [e] at hl
                dsimp only at hl
                refine gT_of rT (re.le lT) e fun σ2 re2 _ => ?_
                cases eb : body env1 st with
                | none =>
                  rw [eb] at hl
                  cases hl
                | some q =>
                  obtain ⟨r, e', s'⟩ := q
                  rw [eb] at hl
                  refine ⟨W', env1, st, _, okT, re2, eb, ?_⟩
                  cases r with
                  | next => exact fun W3 H3 σ3 l3 o3 r3 => ⟨W3, e', s', (l.trans lT).trans l3, o3, r3, hl⟩
                  | cont => exact fun W3 H3 σ3 l3 o3 r3 => ⟨W3, e', s', (l.trans lT).trans l3, o3, r3, hl⟩
                  | brk =>
                    cases hl
                    exact fun W3 H3 σ3 l3 o3 r3 => h4 W3 H3 σ3 ((l.trans lT).trans l3) o3 r3
                  | ret u =>
                    cases hl
                    exact fun W3 H3 v l3 o3 r3 => h4 W3 H3 v ((l.trans lT).trans l3) o3 r3
                  | err x =>
                    cases hl
                    exact fun W3 H3 σ3 c d l3 o3 r3 r4 => h4 W3 H3 σ3 c d ((l.trans lT).trans l3) o3 r3 r4
          · cases hl
  · cases h3
theorem ms_forE {e : Expr} {body : List Stmt} {ms : M (List Val)} {t : Tg} {s : S} {p pos pos' tpos : Pos} {elts : List Expr} {kk : Nat} (hp : PassesOwn (model X.prog X.w) X.A X.env X.xe) (hc : X.calm = true) (hg : Gl X "enumerate") (hm : X.mg "enumerate" = none) (ha : PA X [e] (tMa k E ms)) (eg : PG X (.Tuple elts kk tpos) (gT X.K t)) (hb : PSs X body (tS k E s))
    (hs : ∀ x, foldedSetIterable (.Call (.Name "enumerate" p) [e] [] pos') X.env x = pure x := by intro _; rfl) (hst : starEach [e] X.env = [(false, eval e X.env)] := by rfl) (hk : X.K = k.K := by rfl) : PS X (.For (.Tuple elts kk tpos) (.Call (.Name "enumerate" p) [e] [] pos') body [] pos) (tS k E (sForE ms t s)) :=
  impS (ps_for hp hc (pi_enumS hg hm ha hst) eg hb hs) fun D σ H h => by
    rw [hk]
    exact forE_read h
/-! ### o.f += e, ints -/
/-! ### xs[lo:hi], a list that will be changed -/
def sliceS (ma : M Val) (ml mh : M (Option Int)) : M Val := bnd ma fun a => bnd ml fun lo => bnd mh fun hi => liftS fun st => (lstOf st a).map fun xs => (.ref st.length, st ++ [.lst (cutL xs lo hi)])
theorem me_sliceS {e : Expr} {lo hi : Option Expr} {p2 pos : Pos} {ma : M Val} {ml mh : M (Option Int)} (he : PE X e (tM k E ma)) (hl : PO X lo (tMo k E ml)) (hh : PO X hi (tMo k E mh)) (hk : X.K = k.K := by rfl) :
    PE X (.Subscript e (.Slice lo hi none p2) pos) (tM k E (sliceS ma ml mh)) := by
  refine imp (pe_slice sl_list he hl hh) fun σ H Q h => ?_
  rw [hk]
  refine tG.mono (tG.bnd (R1 := RepV k) h) fun x H1 ⟨W, a, ra, h1⟩ => ?_
  refine tG.mono (At.bnd (R1 := RO) (fun W H => RepV k W H a x) (fun l r => r.le l) ra h1) fun lo H2 ⟨W2, lo', ra2, el, h2⟩ => ?_
  cases el
  refine tG.mono (At.bnd (R1 := RO) (fun W H => RepV k W H a x) (fun l r => r.le l) ra2 h2) fun hi H3 ⟨W3, hi', ra3, eh, h3⟩ => ?_
  cases eh
  obtain ⟨c, st, st', e, o, q⟩ := h3.liftS
  cases hx : lstOf st a with
  | none =>
    rw [hx] at e
    cases e
  | some xs =>
    rw [hx] at e
    cases e
    obtain ⟨p, vs, e1, s, r⟩ := lstOf_rep o ra3 hx
    exact ⟨p, vs, e1, s, fun p hp => newLstM o hp (cutL_rep r _ _) q⟩
/-! ### an expression asked over deep snapshots -/
def snapED (st : Sto) : Env → Env
  | [] => []
  | e :: es => e.bind (snapD st 9) :: snapED st es
theorem snapED_rep {W : Wd} {H : Hp} {st : Sto} (o : Ok k W H st) : ∀ {env : Env} {σ : L2.St}, RepE k W H env σ → RepE k W.all H (snapED st env) σ
  | [], _, h => h
  | e :: es, _, h => by
    obtain ⟨v, r, e1, h1, h2⟩ := h
    refine ⟨v, r, e1, fun x hx => ?_, snapED_rep o h2⟩
    cases e with
    | none => cases hx
    | some y =>
      obtain ⟨u, e2, h3⟩ := h1 y rfl
      exact ⟨u, e2, snapD_rep o 9 _ _ _ h3 hx⟩
/-- a new list of plain values, which will be changed -/
def borS (m : M Val) : M Val := fun env st => match m (snapED st env) [] with
  | some (.ok (.ref j), st') => match (st' : List SO)[j]? with
    | some (.lst ys) => if plains ys then some (.ok (.ref st.length), st ++ [.lst ys]) else none
    | _ => none
  | _ => none
theorem borS_read {m : M Val} {σ : L2.St} {H : Hp} {Q : VK} (h : tM k E (borS m) σ H Q) : tM k E m σ H Q := by
  obtain ⟨W, env, st, o, h1, h2, h3, h4⟩ := h
  unfold borS at h3
  split at h3
  · rename_i j st' e
    split at h3
    · rename_i ys hy
      split at h3
      · rename_i hs
        cases h3
        refine ⟨W.all, snapED st env, [], _, h1.all, snapED_rep h1 h2, e, fun W' H' v l o' r => ?_⟩
        obtain ⟨a1, a2⟩ := h1.again l o'.fzs
        obtain ⟨p, e1, hp⟩ := r
        obtain ⟨vs, hv, rv⟩ := o'.obj j _ p hy hp
        have hm : p ∈ W'.rho := List.mem_of_getElem? hp
        have hn : H p = none := by
          rcases l.newr p hm with z | z
          · exact nomatch z
          · exact z
        have nr : p ∉ (W.again W').rho := fun z => h1.there z hn
        have nf : ¬ (W.again W').fz p := fun z => o'.apart p hm z.1
        refine h4 _ H' v (a1.obD hn) (a2.obD nf nr ⟨vs, hv, rv.plain hs⟩) ⟨p, e1, ?_⟩
        show (W.rho ++ [p])[st.length]? = some p
        rw [List.getElem?_append_right (by rw [h1.len]; exact Nat.le_refl _), h1.len, Nat.sub_self]
        rfl
      · cases h3
    · cases h3
  · cases h3
theorem me_borS {e : Expr} {m : M Val} (h : PE X e (tM k E m)) : PE X e (tM k E (borS m)) := imp h fun _ _ _ q => borS_read q
end
end Mi
namespace Mi
open PySem L2
/-! ### running: more steps -/
section
variable {env : Env} {st : Sto}
@[simp] theorem x_sSetT {t : Tg} {m : M Val} : sSetT t m env st = eK (m env st) (fun v env st => match bindT t v env with
  | some env' => some (.next, env', st)
  | none => none) env := x_sBnd
@[simp] theorem x_sSub {me mo mi : M Val} : sSub me mo mi env st = eK (me env st) (fun v => sBnd mo fun a => sBnd mi fun j env st => match a, j with
  | .ref i, .int n => match st[i]? with
    | some (.lst xs) => match ixN xs.length n with
      | some l => some (.next, env, st.set i (.lst (xs.set l v)))
      | none => none
    | _ => none
  | _, _ => none) env := x_sBnd
@[simp] theorem x_methM {c m : Str} {n : Nat} {cf : CF} {ds : List Val} {mo : M Val} {ms : M (List Val)} : methM c m n cf ds mo ms env st = bK (mo env st) (fun a env st => if isOf c m st a then bnd ms (fun us _ st => if (a :: (us ++ ds)).length = n then cf (a :: (us ++ ds)) st else none) env st else none) env := x_bnd
@[simp] theorem x_makeM {c : Str} {n : Nat} {cf : CF} {ds : List Val} {ms : M (List Val)} : makeM c n cf ds ms env st = bK (ms env st) (fun us _ st => if (us ++ ds).length + 1 = n then match cf (.ref st.length :: (us ++ ds)) (st ++ [.ins c [] []]) with
  | some (.ok .non, st') => some (.ok (.ref st.length), st')
  | some (.ok _, _) => none
  | some (.error x, st') => some (.error x, st')
  | none => none else none) env := x_bnd
@[simp] theorem x_sliceS {ma : M Val} {ml mh : M (Option Int)} : sliceS ma ml mh env st = bK (ma env st) (fun a => bnd ml fun lo => bnd mh fun hi => liftS fun st => (lstOf st a).map fun xs => (.ref st.length, st ++ [.lst (cutL xs lo hi)])) env := x_bnd
@[simp] theorem x_appS {f : Sto → List Val → Option (Val × Sto)} {ms : M (List Val)} : appS f ms env st = bK (ms env st) (fun as => liftS fun st => f st as) env := x_bnd
@[simp] theorem x_mkLstM {ms : M (List Val)} : mkLstM ms env st = bK (ms env st) (fun xs => liftS fun st => if xs.length ≤ LIM then some (.ref st.length, st ++ [.lst xs]) else none) env := x_bnd
@[simp] theorem isNV_non : isNV st .non .non = some (.bl true) := rfl
@[simp] theorem isNV_tup {xs : List Val} : isNV st (.tup xs) .non = some (.bl false) := rfl
@[simp] theorem notNV_non : notNV st .non .non = some (.bl false) := rfl
@[simp] theorem notNV_tup {xs : List Val} : notNV st (.tup xs) .non = some (.bl true) := rfl
@[simp] theorem eqV_ints {i j : Int} : eqV st (.int i) (.int j) = some (.bl (i == j)) := by first | rfl | exact eqV_int st i j
@[simp] theorem neV_ints {i j : Int} : neV st (.int i) (.int j) = some (.bl (!(i == j))) := rfl
@[simp] theorem subV_int {i j : Int} : subV st (.int i) (.int j) = some (.int (i - j)) := rfl
theorem fld_ref {own : Str → Bool} {f c : Str} {ks : List Str} {xs : List Val} {i : Nat} (h : st[i]? = some (.ins c ks xs)) (ho : own c = true) : fldV own f st (.ref i) = fieldOf f ks xs := by
  unfold fldV
  dsimp only
  rw [h]
  dsimp only
  rw [if_pos ho]
theorem isOf_ref {c m : Str} {ks : List Str} {xs : List Val} {i : Nat} (h : st[i]? = some (.ins c ks xs)) (hm : ks.contains m = false) : isOf c m st (.ref i) = true := by
  unfold isOf clsAt
  dsimp only
  rw [h]
  dsimp only
  rw [hm]
  simp
theorem idx_ref {i : Nat} {xs : List Val} {k : Int} (h : st[i]? = some (.lst xs)) : idxV st (.ref i) (.int k) = atI xs k := by
  show (match seqOf st (.ref i) with | some xs => atI xs k | none => none) = _
  have e : seqOf st (.ref i) = some xs := by
    show (match st[i]? with | some (.lst xs) => some xs | _ => none) = _
    rw [h]
  rw [e]
theorem idx_tup {xs : List Val} {k : Int} : idxV st (.tup xs) (.int k) = atI xs k := rfl
theorem lst_ref {i : Nat} {xs : List Val} (h : st[i]? = some (.lst xs)) : lstOf st (.ref i) = some xs := by
  show (match st[i]? with | some (.lst xs) => some xs | _ => none) = _
  rw [h]
theorem len_ref {i : Nat} {xs : List Val} (h : st[i]? = some (.lst xs)) : lenV st [.ref i] = some (.int xs.length) := by
  show (seqOf st (.ref i)).map _ = _
  rw [show seqOf st (.ref i) = some xs from lst_ref h]
  rfl
theorem isLst_ref {i : Nat} {xs : List Val} (h : st[i]? = some (.lst xs)) : isLst st (.ref i) = some () := by
  unfold isLst
  rw [lst_ref h]
theorem app_ref {i : Nat} {xs : List Val} {a : Val} (h : st[i]? = some (.lst xs)) (hl : xs.length < 16000000) : appendV st (.ref i) [a] = some (.non, st.set i (.lst (xs ++ [a]))) := by
  unfold appendV
  dsimp only
  rw [h]
  dsimp only
  rw [if_pos hl]
end
theorem atI_nat {α : Type} {xs : List α} {n : Nat} : atI xs (n : Int) = xs[n]? := by
  unfold atI ixN
  by_cases h : n < xs.length
  · rw [if_pos (by omega), if_pos (by omega)]
    simp
  · rw [if_pos (by omega), if_neg (by omega)]
    simp
    omega
theorem loopE_inv {t : Tg} {body : S} {a n : Nat} (I : Nat → Env → Sto → Prop)
    (hs : ∀ i env st, i < n → I i env st → ∃ xs x env1, lstAt st a = some xs ∧ xs.length = n ∧ xs[i]? = some x ∧ bindT t (.tup [.int (i : Int), x]) env = some env1 ∧ ∃ env2 st2, (body env1 st = some (.next, env2, st2) ∨ body env1 st = some (.cont, env2, st2)) ∧ I (i + 1) env2 st2)
    (hd : ∀ env st, I n env st → ∃ xs, lstAt st a = some xs ∧ xs.length = n) : ∀ (r : Nat) {env : Env} {st : Sto}, r ≤ n → I (n - r) env st → ∃ env' st', loopE t body a n r env st = some (.next, env', st') ∧ I n env' st'
  | 0, env, st, _, h => by
    obtain ⟨xs, e1, e2⟩ := hd env st h
    refine ⟨env, st, ?_, h⟩
    unfold loopE
    rw [e1]
    dsimp only
    rw [if_pos e2]
  | r + 1, env, st, hr, h => by
    obtain ⟨xs, x, env1, e1, e2, e3, e4, env2, st2, e5, h1⟩ := hs (n - (r + 1)) env st (by omega) h
    have h1' : I (n - r) env2 st2 := by
      rw [show n - r = n - (r + 1) + 1 by omega]
      exact h1
    obtain ⟨env', st', e6, h2⟩ := loopE_inv I hs hd r (by omega) h1'
    refine ⟨env', st', ?_, h2⟩
    unfold loopE
    rw [e1]
    dsimp only
    rw [if_pos e2, e3]
    dsimp only
    rw [e4]
    dsimp only
    rcases e5 with e5 | e5
    · rw [e5]
      exact e6
    · rw [e5]
      exact e6
theorem sForE_inv {ms : M (List Val)} {t : Tg} {body : S} {a : Nat} {xs0 : List Val} {env : Env} {st s1 : Sto} (I : Nat → Env → Sto → Prop) (hm : ms env st = some (.ok [.ref a], s1)) (hx : lstAt s1 a = some xs0) (h0 : I 0 env s1)
    (hs : ∀ i env st, i < xs0.length → I i env st → ∃ xs x env1, lstAt st a = some xs ∧ xs.length = xs0.length ∧ xs[i]? = some x ∧ bindT t (.tup [.int (i : Int), x]) env = some env1 ∧ ∃ env2 st2, (body env1 st = some (.next, env2, st2) ∨ body env1 st = some (.cont, env2, st2)) ∧ I (i + 1) env2 st2)
    (hd : ∀ env st, I xs0.length env st → ∃ xs, lstAt st a = some xs ∧ xs.length = xs0.length) : ∃ env' st', sForE ms t body env st = some (.next, env', st') ∧ I xs0.length env' st' := by
  obtain ⟨env', st', e, h⟩ := loopE_inv I hs hd xs0.length (Nat.le_refl _) (by rw [Nat.sub_self]; exact h0)
  refine ⟨env', st', ?_, h⟩
  unfold sForE
  rw [sBnd_ok hm]
  dsimp only
  rw [hx]
  exact e
end Mi
namespace Mi
open PySem L2
/-! ### == and != of data without truth values -/
mutual
def dOk : Nat → Val → Bool
  | _, .non => true
  | _, .int _ => true
  | _, .str x => PyData.strOk x
  | n, .tup xs => match n with
    | 0 => false
    | n + 1 => dOks n xs
  | n, .lst xs => match n with
    | 0 => false
    | n + 1 => dOks n xs
  | _, _ => false
def dOks : Nat → List Val → Bool
  | _, [] => true
  | n, x :: xs => dOk n x && dOks n xs
end
mutual
def vEq : Val → Val → Bool
  | .non, .non => true
  | .int i, .int j => i == j
  | .str x, .str y => x == y
  | .tup xs, .tup ys => vEqs xs ys
  | .lst xs, .lst ys => vEqs xs ys
  | _, _ => false
def vEqs : List Val → List Val → Bool
  | [], [] => true
  | x :: xs, y :: ys => vEq x y && vEqs xs ys
  | _, _ => false
end
mutual
theorem dOk_toD : ∀ (n : Nat) (v : Val), dOk n v = true → ∃ d, toD0 v = some d ∧ d.canLay0 = true ∧ d.depth ≤ n
  | n, .non, _ => ⟨.none, rfl, rfl, by simp [PyData.depth]⟩
  | n, .int i, _ => ⟨.int i, rfl, rfl, by simp [PyData.depth]⟩
  | n, .str x, h => ⟨.str x, rfl, by simpa [PyData.canLay0, dOk] using h, by simp [PyData.depth]⟩
  | 0, .tup xs, h => by simp [dOk] at h
  | n + 1, .tup xs, h => by
    obtain ⟨ds, e, c, p⟩ := dOks_toD n xs (by simpa [dOk] using h)
    refine ⟨.tuple ds, ?_, by simpa [PyData.canLay0] using c, by simpa [PyData.depth] using p⟩
    unfold toD0
    rw [e]
    rfl
  | 0, .lst xs, h => by simp [dOk] at h
  | n + 1, .lst xs, h => by
    obtain ⟨ds, e, c, p⟩ := dOks_toD n xs (by simpa [dOk] using h)
    refine ⟨.list ds, ?_, by simpa [PyData.canLay0] using c, by simpa [PyData.depth] using p⟩
    unfold toD0
    rw [e]
    rfl
  | n, .bl _, h => by simp [dOk] at h
  | n, .rol _, h => by simp [dOk] at h
  | n, .ins _ _ _, h => by simp [dOk] at h
  | n, .ref _, h => by simp [dOk] at h
  | n, .exv _ _ _, h => by simp [dOk] at h
  | n, .cls _, h => by simp [dOk] at h
theorem dOks_toD : ∀ (n : Nat) (xs : List Val), dOks n xs = true → ∃ ds, toD0s xs = some ds ∧ PyData.canLayAll0 ds = true ∧ PyData.depthAll ds ≤ n
  | n, [], _ => ⟨[], rfl, rfl, by simp [PyData.depthAll]⟩
  | n, x :: xs, h => by
    have h' := Bool.and_eq_true_iff.mp (show (dOk n x && dOks n xs) = true by simpa [dOks] using h)
    obtain ⟨d, e1, c1, p1⟩ := dOk_toD n x h'.1
    obtain ⟨ds, e2, c2, p2⟩ := dOks_toD n xs h'.2
    refine ⟨d :: ds, ?_, by simp [PyData.canLayAll0, c1, c2], by simp [PyData.depthAll]; omega⟩
    unfold toD0s
    rw [e1, e2]
end
mutual
theorem eqv_vEq : ∀ (n : Nat) (v w : Val) (d e : PyData), dOk n v = true → dOk n w = true → toD0 v = some d → toD0 w = some e → d.eqv e = vEq v w
  | n, v, w, d, e, hv, hw, h1, h2 => by
    cases v with
    | non =>
      cases h1
      cases w with
      | non => cases h2; rfl
      | int j => cases h2; rfl
      | str y => cases h2; rfl
      | tup ys => cases n with
        | zero => simp [dOk] at hw
        | succ n =>
          obtain ⟨ds, q, _⟩ := dOks_toD n ys (by simpa [dOk] using hw)
          unfold toD0 at h2; rw [q] at h2; cases h2; rfl
      | lst ys => cases n with
        | zero => simp [dOk] at hw
        | succ n =>
          obtain ⟨ds, q, _⟩ := dOks_toD n ys (by simpa [dOk] using hw)
          unfold toD0 at h2; rw [q] at h2; cases h2; rfl
      | _ => simp [dOk] at hw
    | int i =>
      cases h1
      cases w with
      | non => cases h2; rfl
      | int j => cases h2; simp [PyData.eqv, vEq]
      | str y => cases h2; rfl
      | tup ys => cases n with
        | zero => simp [dOk] at hw
        | succ n =>
          obtain ⟨ds, q, _⟩ := dOks_toD n ys (by simpa [dOk] using hw)
          unfold toD0 at h2; rw [q] at h2; cases h2; rfl
      | lst ys => cases n with
        | zero => simp [dOk] at hw
        | succ n =>
          obtain ⟨ds, q, _⟩ := dOks_toD n ys (by simpa [dOk] using hw)
          unfold toD0 at h2; rw [q] at h2; cases h2; rfl
      | _ => simp [dOk] at hw
    | str x =>
      cases h1
      cases w with
      | non => cases h2; rfl
      | int j => cases h2; rfl
      | str y => cases h2; simp [PyData.eqv, vEq]
      | tup ys => cases n with
        | zero => simp [dOk] at hw
        | succ n =>
          obtain ⟨ds, q, _⟩ := dOks_toD n ys (by simpa [dOk] using hw)
          unfold toD0 at h2; rw [q] at h2; cases h2; rfl
      | lst ys => cases n with
        | zero => simp [dOk] at hw
        | succ n =>
          obtain ⟨ds, q, _⟩ := dOks_toD n ys (by simpa [dOk] using hw)
          unfold toD0 at h2; rw [q] at h2; cases h2; rfl
      | _ => simp [dOk] at hw
    | tup xs => cases n with
      | zero => simp [dOk] at hv
      | succ n =>
        have hv' : dOks n xs = true := by simpa [dOk] using hv
        obtain ⟨ds, q, _⟩ := dOks_toD n xs hv'
        unfold toD0 at h1
        rw [q] at h1
        cases h1
        cases w with
        | non => cases h2; rfl
        | int j => cases h2; rfl
        | str y => cases h2; rfl
        | tup ys =>
          have hw' : dOks n ys = true := by simpa [dOk] using hw
          obtain ⟨es, q2, _⟩ := dOks_toD n ys hw'
          unfold toD0 at h2; rw [q2] at h2; cases h2
          simp only [PyData.eqv, vEq]
          exact eqv_vEqs n xs ys ds es hv' hw' q q2
        | lst ys =>
          obtain ⟨es, q2, _⟩ := dOks_toD n ys (by simpa [dOk] using hw)
          unfold toD0 at h2; rw [q2] at h2; cases h2; rfl
        | _ => simp [dOk] at hw
    | lst xs => cases n with
      | zero => simp [dOk] at hv
      | succ n =>
        have hv' : dOks n xs = true := by simpa [dOk] using hv
        obtain ⟨ds, q, _⟩ := dOks_toD n xs hv'
        unfold toD0 at h1
        rw [q] at h1
        cases h1
        cases w with
        | non => cases h2; rfl
        | int j => cases h2; rfl
        | str y => cases h2; rfl
        | lst ys =>
          have hw' : dOks n ys = true := by simpa [dOk] using hw
          obtain ⟨es, q2, _⟩ := dOks_toD n ys hw'
          unfold toD0 at h2; rw [q2] at h2; cases h2
          simp only [PyData.eqv, vEq]
          exact eqv_vEqs n xs ys ds es hv' hw' q q2
        | tup ys =>
          obtain ⟨es, q2, _⟩ := dOks_toD n ys (by simpa [dOk] using hw)
          unfold toD0 at h2; rw [q2] at h2; cases h2; rfl
        | _ => simp [dOk] at hw
    | _ => simp [dOk] at hv
  termination_by n v => (n, sizeOf v)
theorem eqv_vEqs : ∀ (n : Nat) (xs ys : List Val) (ds es : List PyData), dOks n xs = true → dOks n ys = true → toD0s xs = some ds → toD0s ys = some es → PyData.eqvAll ds es = vEqs xs ys
  | n, [], [], ds, es, _, _, h1, h2 => by cases h1; cases h2; rfl
  | n, [], y :: ys, ds, es, _, _, h1, h2 => by
    cases h1
    unfold toD0s at h2
    split at h2
    · cases h2; rfl
    · cases h2
  | n, x :: xs, [], ds, es, _, _, h1, h2 => by
    cases h2
    unfold toD0s at h1
    split at h1
    · cases h1; rfl
    · cases h1
  | n, x :: xs, y :: ys, ds, es, hx, hy, h1, h2 => by
    have hx' := Bool.and_eq_true_iff.mp (show (dOk n x && dOks n xs) = true by simpa [dOks] using hx)
    have hy' := Bool.and_eq_true_iff.mp (show (dOk n y && dOks n ys) = true by simpa [dOks] using hy)
    unfold toD0s at h1 h2
    split at h1
    · rename_i d ds' q1 q2
      cases h1
      split at h2
      · rename_i e es' q3 q4
        cases h2
        simp only [PyData.eqvAll, vEqs]
        rw [eqv_vEq n x y d e hx'.1 hy'.1 q1 q3, eqv_vEqs n xs ys ds' es' hx'.2 hy'.2 q2 q4]
      · cases h2
    · cases h1
  termination_by n xs => (n, sizeOf xs)
end
mutual
theorem vEq_iff : ∀ (n : Nat) (v w : Val), dOk n v = true → (vEq v w = true ↔ v = w)
  | n, .non, w, _ => by cases w <;> simp [vEq]
  | n, .int i, w, _ => by cases w <;> simp [vEq]
  | n, .str x, w, _ => by cases w <;> simp [vEq]
  | 0, .tup xs, w, h => by simp [dOk] at h
  | n + 1, .tup xs, w, h => by
    have h' : dOks n xs = true := by simpa [dOk] using h
    cases w with
    | tup ys => rw [vEq, vEqs_iff n xs ys h']; simp
    | _ => simp [vEq]
  | 0, .lst xs, w, h => by simp [dOk] at h
  | n + 1, .lst xs, w, h => by
    have h' : dOks n xs = true := by simpa [dOk] using h
    cases w with
    | lst ys => rw [vEq, vEqs_iff n xs ys h']; simp
    | _ => simp [vEq]
  | n, .bl _, w, h => by simp [dOk] at h
  | n, .rol _, w, h => by simp [dOk] at h
  | n, .ins _ _ _, w, h => by simp [dOk] at h
  | n, .ref _, w, h => by simp [dOk] at h
  | n, .exv _ _ _, w, h => by simp [dOk] at h
  | n, .cls _, w, h => by simp [dOk] at h
theorem vEqs_iff : ∀ (n : Nat) (xs ys : List Val), dOks n xs = true → (vEqs xs ys = true ↔ xs = ys)
  | n, [], [], _ => by simp [vEqs]
  | n, [], y :: ys, _ => by simp [vEqs]
  | n, x :: xs, [], _ => by simp [vEqs]
  | n, x :: xs, y :: ys, h => by
    have h' := Bool.and_eq_true_iff.mp (show (dOk n x && dOks n xs) = true by simpa [dOks] using h)
    rw [vEqs, Bool.and_eq_true, vEq_iff n x y h'.1, vEqs_iff n xs ys h'.2]
    simp
end
section
variable {st : Sto} {v w : Val}
theorem toD_of : ∀ (v : Val), dOk 60 v = true → toD st v = toD0 v
  | .non, _ => rfl
  | .int _, _ => rfl
  | .str _, _ => rfl
  | .tup _, _ => rfl
  | .lst _, _ => rfl
  | .bl _, h => by simp [dOk] at h
  | .rol _, h => by simp [dOk] at h
  | .ins _ _ _, h => by simp [dOk] at h
  | .ref _, h => by simp [dOk] at h
  | .exv _ _ _, h => by simp [dOk] at h
  | .cls _, h => by simp [dOk] at h
  | .tpd _, h => by simp [dOk] at h
theorem eqD_data (hv : dOk 60 v = true) (hw : dOk 60 w = true) : eqD st v w = some (.bl (vEq v w)) ∧ neD st v w = some (.bl (!vEq v w)) := by
  obtain ⟨d, e1, c1, p1⟩ := dOk_toD 60 v hv
  obtain ⟨e, e2, c2, p2⟩ := dOk_toD 60 w hw
  have s1 : SeqAt.shaped d = true := by unfold SeqAt.shaped; simp [c1]; omega
  have s2 : SeqAt.shaped e = true := by unfold SeqAt.shaped; simp [c2]; omega
  have q := eqv_vEq 60 v w d e hv hw e1 e2
  unfold eqD neD
  rw [toD_of v hv, toD_of w hw, e1, e2]
  dsimp only
  rw [if_pos ⟨s1, s2⟩, if_pos ⟨s1, s2⟩, q]
  exact ⟨rfl, rfl⟩
theorem neV_data (hv : dOk 60 v = true) (hw : dOk 60 w = true) : neV st v w = some (.bl (!vEq v w)) := by
  unfold neV
  split
  · rename_i x y hx hy
    have e1 := strOf_is hx
    have e2 := strOf_is hy
    subst e1 e2
    rfl
  · exact (eqD_data hv hw).2
theorem neV_refl (hv : dOk 60 v = true) : neV st v v = some (.bl false) := by
  rw [neV_data hv hv, (vEq_iff 60 v v hv).mpr rfl]
  rfl
end
end Mi
namespace Mi
open PySem PySem.Spec PyProof.Rows L2 PpSet
/-! ### sum of ints, how often a text stands in a list -/
end Mi
namespace Mi
open PySem L2
/-! ### running statements to a wish -/
def Runs (o : Option (Out × Env × Sto)) (Q : Out → Env → Sto → Prop) : Prop := ∃ r e s, o = some (r, e, s) ∧ Q r e s
@[simp] theorem runs_some {r : Out} {e : Env} {s : Sto} {Q : Out → Env → Sto → Prop} : Runs (some (r, e, s)) Q ↔ Q r e s :=
  ⟨fun ⟨_, _, _, h, q⟩ => by cases h; exact q, fun q => ⟨_, _, _, rfl, q⟩⟩
theorem Runs.mono {o : Option (Out × Env × Sto)} {Q Q' : Out → Env → Sto → Prop} (h : Runs o Q) (hq : ∀ r e s, Q r e s → Q' r e s) : Runs o Q' := by
  obtain ⟨r, e, s, h, q⟩ := h
  exact ⟨r, e, s, h, hq r e s q⟩
theorem Runs.seq {a b : S} {env : Env} {st : Sto} {Q : Out → Env → Sto → Prop} (h : Runs (a env st) fun r e s => r = .next ∧ Runs (b e s) Q) : Runs (sSeq a b env st) Q := by
  obtain ⟨r, e, s, h, rfl, q⟩ := h
  rw [x_sSeq, h]
  exact q
end Mi
namespace Mi
open PySem L2
/-! ### list(range(..)) -/
def rgL (i j : Int) : List Val := (List.range (j - i).toNat).map fun (n : Nat) => .int (i + n)
def lstRg (ma mb : M Val) : M Val := bnd ma fun a => bnd mb fun b => lift fun _ => match a, b with
  | .int i, .int j => if 0 ≤ i ∧ i ≤ 16000000 ∧ 0 ≤ j ∧ j ≤ 16000000 then some (.lst (rgL i j)) else none
  | _, _ => none
def lstRg1 (ma : M Val) : M Val := bnd ma fun a => lift fun _ => match a with
  | .int j => if 0 ≤ j ∧ j ≤ 16000000 then some (.lst (rgL 0 j)) else none
  | _ => none
@[simp] theorem x_lstRg {ma mb : M Val} {env : Env} {st : Sto} : lstRg ma mb env st = bK (ma env st) (fun a => bnd mb fun b => lift fun _ => match a, b with
  | .int i, .int j => if 0 ≤ i ∧ i ≤ 16000000 ∧ 0 ≤ j ∧ j ≤ 16000000 then some (.lst (rgL i j)) else none
  | _, _ => none) env := x_bnd
@[simp] theorem x_lstRg1 {ma : M Val} {env : Env} {st : Sto} : lstRg1 ma env st = bK (ma env st) (fun a => lift fun _ => match a with
  | .int j => if 0 ≤ j ∧ j ≤ 16000000 then some (.lst (rgL 0 j)) else none
  | _ => none) env := x_bnd
end Mi
namespace Mi
open PySem PySem.Spec PyProof.Rows L2
section
variable {X : Cx} {k : Kx} {E : WX}
/-! ### a try whose body raises nothing -/
/-! ### properties -/
/-! ### (*xs, y) -/
def starM (m : M Val) (ms : M (List Val)) : M (List Val) := bnd m fun a => bnd (lift fun st => seqOf st a) fun xs => bnd ms fun ys => ret (xs ++ ys)
theorem ma_star {e : Expr} {es : List Expr} {m : M Val} {ms : M (List Val)} {p : Pos} (he : PE X e (tM k E m)) (hr : PA X es (tMa k E ms)) (hs : starEach (.Starred e p :: es) X.env = (true, eval e X.env) :: starEach es X.env := by rfl) (hk : X.K = k.K := by rfl) : PA X (.Starred e p :: es) (tMa k E (starM m ms)) := by
  have h := StX.pa_star (p := p) he hr hs
  refine ⟨fun pos pins s σ H Q I q => h.run pos pins s σ H Q I ?_⟩
  rw [hk]
  refine tG.mono (tG.bnd (R1 := RepV k) q) fun x H1 ⟨W, a, ra, h1⟩ => ?_
  obtain ⟨env, st, o, o1, o2, o3, o4⟩ := h1
  cases hx : seqOf st a with
  | none =>
    unfold Mi.bnd Mi.lift at o3
    dsimp only at o3
    rw [hx] at o3
    cases o3
  | some xs =>
    obtain ⟨p, vs, e1, sq, rx⟩ := seqOf_rep o1 ra hx
    have o3' : (bnd ms fun ys => ret (xs ++ ys)) env st = some o := by
      unfold Mi.bnd Mi.lift at o3
      dsimp only at o3
      rw [hx] at o3
      exact o3
    refine ⟨p, vs, e1, sq.symm, ?_⟩
    have h2 : At k (RepL k) E (bnd ms fun ys => ret (xs ++ ys)) W σ H1 Q := ⟨env, st, o, o1, o2, o3', o4⟩
    refine tG.mono (At.bnd (R1 := RepL k) (fun W H => RepL k W H xs vs) (fun l r => r.le l) rx h2) fun ys H2 z => ?_
    obtain ⟨W2, us, rx2, ru, env2, st2, o', g1, g2, g3, g4⟩ := z
    cases g3
    exact g4 W2 H2 _ (Le.refl _ _) g1 (rx2.append ru)
/-! ### tuples whose objects are known -/
/-! ### t.count(text) -/
end
end Mi
namespace Mi
open PySem PySem.Spec PyProof.Rows L2
section
variable {X : Cx} {k : Kx} {E : WX}
/-! ### x or y, by what x is -/
def truT : Val → Option Bool
  | .non => some false
  | .bl b => some b
  | .int i => some (i != 0)
  | .tup xs => some (!xs.isEmpty)
  | _ => none
def orTV (ma mb : M Val) : M Val := bnd ma fun a => bnd (lift fun _ => truT a) fun t => if t then ret a else mb
end
@[simp] theorem x_orTV {ma mb : M Val} {env : Env} {st : Sto} : orTV ma mb env st = bK (ma env st) (fun a => bnd (lift fun _ => truT a) fun t => if t then ret a else mb) env := x_bnd
end Mi
namespace Mi
open PySem PySem.Spec PyProof.Rows L2
end Mi
namespace Mi
open PySem PySem.Spec PyProof.Rows L2
/-! ### (a, b) = a list -/
section
variable {X : Cx} {k : Kx} {E : WX} {pos : Pos}
def sSetL (ts : List Tg) (m : M Val) : S := sBnd m fun v env st => match v with
  | .lst xs => if xs.length = ts.length then match bindTs ts xs env with
    | some env' => some (.next, env', st)
    | none => none
    else none
  | _ => none
end
@[simp] theorem x_sSetL {ts : List Tg} {m : M Val} {env : Env} {st : Sto} : sSetL ts m env st = eK (m env st) (fun v env st => match v with
  | .lst xs => if xs.length = ts.length then match bindTs ts xs env with
    | some env' => some (.next, env', st)
    | none => none
    else none
  | _ => none) env := x_sBnd
end Mi
namespace Mi
open PySem PySem.Spec PyProof.Rows L2
/-! ### values as keys -/
section
variable {X : Cx} {k : Kx} {pins : List (Addr × Obj)} {σ : L2.St} {H : Hp} {s : Shared} {W : Wd}
mutual
theorem key_is (I : Inv X pins σ H s) (hk : X.K = k.K) : ∀ {a : Val} {x : V} {u : Value} {n : NestedKey}, RepV k W H a x → RelV x u → nkOf a = some n → NestedIs s.heap n u
  | .non, x, u, n, r, ru, e => by
    cases e
    cases (show x = .non from r)
    cases ru
    exact .none
  | .bl b, x, u, n, r, ru, e => by
    cases e
    cases (show x = .bl b from r)
    cases ru
    exact .bool rfl
  | .int i, x, u, n, r, ru, e => by
    cases e
    cases (show x = .int i from r)
    obtain ⟨t, rfl⟩ := ru
    exact .int i t
  | .str y, x, u, n, r, ru, e => by
    cases e
    cases (show x = .str y from r)
    obtain ⟨t, rfl⟩ := ru
    exact .text y t
  | .tup xs, x, u, n, r, ru, e => by
    obtain ⟨p, vs, rfl, hs, rl⟩ := r
    cases ru
    rw [← hk] at hs
    obtain ⟨its, rv, ⟨o, h1, h2, m, h3⟩, _⟩ := I.tuple hs
    unfold nkOf at e
    split at e
    · rename_i ns hn
      cases e
      exact .tup h1 h2 h3 (by simpa using keys_is I hk rl rv hn)
    · cases e
  | .lst _, _, _, _, _, _, e => nomatch e
  | .rol _, _, _, _, _, _, e => nomatch e
  | .ins _ _ _, _, _, _, _, _, e => nomatch e
  | .ref _, _, _, _, _, _, e => nomatch e
  | .exv _ _ _, _, _, _, _, _, e => nomatch e
  | .cls _, _, _, _, _, _, e => nomatch e
  | .tpd _, _, _, _, _, _, e => nomatch e
theorem keys_is (I : Inv X pins σ H s) (hk : X.K = k.K) : ∀ {as : List Val} {xs : List V} {us : List Value} {ns : List NestedKey}, RepL k W H as xs → Vals xs us → nksOf as = some ns → NestedAll s.heap ns us
  | [], xs, us, ns, r, rv, e => by
    cases e
    cases (show xs = [] from r)
    cases rv
    exact .nil
  | a :: as, xs, us, ns, r, rv, e => by
    obtain ⟨v, t, rfl, r1, r2⟩ := r
    cases rv with
    | cons q1 q2 =>
      unfold nksOf at e
      split at e
      · rename_i n1 n2 h1 h2
        cases e
        exact .cons (key_is I hk r1 q1 h1) (keys_is I hk r2 q2 h2)
      · cases e
end
end
theorem tupKey_of {a : Val} {n : NestedKey} (h : tupKey a = some n) : nkOf a = some n ∧ n.depth ≤ 8 ∧ ∃ xs, a = .tup xs := by
  unfold tupKey at h
  split at h
  · rename_i xs
    split at h
    · rename_i m hm
      split at h
      · rename_i hd
        cases h
        exact ⟨hm, hd, xs, rfl⟩
      · cases h
    · cases h
  · cases h
theorem keysD_map : ∀ {ks : List Val} {ns : List NestedKey}, keysD ks = some ns → ks.map tupKey = ns.map some
  | [], ns, e => by
    cases e
    rfl
  | a :: as, ns, e => by
    unfold keysD at e
    split at e
    · rename_i n1 n2 h1 h2
      cases e
      rw [List.map_cons, List.map_cons, h1, keysD_map h2]
    · cases e
theorem keysD_app : ∀ {ks : List Val} {ns : List NestedKey} {a : Val} {n : NestedKey}, keysD ks = some ns → tupKey a = some n → keysD (ks ++ [a]) = some (ns ++ [n])
  | [], ns, a, n, e, h => by
    cases e
    simp [keysD, h]
  | b :: as, ns, a, n, e, h => by
    unfold keysD at e
    split at e
    · rename_i n1 n2 h1 h2
      cases e
      show keysD (b :: (as ++ [a])) = _
      unfold keysD
      rw [h1, keysD_app h2 h]
      rfl
    · cases e
/-- what stands at the key n -/
def atN (n : NestedKey) : List Val → List Val → Option Val
  | c :: ks, x :: xs => if tupKey c = some n then some x else atN n ks xs
  | _, _ => none
def setN (n : NestedKey) (v : Val) : List Val → List Val → List Val
  | c :: ks, x :: xs => (if tupKey c = some n then v else x) :: setN n v ks xs
  | _, xs => xs
def hasN (n : NestedKey) : List Val → Bool
  | c :: ks => if tupKey c = some n then true else hasN n ks
  | [] => false
def atKx (n : Key) : List Key → List Val → Option Val
  | c :: ks, x :: xs => if c = n then some x else atKx n ks xs
  | _, _ => none
def setKx (n : Key) (v : Val) : List Key → List Val → List Val
  | c :: ks, x :: xs => (if c = n then v else x) :: setKx n v ks xs
  | _, xs => xs
/-! ### the object of a dict of tuples -/
section
variable {P : Program} {w : World} {H : Hp} {h : Heap} {p : Addr} {ns : List NestedKey} {as : List Addr} {us : List V}
/-- what it is, as the kit's rules ask -/
theorem dct_at (ok : HOk P w H h) (e : H p = some (DctO w p ns as us)) (his : ∀ (i : Nat) n a, ns[i]? = some n → as[i]? = some a → (nestedKind P w).is h n a) :
    (p == sysModules) = false ∧ ∃ xs : List (NestedKey × Addr × Value), h.DictOfH (nestedKind P w) p xs ∧ xs.map (·.1) = ns ∧ xs.map (·.2.1) = as ∧ Vals us (xs.map (·.2.2)) := by
  obtain ⟨⟨h0, xs, e1, e2, rv, nd, o, es, ep, g1, g2, g3, g4⟩, _, _⟩ := (show ObjOk P w H h p (DctO w p ns as us) from ok p _ e)
  refine ⟨h0, xs, ⟨o, es, ep, g1, g2, g3, g4, fun x hx => ?_, nd⟩, e1, e2, rv⟩
  obtain ⟨i, hi⟩ := List.mem_iff_getElem?.mp hx
  exact his i x.1 x.2.1 (by rw [← e1, List.getElem?_map, hi]; rfl) (by rw [← e2, List.getElem?_map, hi]; rfl)
theorem dct_new {H' : Hp} {h' : Heap} {xs : List (NestedKey × Addr × Value)} (hp : (p == sysModules) = false) (hd : h'.DictOfH (nestedKind P w) p xs) (e1 : xs.map (·.1) = ns) (e2 : xs.map (·.2.1) = as) (rv : Vals us (xs.map (·.2.2))) : ObjOk P w H' h' p (DctO w p ns as us) := by
  obtain ⟨o, es, ep, g1, g2, g3, g4, _, g5⟩ := hd
  refine ⟨⟨hp, xs, e1, e2, rv, g5, o, es, ep, g1, g2, g3, g4⟩, ⟨o, g1⟩, fun h1 h2 ⟨a0, ys, a1, a2, a3, a4, oo, es, ep, b1, b2, b3, b4⟩ st => ⟨a0, ys, a1, a2, a3, a4, oo, es, ep, st _ b1, b2, b3, b4⟩⟩
theorem dct_empty (h : Heap) (hb : sysModules < h.objs.size) : ObjOk P w H (h.push { cls := .type "dict", data := .dict #[] }) h.objs.size (DctO w h.objs.size [] [] []) :=
  dct_new (xs := []) (beq_eq_false_iff_ne.mpr (Ne.symm (Nat.ne_of_lt hb))) (Heap.DictOfH.new h) rfl rfl .nil
end
section
variable {X : Cx} {k : Kx} {pins : List (Addr × Obj)} {σ : L2.St} {H : Hp} {s : Shared} {W : Wd} {st : Sto} {p : Addr} {ks xs : List Val} {ns : List NestedKey} {as : List Addr} {us : List V}
theorem keysD_at {ks : List Val} {ns : List NestedKey} {i : Nat} {n : NestedKey} (e : keysD ks = some ns) (h : ns[i]? = some n) : ∃ a, ks[i]? = some a ∧ tupKey a = some n := by
  have q := keysD_map e
  have q1 : (ks.map tupKey)[i]? = some (some n) := by rw [q, List.getElem?_map, h]; rfl
  rw [List.getElem?_map] at q1
  cases z : ks[i]? with
  | none =>
    rw [z] at q1
    cases q1
  | some a =>
    rw [z] at q1
    exact ⟨a, rfl, by simpa using q1⟩
theorem dct_is (I : Inv X pins σ H s) (hk : X.K = k.K) (e1 : keysD ks = some ns) (r : RepL k W H ks (as.map V.ref)) : ∀ (i : Nat) n a, ns[i]? = some n → as[i]? = some a → (nestedKind X.prog X.w).is s.heap n a := by
  intro i n a hn ha
  obtain ⟨c, hc, ec⟩ := keysD_at e1 hn
  obtain ⟨v, hv, rv⟩ := r.get hc
  rw [List.getElem?_map, ha] at hv
  cases hv
  obtain ⟨e2, hd, _⟩ := tupKey_of ec
  exact ⟨key_is I hk rv rfl e2, hd⟩
/-- a dict of the store, as the kit's rules ask -/
theorem dn_at (I : Inv X pins σ H s) (hk : X.K = k.K) (hw : X.w = k.w) (e : H p = some (DctO k.w p ns as us)) (e1 : keysD ks = some ns) (r : RepL k W H ks (as.map V.ref)) :
    (p == sysModules) = false ∧ ∃ ys : List (NestedKey × Addr × Value), s.heap.DictOfH (nestedKind X.prog X.w) p ys ∧ ys.map (·.1) = ns ∧ ys.map (·.2.1) = as ∧ Vals us (ys.map (·.2.2)) :=
  dct_at I.hok (by rw [hw]; exact e) (dct_is I hk e1 r)
/-- a key that is asked for -/
theorem ask_is (I : Inv X pins σ H s) (hk : X.K = k.K) {b : Val} {n : NestedKey} {y : V} {u : Value} (rb : RepV k W H b y) (ru : RelV y u) (e : tupKey b = some n) : ∃ a, y = .ref a ∧ u = .ref a ∧ (nestedKind X.prog X.w).is s.heap n a := by
  obtain ⟨e2, hd, xs, rfl⟩ := tupKey_of e
  obtain ⟨a, vs, rfl, hs, rl⟩ := id rb
  cases (show u = Value.ref a from ru)
  exact ⟨a, rfl, rfl, key_is I hk rb rfl e2, hd⟩
/-- the look-up, in the heap and here -/
theorem at_rep {n : NestedKey} : ∀ {ks xs : List Val} {ns : List NestedKey} {us : List V} {ys : List (NestedKey × Addr × Value)}, keysD ks = some ns → RepL k W H xs us → Vals us (ys.map (·.2.2)) → ys.map (·.1) = ns → 
    (∀ v, atN n ks xs = some v → ∃ x q, RepV k W H v x ∧ RelV x q.2 ∧ atKey ys n = some q) ∧ (hasN n ks = (atKey ys n).isSome)
  | [], xs, ns, us, ys, e, r, rv, en => by
    cases e
    have : ys = [] := by simpa using en
    subst this
    exact ⟨fun v hv => (by cases xs <;> cases hv), rfl⟩
  | c :: ks, xs, ns, us, ys, e, r, rv, en => by
    unfold keysD at e
    split at e
    · rename_i n1 n2 h1 h2
      cases e
      cases ys with
      | nil => cases en
      | cons y ys =>
        simp only [List.map_cons, List.cons.injEq] at en
        obtain ⟨e1, en⟩ := en
        have rv' : Vals us (y.2.2 :: ys.map (·.2.2)) := rv
        cases rv' with
        | cons q1 q2 =>
          rename_i x1 us1
          cases xs with
          | nil => cases (show _ = [] from r)
          | cons x xs =>
            obtain ⟨v0, t0, ee, r1, r2⟩ := r
            cases ee
            have ih := at_rep (n := n) h2 r2 q2 en
            unfold atN hasN
            by_cases hc : n1 = n
            · subst hc
              rw [if_pos h1, if_pos h1]
              refine ⟨fun v hv => ?_, by simp [atKey, e1]⟩
              cases hv
              exact ⟨_, y.2, r1, q1, by simp [atKey, e1]⟩
            · have hn : ¬ tupKey c = some n := by rw [h1]; exact fun z => hc (Option.some.inj z)
              rw [if_neg hn, if_neg hn]
              have hy : atKey (y :: ys) n = atKey ys n := by
                have : ¬ y.1 = n := by rw [e1]; exact hc
                simp [atKey, List.find?_cons, this]
              rw [hy]
              exact ih
    · cases e
end
def hasKx (n : Key) : List Key → Bool
  | c :: ks => if c = n then true else hasKx n ks
  | [] => false
section
variable {k : Kx} {H : Hp} {W : Wd} {st : Sto}
theorem zip_at {n : Key} : ∀ {ks : List Key} {xs : List Val} {us : List V}, ks.length = xs.length → RepL k W H xs us →
    (∀ v, atKx n ks xs = some v → ∃ x, RepV k W H v x ∧ valV (ks.zip us) n = some x) ∧ hasKx n ks = (valV (ks.zip us) n).isSome
  | [], xs, us, hl, r => by
    cases xs with
    | cons _ _ => cases hl
    | nil => exact ⟨fun v hv => (by cases hv), by simp [hasKx, valV_nil]⟩
  | c :: ks, xs, us, hl, r => by
    cases xs with
    | nil => cases hl
    | cons x xs =>
      obtain ⟨v0, t0, rfl, r1, r2⟩ := r
      have ih := zip_at (n := n) (ks := ks) (by simpa using hl) r2
      unfold atKx hasKx
      rw [List.zip_cons_cons]
      by_cases hc : c = n
      · rw [if_pos hc, if_pos hc, valV_pos (p := (c, v0)) hc]
        refine ⟨fun v hv => ?_, rfl⟩
        cases hv
        exact ⟨v0, r1, rfl⟩
      · rw [if_neg hc, if_neg hc, valV_neg (p := (c, v0)) hc]
        exact ih
theorem zip_map {n : Key} {v : Val} {y : V} (ry : RepV k W H v y) : ∀ {ks : List Key} {xs : List Val} {us : List V}, ks.length = xs.length → RepL k W H xs us →
    ∃ us', (ks.zip us).map (fun kv => if kv.1 = n then (kv.1, y) else kv) = ks.zip us' ∧ RepL k W H (setKx n v ks xs) us' ∧ (setKx n v ks xs).length = xs.length
  | [], xs, us, hl, r => by
    cases xs with
    | cons _ _ => cases hl
    | nil => exact ⟨us, by simp, r, rfl⟩
  | c :: ks, xs, us, hl, r => by
    cases xs with
    | nil => cases hl
    | cons x xs =>
      obtain ⟨v0, t0, rfl, r1, r2⟩ := r
      obtain ⟨us', e1, e2, e3⟩ := zip_map (n := n) ry (ks := ks) (by simpa using hl) r2
      unfold setKx
      by_cases hc : c = n
      · refine ⟨y :: us', ?_, ⟨y, us', rfl, by rw [if_pos hc]; exact ry, e2⟩, by simp [e3]⟩
        rw [List.zip_cons_cons, List.map_cons, e1, List.zip_cons_cons, if_pos hc]
      · refine ⟨v0 :: us', ?_, ⟨v0, us', rfl, by rw [if_neg hc]; exact r1, e2⟩, by simp [e3]⟩
        rw [List.zip_cons_cons, List.map_cons, e1, List.zip_cons_cons, if_neg hc]
/-- where it is put, texts and numbers -/
def putDk (n : Key) (v : Val) (ks : List Key) (xs : List Val) : SO := if hasKx n ks = true then .dk ks (setKx n v ks xs) else .dk (ks ++ [n]) (xs ++ [v])
theorem zip_put {n : Key} {v : Val} {y : V} (ry : RepV k W H v y) {ks : List Key} {xs : List Val} {us : List V} (hl : ks.length = xs.length) (r : RepL k W H xs us) :
    ∃ ks' xs' us', putDk n v ks xs = .dk ks' xs' ∧ L2.putK (ks.zip us) n y = ks'.zip us' ∧ ks'.length = xs'.length ∧ RepL k W H xs' us' := by
  have h := (zip_at (n := n) hl r).2
  unfold putDk L2.putK
  rw [valV_any, ← h]
  cases q : hasKx n ks with
  | true =>
    obtain ⟨us', e1, e2, e3⟩ := zip_map (n := n) ry hl r
    exact ⟨ks, _, us', rfl, e1, by rw [e3]; exact hl, e2⟩
  | false =>
    refine ⟨ks ++ [n], xs ++ [v], us ++ [y], rfl, ?_, by simp [hl], r.append ⟨y, [], rfl, ry, rfl⟩⟩
    have : ks.length = us.length := by rw [r.len]; exact hl
    rw [if_neg (by simp), List.zip_append this]
    rfl
/-- the same, keys that are tuples -/
def vSetN (n : NestedKey) (y : V) : List NestedKey → List V → List V
  | c :: ns, u :: us => (if c = n then y else u) :: vSetN n y ns us
  | _, us => us
def putDn (n : NestedKey) (b v : Val) (ks xs : List Val) : SO := if hasN n ks = true then .dn ks (setN n v ks xs) else .dn (ks ++ [b]) (xs ++ [v])
theorem setN_rep {n : NestedKey} {v : Val} {y : V} (ry : RepV k W H v y) : ∀ {ks xs : List Val} {ns : List NestedKey} {us : List V}, keysD ks = some ns → RepL k W H xs us → RepL k W H (setN n v ks xs) (vSetN n y ns us)
  | [], xs, ns, us, e, r => by
    cases e
    cases xs <;> cases us <;> exact r
  | c :: ks, xs, ns, us, e, r => by
    unfold keysD at e
    split at e
    · rename_i n1 n2 h1 h2
      cases e
      cases xs with
      | nil =>
        cases (show us = [] from r)
        exact r
      | cons x xs =>
        obtain ⟨v0, t0, rfl, r1, r2⟩ := r
        unfold setN vSetN
        refine ⟨_, _, rfl, ?_, setN_rep ry h2 r2⟩
        by_cases hc : n1 = n
        · rw [if_pos (by rw [h1, hc]), if_pos hc]
          exact ry
        · rw [if_neg (by rw [h1]; exact fun z => hc (Option.some.inj z)), if_neg hc]
          exact r1
    · cases e
theorem vals_set {n : NestedKey} {y : V} {u : Value} (ry : RelV y u) : ∀ {ys : List (NestedKey × Addr × Value)} {us : List V}, Vals us (ys.map (·.2.2)) → Vals (vSetN n y (ys.map (·.1)) us) ((ys.map (putAt n u)).map (·.2.2))
  | [], us, r => by
    cases r
    exact .nil
  | q :: ys, us, r => by
    have r' : Vals us (q.2.2 :: ys.map (·.2.2)) := r
    cases r' with
    | cons r1 r2 =>
      show Vals (vSetN n y (q.1 :: ys.map (·.1)) _) ((putAt n u q).2.2 :: (ys.map (putAt n u)).map (·.2.2))
      unfold vSetN
      refine .cons ?_ (vals_set ry r2)
      unfold putAt
      by_cases hc : q.1 = n
      · rw [if_pos hc, if_pos hc]
        exact ry
      · rw [if_neg hc, if_neg hc]
        exact r1
theorem addrs_putAt (n : NestedKey) (u : Value) : ∀ ys : List (NestedKey × Addr × Value), (ys.map (putAt n u)).map (·.2.1) = ys.map (·.2.1)
  | [] => rfl
  | q :: ys => by
    rw [List.map_cons, List.map_cons, List.map_cons, addrs_putAt n u ys]
    unfold putAt
    split <;> rfl
end
/-! ### rules -/
section
variable {X : Cx} {k : Kx} {E : WX} {pos : Pos}
theorem newSO {W : Wd} {H : Hp} {st : Sto} {u : SO} {Q : VK} {p : Addr} {o : HO} (ok : Ok k W H st) (hp : H p = none) (hu : RepO k (W.ob p) (upd H p o) u p) (q : ∀ W' H' v, Le W W' H H' → Ok k W' H' (st ++ [u]) → RepV k W' H' (.ref st.length) v → Q v H') : Q (.ref p) (upd H p o) := by
  obtain ⟨l, o'⟩ := ok.newOb (u := u) (o := o) hp hu
  refine q (W.ob p) _ _ l o' ⟨p, rfl, ?_⟩
  show (W.rho ++ [p])[st.length]? = some p
  rw [List.getElem?_append_right (by rw [ok.len]; exact Nat.le_refl _), ok.len, Nat.sub_self]
  rfl
/-- {}: keys to be numbers and texts; keys to be tuples -/
def newDk : M Val := liftS fun st => some (.ref st.length, st ++ [.dk [] []])
def newDn : M Val := liftS fun st => some (.ref st.length, st ++ [.dn [] []])
theorem pe_dnewN : PE X (.Dict [] [] pos) (fun _ H Q => ∀ p, H p = none → Q (.ref p) (upd H p (DctO X.w p [] [] []))) := ⟨fun pins s σ H Q I h =>
  wpAny_Dict_empty ⟨.ref s.heap.objs.size, _, I.laid (a := s.heap.objs.size) (o := DctO X.w s.heap.objs.size [] [] []) (t' := s.toks) (fun _ _ q => Heap.get?_push_of_some _ q) (Nat.le_refl _) (dct_empty s.heap I.big), rfl, h _ (I.hok.fresh (Nat.le_refl _))⟩⟩
theorem me_newDk : PE X (.Dict [] [] pos) (tM k E newDk) := imp pe_dnewK fun σ H Q ⟨W, h⟩ p hp => by
  obtain ⟨c, st, st', e, o, q⟩ := h.liftS
  cases e
  exact newSO (u := .dk [] []) o hp ⟨[], upd_same, rfl, rfl⟩ q
theorem me_newDn (hw : X.w = k.w := by rfl) : PE X (.Dict [] [] pos) (tM k E newDn) := imp pe_dnewN fun σ H Q ⟨W, h⟩ p hp => by
  obtain ⟨c, st, st', e, o, q⟩ := h.liftS
  cases e
  rw [hw]
  exact newSO (u := .dn [] []) o hp ⟨[], [], [], upd_same, rfl, rfl, rfl⟩ q
/-- what a dict of the store looks like, from outside -/
def DnAt (k : Kx) (H : Hp) (p : Addr) (b : Val) (y : V) (hit : Bool) (R : V → Prop) : Prop :=
  (∃ (q : Key) (kvs : List (Key × V)), y = kV q ∧ H p = some (.dK kvs) ∧ hit = (valV kvs q).isSome ∧ ∀ x, valV kvs q = some x → R x) ∨
  (∃ (W : Wd) (ks xs : List Val) (ns : List NestedKey) (as : List Addr) (us : List V) (n : NestedKey), H p = some (DctO k.w p ns as us) ∧ keysD ks = some ns ∧ RepL k W H ks (as.map V.ref) ∧ RepL k W H xs us ∧ RepV k W H b y ∧ tupKey b = some n ∧ hit = hasN n ks ∧
    ∀ v x, atN n ks xs = some v → RepV k W H v x → R x)
def rDin (k : Kx) (neg : Bool) : R2 := fun y x H Q => ∃ p b hit, x = .ref p ∧ DnAt k H p b y hit (fun _ => True) ∧ Q (.bl (if neg then !hit else hit)) H
theorem op_din (hr : X.A.units + 64 < cLine) (hk : X.K = k.K) (hw : X.w = k.w) : OpR X (compareOp .In) (rDin k false) := by
  intro pins s σ H y x v u Q I ry rx ⟨p, b, hit, ex, g, q⟩
  subst ex
  obtain rfl : u = Value.ref p := rx
  rcases g with ⟨c, kvs, ey, e, eh, _⟩ | ⟨W, ks, xs, ns, as, us, n, e, e1, r1, r2, rb, eb, eh, _⟩
  · subst ey
    exact d_in (by omega) I (DGet.k e) ry fun s' I' => ⟨.bl (valV kvs c).isSome, H, I', rfl, by rw [← eh]; exact q⟩
  · obtain ⟨hp, ys, hd, f1, f2, f3⟩ := dn_at I hk hw e e1 r1
    obtain ⟨a, rfl, rfl, hi⟩ := ask_is I hk rb ry eb
    refine wpAny_in_heap (show X.A.in1.units + 8 < cLine from by show X.A.units + 1 + 8 < cLine; omega) hi hp hd ?_
    rw [← (at_rep e1 r2 f3 f1).2, ← eh]
    exact ⟨.bl _, H, I.tok _, rfl, q⟩
theorem op_dnotin (hr : X.A.units + 64 < cLine) (hk : X.K = k.K) (hw : X.w = k.w) : OpR X (compareOp .NotIn) (rDin k true) := by
  intro pins s σ H y x v u Q I ry rx ⟨p, b, hit, ex, g, q⟩
  subst ex
  obtain rfl : u = Value.ref p := rx
  rcases g with ⟨c, kvs, ey, e, eh, _⟩ | ⟨W, ks, xs, ns, as, us, n, e, e1, r1, r2, rb, eb, eh, _⟩
  · subst ey
    exact d_notIn (by omega) I (DGet.k e) ry fun s' I' => ⟨.bl !(valV kvs c).isSome, H, I', rfl, by rw [← eh]; exact q⟩
  · obtain ⟨hp, ys, hd, f1, f2, f3⟩ := dn_at I hk hw e e1 r1
    obtain ⟨a, rfl, rfl, hi⟩ := ask_is I hk rb ry eb
    refine wpAny_notIn_heap (show X.A.in1.units + 8 < cLine from by show X.A.units + 1 + 8 < cLine; omega) hi hp hd ?_
    rw [← (at_rep e1 r2 f3 f1).2, ← eh]
    exact ⟨.bl _, H, I.tok _, rfl, q⟩
def hitD (st : Sto) (b a : Val) : Option Bool := match a with
  | .ref i => match st[i]? with
    | some (.dk ks _) => (keyV b).map fun q => hasKx q ks
    | some (.dn ks _) => (tupKey b).map fun n => hasN n ks
    | _ => none
  | _ => none
def inD (st : Sto) (b a : Val) : Option Val := (hitD st b a).map .bl
def notInD (st : Sto) (b a : Val) : Option Val := (hitD st b a).map fun c => .bl !c
theorem hit_rep {W : Wd} {H : Hp} {st : Sto} {a b : Val} {x y : V} {c : Bool} (o : Ok k W H st) (rb : RepV k W H b y) (ra : RepV k W H a x) (e : hitD st b a = some c) : ∃ p, x = .ref p ∧ DnAt k H p b y c (fun _ => True) := by
  unfold hitD at e
  split at e
  · rename_i i
    obtain ⟨p, ex, hp⟩ := ra
    refine ⟨p, ex, ?_⟩
    split at e
    · rename_i ks xs hx
      obtain ⟨us, hu, hl, r⟩ := o.obj i _ p hx hp
      obtain ⟨q, hq, rfl⟩ := Option.map_eq_some_iff.mp e
      exact .inl ⟨q, _, keyV_rep rb hq, hu, (zip_at hl r).2, fun _ _ => trivial⟩
    · rename_i ks xs hx
      obtain ⟨ns, as, us, hu, hn, r1, r2⟩ := o.obj i _ p hx hp
      obtain ⟨n, hq, rfl⟩ := Option.map_eq_some_iff.mp e
      exact .inr ⟨W, ks, xs, ns, as, us, n, hu, hn, r1, r2, rb, hq, rfl, fun _ _ _ _ => trivial⟩
    · cases e
  · cases e
theorem rd_din : Rd2 k inD (rDin k false) := fun W H st a b x y c Q o ra rb e q => by
  obtain ⟨h, eh, rfl⟩ := Option.map_eq_some_iff.mp e
  obtain ⟨p, ex, g⟩ := hit_rep o ra rb eh
  exact ⟨p, a, h, ex, g, q W H _ (Le.refl _ _) o rfl⟩
theorem rd_dnotin : Rd2 k notInD (rDin k true) := fun W H st a b x y c Q o ra rb e q => by
  obtain ⟨h, eh, rfl⟩ := Option.map_eq_some_iff.mp e
  obtain ⟨p, ex, g⟩ := hit_rep o ra rb eh
  exact ⟨p, a, h, ex, g, q W H _ (Le.refl _ _) o rfl⟩
section
variable {j : Nat} {a b : Expr} {ma mb : M Val}
theorem me_din (hr : Room j X.A) (ha : PE X a (tM k E ma)) (hb : PE X b (tM k E mb)) (hm : behindInMarks .In b = false := by rfl) (hk : X.K = k.K := by rfl) (hw : X.w = k.w := by rfl) : PE X (.Compare a [.In] [b] pos) (tM k E (bin inD ma mb)) := me_cmp rd_din (op_din hr.units hk hw) hm ha hb
theorem mt_din (hr : Room j X.A) (ha : PE X a (tM k E ma)) (hb : PE X b (tM k E mb)) (hm : behindInMarks .In b = false := by rfl) (hk : X.K = k.K := by rfl) (hw : X.w = k.w := by rfl) : PT X (.Compare a [.In] [b] pos) (tMb k E (asB (bin inD ma mb))) := mt_cmp rd_din (op_din hr.units hk hw) hm ha hb
theorem mt_dnotin (hr : Room j X.A) (ha : PE X a (tM k E ma)) (hb : PE X b (tM k E mb)) (hm : behindInMarks .NotIn b = false := by rfl) (hk : X.K = k.K := by rfl) (hw : X.w = k.w := by rfl) : PT X (.Compare a [.NotIn] [b] pos) (tMb k E (asB (bin notInD ma mb))) := mt_cmp rd_dnotin (op_dnotin hr.units hk hw) hm ha hb
end
/-! ### d[k] -/
theorem atN_some {n : NestedKey} : ∀ {ks xs : List Val}, hasN n ks = true → xs.length = ks.length → ∃ v, atN n ks xs = some v
  | [], xs, h, _ => nomatch h
  | c :: ks, [], h, hl => nomatch hl
  | c :: ks, x :: xs, h, hl => by
    unfold hasN at h
    unfold atN
    by_cases hc : tupKey c = some n
    · rw [if_pos hc]
      exact ⟨x, rfl⟩
    · rw [if_neg hc] at h ⊢
      exact atN_some h (by simpa using hl)
def rDget (k : Kx) : R2 := fun x y H Q => ∃ p b, x = .ref p ∧ DnAt k H p b y true (fun v => Q v H)
theorem dn_typeIs {pins : List (Addr × Obj)} {σ : L2.St} {H : Hp} {s : Shared} {p : Addr} {b : Val} {y : V} {hit : Bool} {R : V → Prop} (I : Inv X pins σ H s) (hk : X.K = k.K) (hw : X.w = k.w) (g : DnAt k H p b y hit R) : s.TypeIs (.ref p) "dict" := by
  rcases g with ⟨c, kvs, ey, e, _⟩ | ⟨W, ks, xs, ns, as, us, n, e, e1, r1, _⟩
  · exact dict_typeIs I (DGet.k (k := c) e)
  · obtain ⟨hp, ys, hd, _⟩ := dn_at I hk hw e e1 r1
    exact hd.typeIs
theorem dn_get {A : Around} {pins : List (Addr × Obj)} {σ : L2.St} {H : Hp} {s : Shared} {p : Addr} {b : Val} {y : V} {u : Value} {R : V → Prop} {Q : Value → Shared → Prop} {F : Value → Shared → Prop} (hr : A.units + 64 < cLine) (I : Inv X pins σ H s) (hk : X.K = k.K) (hw : X.w = k.w) (g : DnAt k H p b y true R) (ry : RelV y u)
    (h : ∀ v w' s', Inv X pins σ H s' → RelV v w' → R v → Q w' s') : wpAny (model X.prog X.w) A (getItem (.ref p) u) Q F s := by
  rcases g with ⟨c, kvs, ey, e, eh, q⟩ | ⟨W, ks, xs, ns, as, us, n, e, e1, r1, r2, rb, eb, eh, q⟩
  · subst ey
    obtain ⟨v, hv⟩ := Option.isSome_iff_exists.mp eh.symm
    exact d_getItem (by omega) I (by rw [← hv]; exact DGet.k e) ry fun w' s' I' rw' => h v w' s' I' rw' (q v hv)
  · obtain ⟨hp, ys, hd, f1, f2, f3⟩ := dn_at I hk hw e e1 r1
    obtain ⟨a, rfl, rfl, hi⟩ := ask_is I hk rb ry eb
    obtain ⟨g1, g2⟩ := at_rep (n := n) e1 r2 f3 f1
    cases hv : atN n ks xs with
    | none =>
      exfalso
      have : hasN n ks = true := eh.symm
      have hlen : xs.length = ks.length := by
        have a1 := r2.len
        have a2 := f3.length
        have a3 := congrArg List.length f1
        have a4 := congrArg List.length (keysD_map e1)
        simp at a2 a3 a4
        omega
      obtain ⟨w0, hw0⟩ := atN_some this hlen
      rw [hv] at hw0
      cases hw0
    | some v =>
      obtain ⟨x, qq, rx, rel, hat⟩ := g1 v hv
      exact wpAny_getItem_heap (show A.in1.units + 8 < cLine from by show A.units + 1 + 8 < cLine; omega) hi hd hat (h x _ _ (I.tok _) rel (q v x hv rx))
theorem pe_dn {o i : Expr} {to ti : TE} (hr : X.A.units + 64 < cLine) (hk : X.K = k.K) (hw : X.w = k.w) (ho : PE X o to) (hi : PE X i ti) (hs : NoSl i) : PE X (.Subscript o i pos) (tOp (rDget k) to ti) := by
  refine ⟨fun pins s σ H Q I h => ?_⟩
  refine subD_of PySem.F.slot_dict_getitem.lookup hs (thn (ho.run pins s σ H _ I h) fun u s1 ⟨x, H1, I1, rx, q1⟩ => thn (hi.run pins s1 σ H1 _ I1 q1) fun iv s2 ⟨y, H2, I2, ry, p, b, ex, g⟩ => ?_)
  subst ex
  obtain rfl : u = Value.ref p := rx
  exact ⟨dn_typeIs I2 hk hw g, dn_get hr I2 hk hw g ry fun v w' s3 I3 rw' q => ⟨v, H2, I3, rw', q⟩⟩
def getD (st : Sto) (a b : Val) : Option Val := match a with
  | .ref i => match st[i]? with
    | some (.dk ks xs) => match keyV b with
      | some q => atKx q ks xs
      | none => none
    | some (.dn ks xs) => match tupKey b with
      | some n => atN n ks xs
      | none => none
    | _ => none
  | _ => none
theorem at_has {n : NestedKey} : ∀ {ks xs : List Val} {v : Val}, atN n ks xs = some v → hasN n ks = true
  | [], xs, v, h => by cases xs <;> cases h
  | c :: ks, [], v, h => by cases h
  | c :: ks, x :: xs, v, h => by
    unfold atN at h
    unfold hasN
    split at h
    · rename_i hc
      rw [if_pos hc]
    · rename_i hc
      rw [if_neg hc]
      exact at_has h
theorem atN_inj {n : NestedKey} {ks xs : List Val} {v v' : Val} (h : atN n ks xs = some v) (g : atN n ks xs = some v') : v = v' := Option.some.inj (h.symm.trans g)
theorem rd_getD : Rd2 k getD (rDget k) := fun W H st a b x y c Q o ra rb e q => by
  unfold getD at e
  split at e
  · rename_i i
    obtain ⟨p, ex, hp⟩ := ra
    refine ⟨p, b, ex, ?_⟩
    split at e
    · rename_i ks xs hx
      obtain ⟨us, hu, hl, r⟩ := o.obj i _ p hx hp
      split at e
      · rename_i n hn
        obtain ⟨z1, z2⟩ := zip_at (n := n) hl r
        obtain ⟨v, rv, hv⟩ := z1 c e
        refine .inl ⟨n, _, keyV_rep rb hn, hu, by rw [hv]; rfl, fun x' hx' => ?_⟩
        rw [hv] at hx'
        cases hx'
        exact q W H _ (Le.refl _ _) o rv
      · cases e
    · rename_i ks xs hx
      obtain ⟨ns, as, us, hu, hn, r1, r2⟩ := o.obj i _ p hx hp
      split at e
      · rename_i n hq
        refine .inr ⟨W, ks, xs, ns, as, us, n, hu, hn, r1, r2, rb, hq, (at_has e).symm, fun v x' hv rv => ?_⟩
        cases atN_inj e hv
        exact q W H _ (Le.refl _ _) o rv
      · cases e
    · cases e
  · cases e
theorem me_dget {j : Nat} {a b : Expr} {ma mb : M Val} (hr : Room j X.A) (ha : PE X a (tM k E ma)) (hb : PE X b (tM k E mb)) (hs : NoSl b) (hk : X.K = k.K := by rfl) (hw : X.w = k.w := by rfl) : PE X (.Subscript a b pos) (tM k E (bin getD ma mb)) :=
  imp (pe_dn hr.units hk hw ha hb hs) fun σ H Q h => bin_read rd_getD h
/-! ### d[k] = v -/
def DnPut (k : Kx) (H : Hp) (p : Addr) (b : Val) (y v : V) (H' : Hp) : Prop :=
  (∃ (q : Key) (kvs : List (Key × V)), y = kV q ∧ H p = some (.dK kvs) ∧ kvs.length < sizeLine ∧ H' = upd H p (.dK (L2.putK kvs q v))) ∨
  (∃ (W : Wd) (ks : List Val) (ns : List NestedKey) (as : List Addr) (us : List V) (n : NestedKey) (a : Addr), H p = some (DctO k.w p ns as us) ∧ keysD ks = some ns ∧ RepL k W H ks (as.map V.ref) ∧ RepV k W H b y ∧ y = .ref a ∧ tupKey b = some n ∧ ks.length < sizeLine ∧
    H' = upd H p (if hasN n ks = true then DctO k.w p ns as (vSetN n v ns us) else DctO k.w p (ns ++ [n]) (as ++ [a]) (us ++ [v])))
theorem hasN_at {n : NestedKey} : ∀ {ks : List Val} {ns : List NestedKey} {ys : List (NestedKey × Addr × Value)}, keysD ks = some ns → ys.map (·.1) = ns → hasN n ks = (atKey ys n).isSome
  | [], ns, ys, e, en => by
    cases e
    have : ys = [] := by simpa using en
    subst this
    rfl
  | c :: ks, ns, ys, e, en => by
    unfold keysD at e
    split at e
    · rename_i n1 n2 h1 h2
      cases e
      cases ys with
      | nil => cases en
      | cons y ys =>
        simp only [List.map_cons, List.cons.injEq] at en
        obtain ⟨e1, en⟩ := en
        unfold hasN
        by_cases hc : n1 = n
        · rw [if_pos (by rw [h1, hc])]
          simp [atKey, e1, hc]
        · rw [if_neg (by rw [h1]; exact fun z => hc (Option.some.inj z)), hasN_at h2 en]
          have : ¬ y.1 = n := by rw [e1]; exact hc
          simp [atKey, List.find?_cons, this]
    · cases e
theorem dn_put {A : Around} {pins : List (Addr × Obj)} {σ : L2.St} {H H' : Hp} {s : Shared} {p : Addr} {b : Val} {y v : V} {u r : Value} {Q : Unit → Shared → Prop} {F : Value → Shared → Prop} (hr : A.units + 64 < cLine) (I : Inv X pins σ H s) (hk : X.K = k.K) (hw : X.w = k.w) (g : DnPut k H p b y v H') (ry : RelV y u) (rv : RelV v r)
    (h : ∀ s', Inv X pins σ H' s' → Q () s') : wpAny (model X.prog X.w) A (setItem (.ref p) u r) Q F s := by
  rcases g with ⟨c, kvs, ey, e, hl, eH⟩ | ⟨W, ks, ns, as, us, n, a, e, e1, r1, rb, ey, eb, hl, eH⟩
  · subst ey eH
    exact d_setItem (by omega) I (DPut.k e hl) ry rv h
  · obtain ⟨hp, ys, hd, f1, f2, f3⟩ := dn_at I hk hw e e1 r1
    obtain ⟨a', ea, rfl, hi⟩ := ask_is I hk rb ry eb
    rw [ey] at ea
    cases ea
    have hlen : ys.length = ks.length := by
      have a3 := congrArg List.length f1
      have a4 := congrArg List.length (keysD_map e1)
      simp at a3 a4
      omega
    refine wpAny_setItem_heap (hsz := by omega) (show A.in1.units + 8 < cLine from by show A.units + 1 + 8 < cLine; omega) hi hd fun h' dd' hs => h _ ?_
    subst eH
    have hh := hasN_at (n := n) e1 f1
    have he : ∃ q, h'.get? p = some q := let ⟨q, _, _, hq, _⟩ := dd'; ⟨q, hq⟩
    refine d_write I (by rw [e]; exact True.intro) hs he ?_
    cases q : hasN n ks with
    | true =>
      rw [q] at hh
      rw [if_pos rfl]
      have e2 : storedH ys n a r = ys.map (putAt n r) := by
        obtain ⟨z, hz⟩ := Option.isSome_iff_exists.mp hh.symm
        exact storedH_old hz a r
      rw [e2] at dd'
      rw [← hw]
      refine dct_new hp dd' (by rw [keys_map_putAt]; exact f1) (by rw [addrs_putAt]; exact f2) ?_
      rw [← f1]
      exact vals_set rv f3
    | false =>
      rw [q] at hh
      rw [if_neg (by simp)]
      have e2 : storedH ys n a r = ys ++ [(n, a, r)] := by
        cases z : atKey ys n with
        | none => exact storedH_new z a r
        | some _ =>
          rw [z] at hh
          cases hh
      rw [e2] at dd'
      rw [← hw]
      refine dct_new hp dd' (by rw [List.map_append, f1]; rfl) (by rw [List.map_append, f2]; rfl) ?_
      rw [List.map_append]
      exact f3.append (.cons rv .nil)
def sDPutX (k : Kx) (td ty tv : TE) : TS := fun D σ H => tv σ H fun v H1 => td σ H1 fun x H2 => ty σ H2 fun y H3 => ∃ p b H4, x = .ref p ∧ DnPut k H3 p b y v H4 ∧ D.nx σ H4
theorem ps_dputX {o i value : Expr} {pos' : Pos} {td ty tv : TE} (hr : X.A.units + 64 < cLine) (hk : X.K = k.K) (hw : X.w = k.w) (ho : PE X o td) (hi : PE X i ty) (hv : PE X value tv) (hs : swapsWith value (some (.Subscript o i pos')) pos.line X.env = pure false) :
    PS X (.Assign [.Subscript o i pos'] value pos) (sDPutX k td ty tv) := by
  refine ⟨fun pins s σ H D I h => ?_⟩
  refine wpAny_Assign_Subscript (thn (hv.run pins s σ H _ I h) fun r s1 ⟨v, H1, I1, rv, q1⟩ => thn (ho.run pins s1 σ H1 _ I1 q1) fun u s2 ⟨x, H2, I2, rx, q2⟩ => thn (hi.run pins s2 σ H2 _ I2 q2) fun iv s3 ⟨y, H3, I3, ry, p, b, H4, ex, g, q3⟩ => ?_) hs
  subst ex
  obtain rfl : u = Value.ref p := rx
  exact dn_put hr I3 hk hw g ry rv fun s4 I4 => ⟨σ, H4, I4, q3⟩
def putD (a b v : Val) : S := fun env st => match a with
  | .ref i => match st[i]? with
    | some (.dk ks xs) => match keyV b with
      | some q => if ks.length < LIM then some (.next, env, st.set i (putDk q v ks xs)) else none
      | none => none
    | some (.dn ks xs) => match tupKey b with
      | some n => if ks.length < LIM then some (.next, env, st.set i (putDn n b v ks xs)) else none
      | none => none
    | _ => none
  | _ => none
def sPutD (mo mi mv : M Val) : S := sBnd mv fun v => sBnd mo fun a => sBnd mi fun b => putD a b v
theorem putD_read {mo mi mv : M Val} {D : Ends} {σ : L2.St} {H : Hp} (h : tS k E (sPutD mo mi mv) D σ H) : sDPutX k (tM k E mo) (tM k E mi) (tM k E mv) D σ H := by
  refine tG.mono (tS.bnd (R := RepV k) h) fun v H1 ⟨W, cv, rv, h1⟩ => ?_
  refine tG.mono (AtS.bnd (R := RepV k) (fun W H => RepV k W H cv v) (fun l r => r.le l) rv h1) fun x H2 ⟨W2, a, rv2, ra, h2⟩ => ?_
  refine tG.mono (AtS.bnd (R := RepV k) (fun W H => RepV k W H cv v ∧ RepV k W H a x) (fun l r => ⟨r.1.le l, r.2.le l⟩) ⟨rv2, ra⟩ h2) fun y H3 ⟨W3, b, ⟨rv3, ra3⟩, rb, env, st, o, g1, g2, g3, g4⟩ => ?_
  unfold putD at g3
  cases a with
  | ref i =>
    obtain ⟨p, ex, hp⟩ := ra3
    dsimp only at g3
    split at g3
    · rename_i ks xs hx
      obtain ⟨us, hu, hl, r⟩ := g1.obj i _ p hx hp
      split at g3
      · rename_i q hq
        split at g3
        · rename_i hlim
          cases g3
          obtain ⟨ks', xs', us', e1, e2, e3, e4⟩ := zip_put (n := q) rv3 hl r
          refine ⟨p, b, _, ex, .inl ⟨q, _, keyV_rep rb hq, hu, ?_, rfl⟩, ?_⟩
          · rw [List.length_zip]
            have := lim_lt hlim
            omega
          · have le := g1.putLe (o' := .dK (L2.putK (ks.zip us) q v)) hp hu (fun z => z)
            obtain ⟨l, o'⟩ := g1.put (u := putDk q cv ks xs) (o' := .dK (L2.putK (ks.zip us) q v)) hp hu (fun z => z) (by rw [e1]; exact ⟨us', by rw [upd_same, e2], e3, e4.le le⟩)
            exact g4 W3 _ σ l o' (g2.le l)
        · cases g3
      · cases g3
    · rename_i ks xs hx
      obtain ⟨ns, as, us, hu, hn, r1, r2⟩ := g1.obj i _ p hx hp
      split at g3
      · rename_i n hq
        split at g3
        · rename_i hlim
          cases g3
          obtain ⟨_, _, xs0, exs⟩ := tupKey_of hq
          have ea : ∃ a, y = V.ref a := by
            rw [exs] at rb
            obtain ⟨a, _, ey, _⟩ := rb
            exact ⟨a, ey⟩
          obtain ⟨a, ey⟩ := ea
          refine ⟨p, b, _, ex, .inr ⟨W3, ks, ns, as, us, n, a, hu, hn, r1, rb, ey, hq, lim_lt hlim, rfl⟩, ?_⟩
          have hm : ¬ Imm (DctO k.w p ns as us) := fun z => z
          have le := fun o' => g1.putLe (o' := o') hp hu hm
          unfold putDn at g4
          cases hh : hasN n ks with
          | true =>
            rw [hh, if_pos rfl] at g4
            rw [if_pos rfl]
            obtain ⟨l, o'⟩ := g1.put (u := .dn ks (setN n cv ks xs)) (o' := DctO k.w p ns as (vSetN n v ns us)) hp hu hm ⟨ns, as, _, upd_same, hn, r1.le (le _), (setN_rep rv3 hn r2).le (le _)⟩
            exact g4 W3 _ σ l o' (g2.le l)
          | false =>
            rw [hh, if_neg (by simp)] at g4
            rw [if_neg (by simp)]
            obtain ⟨l, o'⟩ := g1.put (u := .dn (ks ++ [b]) (xs ++ [cv])) (o' := DctO k.w p (ns ++ [n]) (as ++ [a]) (us ++ [v])) hp hu hm ⟨ns ++ [n], as ++ [a], us ++ [v], upd_same, keysD_app hn hq, by
              rw [List.map_append]
              exact (r1.append (show RepL k W3 H3 [b] (List.map V.ref [a]) from ⟨V.ref a, [], rfl, by rw [← ey]; exact rb, rfl⟩)).le (le _), (r2.append (show RepL k W3 H3 [cv] [v] from ⟨v, [], rfl, rv3, rfl⟩)).le (le _)⟩
            exact g4 W3 _ σ l o' (g2.le l)
        · cases g3
      · cases g3
    · cases g3
  | _ => cases g3
theorem ms_dput {j : Nat} {o i value : Expr} {pos' : Pos} {mo mi mv : M Val} (hr : Room j X.A) (ho : PE X o (tM k E mo)) (hi : PE X i (tM k E mi)) (hv : PE X value (tM k E mv)) (hs : swapsWith value (some (.Subscript o i pos')) pos.line X.env = pure false := by rfl) (hk : X.K = k.K := by rfl) (hw : X.w = k.w := by rfl) :
    PS X (.Assign [.Subscript o i pos'] value pos) (tS k E (sPutD mo mi mv)) := impS (ps_dputX hr.units hk hw ho hi hv hs) fun _ _ _ h => putD_read h
end
end Mi
namespace Mi
open PySem PySem.Spec PyProof.Rows L2
/-! ### calls whose answer is frozen: what the callee made never changes any more -/
theorem allOf_noRef {f : Val → Option Val} (h : ∀ a b, f a = some b → noRef b = true) : ∀ {xs ys : List Val}, allOf f xs = some ys → noRefs ys = true
  | [], ys, e => by
    cases e
    rfl
  | x :: xs, ys, e => by
    unfold allOf at e
    split at e
    · rename_i a rr h1 h2
      cases e
      show (noRef a && noRefs rr) = true
      rw [h _ _ h1, allOf_noRef h h2]
      rfl
    · cases e
theorem snapD_noRef {st : Sto} : ∀ (n : Nat) (a b : Val), snapD st n a = some b → noRef b = true
  | 0, a, b, e => by
    unfold snapD at e
    split at e
    · rename_i hn
      cases e
      exact hn
    · cases e
  | n + 1, a, b, e => by
    unfold snapD at e
    split at e
    · rename_i hn
      cases e
      exact hn
    · have key : ∀ (g : List Val → Val) (hg : ∀ l, noRef (g l) = noRefs l) (xs : List Val), (allOf (snapD st n) xs).map g = some b → noRef b = true := fun g hg xs e => by
        obtain ⟨ys, h1, rfl⟩ := Option.map_eq_some_iff.mp e
        rw [hg]
        exact allOf_noRef (snapD_noRef n) h1
      cases a with
      | ref i =>
        dsimp only at e
        split at e
        · exact key .lst (fun _ => rfl) _ e
        · exact key (.ins _ _) (fun _ => rfl) _ e
        · cases e
      | tup xs => exact key .tup (fun _ => rfl) _ e
      | lst xs => exact key .lst (fun _ => rfl) _ e
      | ins c ks xs => exact key (.ins c ks) (fun _ => rfl) _ e
      | _ => cases e
def outF (st : Sto) : Option (Except Exc Val × Sto) → Res Val
  | some (.ok v, st') => (snapD st' 9 v).map fun v' => (.ok v', st)
  | some (.error x, _) => if plains x.xs then some (.error x, st) else none
  | none => none
def pureF (c : CF) : CF := fun us st => if noRefs us then outF st (c us []) else none
section
variable {k : Kx} {W W' : Wd} {H H' : Hp} {st st' : Sto}
def Wd.kept (W W' : Wd) : Wd := ⟨W.rho, fun p => W'.fz p ∨ p ∈ W'.rho⟩
theorem Ok.kept (o : Ok k W H st) (h : Le (W.sub false H []) W' H H') (o' : Ok k W' H' st') : Le W (W.kept W') H H' ∧ Ok k (W.kept W') H' st := by
  have keep : ∀ p u, H p = some u → H' p = some u := fun p u e => h.rest p u e fun m => nomatch m
  have fz : ∀ p, W'.fz p → W.fz p ∨ H p = none := fun p f => by
    rcases h.newf p f with (z | ⟨z, _⟩) | z
    · exact .inl z
    · cases z
    · exact .inr z
  have rh : ∀ p, p ∈ W'.rho → H p = none := fun p m => by
    rcases h.newr p m with z | z
    · cases z
    · exact z
  have le : Le W (W.kept W') H H' := ⟨⟨[], by simp [Wd.kept]⟩, fun p f => .inl (h.fz p (.inl f)), fun p u e _ => keep p u e, fun p u e _ => keep p u e, fun p u e _ => keep p u e, fun p m => .inl m, fun p f => by
    rcases f with f | f
    · exact fz p f
    · exact .inr (rh p f), h.dom⟩
  refine ⟨le, ⟨o.nd, o.len, fun p f => ?_, fun p m f => ?_, fun i u q e1 e2 => ?_⟩⟩
  · rcases f with f | f
    · exact o'.fzs p f
    · exact o'.there f
  · rcases f with f | f
    · rcases fz p f with z | z
      · exact o.apart p m z
      · exact o.there m z
    · exact o.there m (rh p f)
  · have hq : q ∈ W.rho := List.mem_of_getElem? e2
    refine (o.obj i u q e1 e2).le le ?_
    cases z : H q with
    | none => exact absurd z (o.there hq)
    | some y => exact keep q y z
theorem pureF_sp {n : Nat} {c : CF} {vs : List V} {Q : VK} {E : XK} (h : spM k n (pureF c) vs H Q E) : spM k n c vs H Q E := by
  obtain ⟨W, us, st, o, h0, h1, h2, h3, h4⟩ := h
  unfold pureF at h3
  split at h3
  · rename_i hw
    cases q : c us [] with
    | none =>
      rw [q] at h3
      cases h3
    | some y =>
      rw [q] at h3
      obtain ⟨y, st'⟩ := y
      refine ⟨W.sub false H [], us, [], _, h0, h1.sub, h2.other (fun p f => Or.inl f) hw, q, ?_⟩
      cases y with
      | ok v =>
        dsimp only [outF] at h3
        obtain ⟨v', e1, e2⟩ := Option.map_eq_some_iff.mp h3
        subst e2
        intro W' H' u l o' ru
        obtain ⟨a1, a2⟩ := h1.kept l o'
        exact h4 _ H' u a1 a2 (RepV.other (W := W'.all) (W2 := W.kept W') (fun p f => f) (snapD_rep o' 9 _ _ _ ru e1) (snapD_noRef 9 _ _ e1))
      | error x =>
        dsimp only [outF] at h3
        split at h3
        · rename_i hv
          cases h3
          intro W' H' u d l o' ru
          obtain ⟨a1, a2⟩ := h1.kept l o'
          refine h4 _ H' u d a1 a2 ⟨ru.1, ru.2.1, ?_⟩
          rcases ru.2.2 with z | ⟨a, vs, z1, z2, z3⟩
          · exact .inl z
          · exact .inr ⟨a, vs, z1, z2, z3.plain hv⟩
        · cases h3
  · cases h3
theorem ok_pureF {P : Program} {w : World} {mg : Str → Option Value} {base : Heap} {j n : Nat} {f : Addr} {fd : FuncData} {ps : List Str} {c : CF} (F : FnOk P w k.K mg base (L2.CX P w) j f fd ps (spM k n c)) : FnOk P w k.K mg base (L2.CX P w) j f fd ps (spM k n (pureF c)) :=
  F.imp fun _ _ _ _ h => pureF_sp h
end
/-! ### a def with defaults, called by names -/
theorem kbf_dflt {K : PySem.W.Frag} {x qual : Str} {params : Arguments} {body : List Stmt} {scope : Scope} {dvs : List V} {f : Addr} {fd : FuncData} {ps : List Str} {kws : List (Str × V)} (F : FunD K x qual params body scope dvs kws f fd) (np : Nat) (ks : List Str) (jx : List Nat) (hd : dvs ≠ [])
    (h : ∀ (T : Addr) (kV doc pm : Value) (an : Option Addr) (cdv ct : Value) (us its ws : List Value), us.length = np → its.length = dvs.length → ws.length = ks.length →
      ∃ k, bindArgs (PySem.W.fnOf x qual params body scope (.ref T) kV doc pm an cdv ct) ⟨us, ks.zip ws⟩ = seqItems? (.ref T) >>= k ∧ k (some its.toArray) = pure (ps.zip (sel jx (us ++ (ws ++ its))))) :
    ∃ its : List Value, Vals dvs its ∧ KBf K fd ps ks np jx its := by
  obtain ⟨oc, od, dV, kV, doc, pm, an, cdv, ct, osl, rfl, lk, hcd, hD, hK⟩ := F.ex
  rcases hD with ⟨e, _⟩ | ⟨_, T, o, its, m, rfl, lT, oT, rT⟩
  · exact absurd e hd
  · refine ⟨its, rT, ⟨fun s us ws X l1 l2 => ?_⟩⟩
    obtain ⟨k, e1, e2⟩ := h T kV doc pm an cdv ct us its ws l1 rT.length.symm l2
    refine BindsTo.of_looks fun M => ?_
    rw [e1]
    exact looks_items X lT oT (.of_pure e2)
/-- y = [..], asked over deep snapshots -/
theorem ms_compB {X : Cx} {k : Kx} {E : WX} {i : Nat} {elt tg iter : Expr} {ifs : List Expr} {scope : Scope} {own : List (Str × Nat)} {st : Stmt} {mi : M (List Val)} {t : Tg} {cond : M Bool} {m : M Val} (hs : ∀ u ∈ slots t, u ∈ own.map (·.2))
    (h : PS X st (tAsg (tLc (tMi k E mi) (gT X.K t) (tMb k E0 cond) (tM k E0 m) (own.map (·.2))) (gName i))) (hk : X.K = k.K := by rfl) : PS X st (tS k E (sSet i (borS (compS mi t (own.map (·.2)) cond m)))) :=
  impS h fun D σ H q => by
    rw [hk]
    exact compS_read hs (borS_read (set_read q))
end Mi
namespace Pg
open PySem PySem.Spec PyProof.Rows L2 Mi
def s_is_sequence : S :=
  (sRet (un (isiV (isiT2 "list" "tuple") noOwn) (var 0)))
def c_is_sequence : CF := callS 1 s_is_sequence
def s_Voice_init : S :=
  (sSeq (sIf (orB (notB (asB (callP 1 c_is_sequence [] (consM (var 1) nilM)))) (orB (asB (bin eqV (app lenV (consM (var 1) nilM)) (ret (.int 0)))) (notB (asB (app allV (consM (comp (itS (var 1)) (.name 3) [3] yes (un (isiV isiF (ownT [("Call", true)])) (var 3))) nilM)))))) (sRaise "InvalidVoice" ["word"] (consM (ret (.str "calls")) nilM)) sNext)
    (sSeq (sSet 2 (comp (itS (var 1)) (.name 3) [3] yes (un (fldV (ownL ["Call"]) "name") (var 3))))
    (sSeq (sIf (asB (bin (cmpV fun i j => decide (i < j)) (un lenSetV (var 2)) (app lenV (consM (var 2) nilM)))) (sRaise "InvalidVoice" ["word"] (consM (ret (.str "names")) nilM)) sNext)
    (sSeq (sFldV (ownL ["Voice"]) "calls" (var 0) (app tupleV (consM (var 1) nilM)))
    (sSeq (sFldV (ownL ["Voice"]) "names" (var 0) (app tupleV (consM (var 2) nilM)))
    (sFldV (ownL ["Voice"]) "reach" (var 0) (app maxV (consM (comp (itS (var 1)) (.name 3) [3] yes (app intV (consM (un (fldV (ownL ["Call"]) "distance") (var 3)) nilM))) nilM))))))))
def c_Voice_init : CF := callS 4 s_Voice_init
def s_is_name : S :=
  (sSeq (sIf (orB (notB (asB (un (isiV (isiT "str") noOwn) (var 0)))) (notB (asB (chain (cmpV fun i j => decide (i < j)) (cmpV fun i j => decide (i ≤ j)) (ret (.int 0)) (app lenV (consM (var 0) nilM)) (ret (.int 4)))))) (sRet (ret (.bl false))) sNext)
    (sRet (app allV (consM (comp (itS (var 0)) (.name 1) [1] yes (bin inVal (var 1) (ret (.str "abcdefghijklmnopqrstuvwxyz")))) nilM))))
def c_is_name : CF := callS 2 s_is_name
def s_is_integer : S :=
  (sRet (andV (un (isiV (isiT "int") noOwn) (var 0)) (notV (un (isiV (isiT "bool") noOwn) (var 0)))))
def c_is_integer : CF := callS 1 s_is_integer
def s_is_within : S :=
  (sRet (andV (callP 1 c_is_integer [] (consM (var 0) nilM)) (chain (cmpV fun i j => decide (i ≤ j)) (cmpV fun i j => decide (i ≤ j)) (var 1) (var 0) (var 2))))
def c_is_within : CF := callS 3 s_is_within
def s_is_word : S :=
  (sRet (andV (un (isiV (isiT "str") noOwn) (var 0)) (bin inVal (var 0) (var 1))))
def c_is_word : CF := callS 2 s_is_word
def s_need : S :=
  (sIf (notB (asB (var 1))) (sRaise "InvalidCall" ["word"] (consM (var 0) nilM)) sNext)
def c_need : CF := callS 2 s_need
def s_Call_init : S :=
  (sSeq (sExpr (callP 2 c_need [] (consM (ret (.str "name")) (consM (callP 1 c_is_name [] (consM (var 1) nilM)) nilM))))
    (sSeq (sExpr (callP 2 c_need [] (consM (ret (.str "distance")) (consM (callP 3 c_is_within [] (consM (var 2) (consM (ret (.int 1)) (consM (ret (.int 4)) nilM)))) nilM))))
    (sSeq (sExpr (callP 2 c_need [] (consM (ret (.str "length")) (consM (callP 3 c_is_within [] (consM (var 3) (consM (ret (.int 1)) (consM (ret (.int 3)) nilM)))) nilM))))
    (sSeq (sExpr (callP 2 c_need [] (consM (ret (.str "busy")) (consM (callP 2 c_is_word [] (consM (var 4) (consM (ret (.tup [.str "wait", .str "drop", .str "cut"])) nilM))) nilM))))
    (sSeq (sExpr (callP 2 c_need [] (consM (ret (.str "least")) (consM (callP 3 c_is_within [] (consM (var 5) (consM (ret (.int 1)) (consM (ret (.int 4)) nilM)))) nilM))))
    (sSeq (sExpr (callP 2 c_need [] (consM (ret (.str "joins")) (consM (callP 3 c_is_within [] (consM (var 6) (consM (ret (.int 0)) (consM (ret (.int 3)) nilM)))) nilM))))
    (sSeq (sFldV (ownL ["Call"]) "name" (var 0) (var 1))
    (sSeq (sFldV (ownL ["Call"]) "distance" (var 0) (var 2))
    (sSeq (sFldV (ownL ["Call"]) "length" (var 0) (var 3))
    (sSeq (sFldV (ownL ["Call"]) "busy" (var 0) (var 4))
    (sSeq (sFldV (ownL ["Call"]) "least" (var 0) (var 5))
    (sFldV (ownL ["Call"]) "joins" (var 0) (var 6)))))))))))))
def c_Call_init : CF := callS 7 s_Call_init
def s_number_in : S :=
  (sSeq (sIf (orB (notB (asB (chain (cmpV fun i j => decide (i < j)) (cmpV fun i j => decide (i ≤ j)) (ret (.int 0)) (app lenV (consM (var 0) nilM)) (ret (.int 4))))) (notB (asB (app allV (consM (comp (itS (var 0)) (.name 1) [1] yes (bin inVal (var 1) (ret (.str "0123456789")))) nilM))))) (sRet (ret .non)) sNext)
    (sRet (ifV (orB (asB (bin eqV (var 0) (ret (.str "0")))) (asB (bin neV (bin idxV (var 0) (ret (.int 0))) (ret (.str "0"))))) (app intV (consM (var 0) nilM)) (ret .non))))
def c_number_in : CF := callS 2 s_number_in
def s_call_in : S :=
  (sSeq (sSet 1 (m1 splitV (var 0) (ret (.str " "))))
    (sSeq (sIf (asB (bin neV (app lenV (consM (var 1) nilM)) (ret (.int 6)))) (sRet (ret .non)) sNext)
    (sSeq (sSet 2 (comp (itS (mkLst (consM (bin idxV (var 1) (ret (.int 1))) (consM (bin idxV (var 1) (ret (.int 2))) (consM (bin idxV (var 1) (ret (.int 4))) (consM (bin idxV (var 1) (ret (.int 5))) nilM)))))) (.name 3) [3] yes (callP 1 c_number_in [] (consM (var 3) nilM))))
    (sSeq (sIf (asB (bin inVal (ret .non) (var 2))) (sRet (ret .non)) sNext)
    (sTryN (ownT [("InvalidCall", true)]) (sRet (makeP "Call" 7 c_Call_init [] (consM (bin idxV (var 1) (ret (.int 0))) (consM (bin idxV (var 2) (ret (.int 0))) (consM (bin idxV (var 2) (ret (.int 1))) (consM (bin idxV (var 1) (ret (.int 3))) (consM (bin idxV (var 2) (ret (.int 2))) (consM (bin idxV (var 2) (ret (.int 3))) nilM)))))))) (sRet (ret .non)))))))
def c_call_in : CF := callS 4 s_call_in
def s_Voice_read : S :=
  (sSeq (sSet 2 (comp (itS (m1 splitV (var 1) (ret (.str "\n")))) (.name 5) [5] yes (callP 1 c_call_in [] (consM (var 5) nilM))))
    (sSeq (sFor (enumM (consM (var 2) nilM)) (.tup [.name 3, .name 4]) (sIf (asB (bin isNV (var 4) (ret .non))) (sRaise "InvalidText" ["at"] (consM (var 3) nilM)) sNext))
    (sRet (makeL 0 "Voice" 2 c_Voice_init [] (consM (var 2) nilM)))))
def c_Voice_read : CF := callS 6 s_Voice_read
def s_turn_at : S :=
  (sSeq (sSet 4 (app tupleV (consM (comp (enumM (consM (un (fldV (ownL ["Voice"]) "calls") (var 0)) nilM)) (.tup [.name 5, .name 6]) [5, 6] (asB (bin (cmpV fun i j => decide (i ≤ j)) (un (fldV (ownL ["Call"]) "least") (var 6)) (var 3))) (var 5)) nilM)))
    (sRet (mkTup (consM (var 1) (consM (var 2) (consM (var 4) (consM (ret (.bl false)) nilM)))))))
def c_turn_at : CF := callS 7 s_turn_at
def s_Course_state : S :=
  (sRet (mkTup (consM (app tupleV (consM (comp (itS (un (fldV (ownL ["Course"]) "turns") (var 0))) (.name 1) [1] yes (app tupleV (consM (var 1) nilM))) nilM)) (consM (un (fldV (ownL ["Course"]) "speech") (var 0)) (consM (app tupleV (consM (un (fldV (ownL ["Course"]) "waiting") (var 0)) nilM)) nilM)))))
def c_Course_state : CF := pureD (callS 2 s_Course_state)
def s_Course_tells_nearest : S :=
  (sRet (andV (bin notNV (un (fldV (ownL ["Course"]) "speech") (var 0)) (ret .non)) (orV (bin eqV (bin idxV (un (fldV (ownL ["Course"]) "speech") (var 0)) (ret (.int 0))) (ret (.int 0))) (andV (bin eqV (bin idxV (un (fldV (ownL ["Course"]) "speech") (var 0)) (ret (.int 0))) (un (fun _ a => (intOf a).map fun i => .int (-i)) (ret (.int 1)))) (bin idxV (un (fldV (ownL ["Course"]) "speech") (var 0)) (ret (.int 3)))))))
def c_Course_tells_nearest : CF := pureD (callS 1 s_Course_tells_nearest)
def s_Course_step : S :=
  (sSeq (sForR (un (fldV (ownL ["Course"]) "turns") (var 0)) (.name 1) (sSub (bin subV (bin idxV (var 1) (ret (.int 0))) (ret (.int 1))) (var 1) (ret (.int 0))))
    (sSeq (sIf (orB (asB (bin eqV (app lenV (consM (un (fldV (ownL ["Course"]) "turns") (var 0)) nilM)) (ret (.int 0)))) (asB (bin (cmpV fun i j => decide (j < i)) (bin idxV (bin idxV (un (fldV (ownL ["Course"]) "turns") (var 0)) (ret (.int 0))) (ret (.int 0))) (ret (.int 0))))) (sRet (ret (.int 0))) sNext)
    (sSeq (sIf (asB (methM "Course" "tells_nearest" 1 c_Course_tells_nearest [] (var 0) nilM)) (sExpr (lm appendV (un (fldV (ownL ["Course"]) "met") (var 0)) (consM (ret (.str "behind")) nilM))) sNext)
    (sSeq (sIf (notB (asB (bin idxV (bin idxV (un (fldV (ownL ["Course"]) "turns") (var 0)) (ret (.int 0))) (ret (.int 3))))) (sExpr (lm appendV (un (fldV (ownL ["Course"]) "met") (var 0)) (consM (ret (.str "untold")) nilM))) sNext)
    (sSeq (sFldV (ownL ["Course"]) "turns" (var 0) (sliceS (un (fldV (ownL ["Course"]) "turns") (var 0)) (part (ret (.int 1))) nopart))
    (sSeq (sFldV (ownL ["Course"]) "waiting" (var 0) (borS (compS (itS (un (fldV (ownL ["Course"]) "waiting") (var 0))) (.tup [.name 1, .name 2]) [1, 2] (asB (bin (cmpV fun i j => decide (j < i)) (var 1) (ret (.int 0)))) (mkTup (consM (bin subV (var 1) (ret (.int 1))) (consM (var 2) nilM))))))
    (sSeq (sIf (asB (bin notNV (un (fldV (ownL ["Course"]) "speech") (var 0)) (ret .non))) (sSeq (sSetT (.tup [.name 1, .name 2, .name 3, .name 4]) (un (fldV (ownL ["Course"]) "speech") (var 0)))
    (sFldV (ownL ["Course"]) "speech" (var 0) (mkTup (consM (app max2V (consM (ifV (asB (var 4)) (un (fun _ a => (intOf a).map fun i => .int (-i)) (ret (.int 2))) (un (fun _ a => (intOf a).map fun i => .int (-i)) (ret (.int 1)))) (consM (bin subV (var 1) (ret (.int 1))) nilM))) (consM (var 2) (consM (var 3) (consM (var 4) nilM))))))) sNext)
    (sRet (ret (.int 1))))))))))
def c_Course_step : CF := callS 5 s_Course_step
def s_Course_init : S :=
  (sSeq (sSetT (.tup [.name 3, .name 4, .name 5]) (var 2))
    (sSeq (sFldV (ownL ["Course"]) "speaker" (var 0) (var 1))
    (sSeq (sFldV (ownL ["Course"]) "turns" (var 0) (compS (itS (var 3)) (.name 6) [6] yes (appS listVM (consM (var 6) nilM))))
    (sSeq (sFldV (ownL ["Course"]) "speech" (var 0) (var 4))
    (sSeq (sFldV (ownL ["Course"]) "waiting" (var 0) (appS listVM (consM (var 5) nilM)))
    (sSeq (sFldV (ownL ["Course"]) "met" (var 0) (mkLstM nilM))
    (sFldV (ownL ["Course"]) "told_now" (var 0) (ret (.int 0)))))))))
def c_Course_init : CF := callS 7 s_Course_init
def s_Course_is_joined : S :=
  (sSeq (sIf (orB (asB (bin (cmpV fun i j => decide (j ≤ i)) (bin addV (var 1) (ret (.int 1))) (app lenV (consM (un (fldV (ownL ["Course"]) "turns") (var 0)) nilM)))) (asB (bin idxV (bin idxV (un (fldV (ownL ["Course"]) "turns") (var 0)) (bin addV (var 1) (ret (.int 1)))) (ret (.int 1))))) (sRet (ret (.bl false))) sNext)
    (sRet (bin (cmpV fun i j => decide (i ≤ j)) (bin subV (bin idxV (bin idxV (un (fldV (ownL ["Course"]) "turns") (var 0)) (bin addV (var 1) (ret (.int 1)))) (ret (.int 0))) (bin idxV (bin idxV (un (fldV (ownL ["Course"]) "turns") (var 0)) (var 1)) (ret (.int 0)))) (un (fldV (ownL ["Call"]) "joins") (var 2)))))
def c_Course_is_joined : CF := pureD (callS 3 s_Course_is_joined)
def s_Course_begin : S :=
  (sSeq (sSet 3 (bin idxV (un (fldV (ownL ["Voice"]) "calls") (un (fldV (ownL ["Course"]) "speaker") (var 0))) (var 2)))
    (sSeq (sSet 4 (methM "Course" "is_joined" 3 c_Course_is_joined [] (var 0) (consM (var 1) (consM (var 3) nilM))))
    (sSeq (sIf (notB (asB (app allV (consM (comp (itS (sliceM (un (fldV (ownL ["Course"]) "turns") (var 0)) nopart (part (var 1)))) (.name 6) [6] yes (bin idxV (var 6) (ret (.int 3)))) nilM)))) (sExpr (lm appendV (un (fldV (ownL ["Course"]) "met") (var 0)) (consM (ret (.str "ahead")) nilM))) sNext)
    (sSeq (sFldV (ownL ["Course"]) "speech" (var 0) (mkTup (consM (var 1) (consM (var 2) (consM (bin addV (un (fldV (ownL ["Call"]) "length") (var 3)) (app intV (consM (var 4) nilM))) (consM (var 4) nilM))))))
    (sIf (asB (var 4)) (sSeq (sSub (mkTup nilM) (bin idxV (un (fldV (ownL ["Course"]) "turns") (var 0)) (bin addV (var 1) (ret (.int 1)))) (ret (.int 2)))
    (sFldV (ownL ["Course"]) "waiting" (var 0) (borS (compS (itS (un (fldV (ownL ["Course"]) "waiting") (var 0))) (.name 5) [5] (asB (bin neV (bin idxV (var 5) (ret (.int 0))) (bin addV (var 1) (ret (.int 1))))) (var 5))))) sNext)))))
def c_Course_begin : CF := callS 7 s_Course_begin
def s_Course_become_due : S :=
  (sSeq (sSet 3 (un (fldV (ownL ["Call"]) "busy") (bin idxV (un (fldV (ownL ["Voice"]) "calls") (un (fldV (ownL ["Course"]) "speaker") (var 0))) (var 2))))
    (sIf (asB (bin isNV (un (fldV (ownL ["Course"]) "speech") (var 0)) (ret .non))) (sExpr (methM "Course" "begin" 3 c_Course_begin [] (var 0) (consM (var 1) (consM (var 2) nilM)))) (sIf (asB (bin eqV (var 3) (ret (.str "wait")))) (sExpr (lm appendV (un (fldV (ownL ["Course"]) "waiting") (var 0)) (consM (mkTup (consM (var 1) (consM (var 2) nilM))) nilM))) (sIf (asB (bin eqV (var 3) (ret (.str "cut")))) (sSeq (sExpr (lm appendV (un (fldV (ownL ["Course"]) "met") (var 0)) (consM (ret (.str "cut")) nilM)))
    (sExpr (methM "Course" "begin" 3 c_Course_begin [] (var 0) (consM (var 1) (consM (var 2) nilM))))) sNext))))
def c_Course_become_due : CF := callS 4 s_Course_become_due
def s_Course_all_due : S :=
  (sForE (consM (un (fldV (ownL ["Course"]) "turns") (var 0)) nilM) (.tup [.name 1, .name 2]) (sFor (itS (app listV (consM (bin idxV (var 2) (ret (.int 2))) nilM))) (.name 3) (sIf (andB (asB (bin inVal (var 3) (bin idxV (var 2) (ret (.int 2))))) (asB (bin (cmpV fun i j => decide (j ≤ i)) (un (fldV (ownL ["Call"]) "distance") (bin idxV (un (fldV (ownL ["Voice"]) "calls") (un (fldV (ownL ["Course"]) "speaker") (var 0))) (var 3))) (bin idxV (var 2) (ret (.int 0)))))) (sSeq (sSub (app tupleV (consM (comp (itS (bin idxV (var 2) (ret (.int 2)))) (.name 4) [4] (asB (bin neV (var 4) (var 3))) (var 4)) nilM)) (var 2) (ret (.int 2)))
    (sExpr (methM "Course" "become_due" 3 c_Course_become_due [] (var 0) (consM (var 1) (consM (var 3) nilM))))) sNext)))
def c_Course_all_due : CF := callS 5 s_Course_all_due
def s_Course_speak : S :=
  (sSeq (sIf (asB (bin isNV (un (fldV (ownL ["Course"]) "speech") (var 0)) (ret .non))) (sRet (ret .non)) sNext)
    (sSeq (sSetT (.tup [.name 1, .name 2, .name 3, .name 4]) (un (fldV (ownL ["Course"]) "speech") (var 0)))
    (sSeq (sFldV (ownL ["Course"]) "speech" (var 0) (ifV (asB (bin (cmpV fun i j => decide (j < i)) (var 3) (ret (.int 1)))) (mkTup (consM (var 1) (consM (var 2) (consM (bin subV (var 3) (ret (.int 1))) (consM (var 4) nilM))))) (ret .non)))
    (sSeq (sIf (asB (bin eqV (var 3) (ret (.int 1)))) (sSeq (sFldV (ownL ["Course"]) "told_now" (var 0) (ifV (asB (var 4)) (ret (.int 2)) (ret (.int 1))))
    (sFor (rng2 (consM (app max2V (consM (var 1) (consM (ret (.int 0)) nilM))) (consM (bin addV (var 1) (un (fldV (ownL ["Course"]) "told_now") (var 0))) nilM))) (.name 5) (sSub (ret (.bl true)) (bin idxV (un (fldV (ownL ["Course"]) "turns") (var 0)) (var 5)) (ret (.int 3))))) sNext)
    (sRet (mkTup (consM (var 1) (consM (var 2) nilM))))))))
def c_Course_speak : CF := callS 6 s_Course_speak
def s_spoken_tick : S :=
  (sSeq (sSet 2 (makeM "Course" 3 c_Course_init [] (consM (var 0) (consM (var 1) nilM))))
    (sSeq (sIf (andB (asB (bin isNV (un (fldV (ownL ["Course"]) "speech") (var 2)) (ret .non))) (asB (bin (cmpV fun i j => decide (j < i)) (app lenV (consM (un (fldV (ownL ["Course"]) "waiting") (var 2)) nilM)) (ret (.int 0))))) (sSeq (sSetT (.tup [.name 3, .name 4]) (bin idxV (un (fldV (ownL ["Course"]) "waiting") (var 2)) (ret (.int 0))))
    (sSeq (sFldV (ownL ["Course"]) "waiting" (var 2) (sliceS (un (fldV (ownL ["Course"]) "waiting") (var 2)) (part (ret (.int 1))) nopart))
    (sExpr (methM "Course" "begin" 3 c_Course_begin [] (var 2) (consM (var 3) (consM (var 4) nilM)))))) sNext)
    (sSeq (sExpr (methM "Course" "all_due" 1 c_Course_all_due [] (var 2) nilM))
    (sSeq (sIf (asB (bin (cmpV fun i j => decide (j < i)) (app lenV (consM (un (fldV (ownL ["Course"]) "waiting") (var 2)) nilM)) (ret (.int 1)))) (sExpr (lm appendV (un (fldV (ownL ["Course"]) "met") (var 2)) (consM (ret (.str "crowd")) nilM))) sNext)
    (sRet (mkTup (consM (var 2) (consM (methM "Course" "speak" 1 c_Course_speak [] (var 2) nilM) nilM))))))))
def c_spoken_tick : CF := callS 5 s_spoken_tick
end Pg
namespace Pg
open PySem PySem.Spec PyProof.Rows L2 Mi
end Pg
namespace Pg
open PySem PySem.Spec PyProof.Rows L2 Mi
end Pg
namespace Pg
open PySem PySem.Spec PyProof.Rows L2 Mi
end Pg
namespace Pg
open PySem PySem.Spec PyProof.Rows L2 Mi
def s_Walk_take : S :=
  (sIf (asB (bin notInD (un (fldV (ownL ["Follow"]) "later") (var 1)) (un (fldV (ownL ["Walk"]) "came_by") (var 0)))) (sSeq (sPutD (un (fldV (ownL ["Walk"]) "came_by") (var 0)) (un (fldV (ownL ["Follow"]) "later") (var 1)) (mkTup (consM (var 1) (consM (var 2) nilM))))
    (sExpr (lm appendV (un (fldV (ownL ["Walk"]) "order") (var 0)) (consM (un (fldV (ownL ["Follow"]) "later") (var 1)) nilM)))) sNext)
def c_Walk_take : CF := callS 3 s_Walk_take
def s_Follow_init : S :=
  (sSeq (sFldV (ownL ["Follow"]) "word" (var 0) (var 1))
    (sSeq (sFldV (ownL ["Follow"]) "chosen" (var 0) (var 2))
    (sSeq (sFldV (ownL ["Follow"]) "is_near" (var 0) (var 3))
    (sSeq (sFldV (ownL ["Follow"]) "later" (var 0) (var 4))
    (sSeq (sFldV (ownL ["Follow"]) "wrong" (var 0) (mkTup nilM))
    (sFldV (ownL ["Follow"]) "said" (var 0) (ret .non)))))))
def c_Follow_init : CF := callS 5 s_Follow_init
def s_open_leg : S :=
  (sRet (app max2V (consM (bin addV (ret (.int 4)) (ret (.int 1))) (consM (var 0) nilM))))
def c_open_leg : CF := callS 1 s_open_leg
def s_extended : S :=
  (sSeq (sPar 4 5 (consM (mkLstM (consM (mkTup (consM (var 1) (consM (mkTup nilM) nilM))) nilM)) (consM (mkLstM nilM) nilM)))
    (sSeq (sWhile (asB (bin (cmpV fun i j => decide (j < i)) (app lenV (consM (var 4) nilM)) (ret (.int 0)))) (sSeq (sSetT (.tup [.tup [.name 10, .name 11, .name 12], .name 9]) (lm popAtV (var 4) (consM (ret (.int 0)) nilM)))
    (sSeq (sSet 6 (ifV (asB (bin (cmpV fun i j => decide (j < i)) (app lenV (consM (var 10) nilM)) (ret (.int 0)))) (bin idxV (bin idxV (var 10) (un (fun _ a => (intOf a).map fun i => .int (-i)) (ret (.int 1)))) (ret (.int 0))) (ret (.int 0))))
    (sSeq (sIf (asB (bin (cmpV fun i j => decide (j < i)) (var 6) (var 3))) (sSeq (sExpr (lm appendV (var 5) (consM (mkTup (consM (mkTup (consM (var 10) (consM (var 11) (consM (var 12) nilM)))) (consM (var 9) nilM))) nilM)))
    sCont) sNext)
    (sSeq (sFor (rng2 (consM (var 2) (consM (bin addV (ret (.int 4)) (ret (.int 1))) nilM))) (.name 7) (sSeq (sSet 8 (callP 4 c_turn_at [] (consM (var 0) (consM (bin addV (var 6) (var 7)) (consM (ret (.bl false)) (consM (var 7) nilM))))))
    (sExpr (lm appendV (var 4) (consM (mkTup (consM (mkTup (consM (mkTup (starM (var 10) (consM (var 8) nilM))) (consM (var 11) (consM (var 12) nilM)))) (consM (mkTup (starM (var 9) (consM (var 7) nilM))) nilM))) nilM)))))
    (sSeq (sSet 8 (callP 4 c_turn_at [] (consM (var 0) (consM (bin addV (var 6) (callP 1 c_open_leg [] (consM (var 2) nilM))) (consM (ret (.bl true)) (consM (callP 1 c_open_leg [] (consM (var 2) nilM)) nilM))))))
    (sExpr (lm appendV (var 4) (consM (mkTup (consM (mkTup (consM (mkTup (starM (var 10) (consM (var 8) nilM))) (consM (var 11) (consM (var 12) nilM)))) (consM (mkTup (starM (var 9) (consM (ret (.int 0)) nilM))) nilM))) nilM)))))))) 1000)
    (sRet (var 5))))
def c_extended : CF := pureF (callS 13 s_extended)
def s_beginnings : S :=
  (sRet (comp (itS (callM 4 c_extended [] (consM (var 0) (consM (mkTup (consM (mkTup nilM) (consM (ret .non) (consM (mkTup nilM) nilM)))) (consM (var 1) (consM (var 2) nilM)))))) (.tup [.name 3, .name 4]) [3, 4] yes (makeM "Follow" 5 c_Follow_init [] (consM (ret (.str "")) (consM (var 4) (consM (ret (.bl false)) (consM (var 3) nilM)))))))
def c_beginnings : CF := pureF (callS 5 s_beginnings)
def s_placed : S :=
  (sSeq (sSetT (.tup [.name 4, .name 5, .name 6, .name 7]) (bin idxV (var 0) (un (fun _ a => (intOf a).map fun i => .int (-i)) (ret (.int 1)))))
    (sSeq (sIf (orB (notB (asB (var 5))) (asB (bin (cmpV fun i j => decide (j < i)) (var 4) (bin addV (var 2) (ret (.int 1)))))) (sRet (var 0)) sNext)
    (sSeq (sSet 3 (ifV (asB (var 1)) (mkTup (consM (var 4) (consM (ret (.bl false)) (consM (var 6) (consM (var 7) nilM))))) (mkTup (consM (bin addV (var 4) (ret (.int 1))) (consM (ret (.bl true)) (consM (var 6) (consM (var 7) nilM)))))))
    (sRet (mkTup (starM (sliceM (var 0) nopart (part (un (fun _ a => (intOf a).map fun i => .int (-i)) (ret (.int 1))))) (consM (var 3) nilM)))))))
def c_placed : CF := callS 8 s_placed
def s_followed : S :=
  (sSeq (sSetT (.tup [.name 9, .name 10]) (callM 2 c_spoken_tick [] (consM (var 0) (consM (var 1) nilM))))
    (sSeq (sSet 4 (makeM "Follow" 5 c_Follow_init [] (consM (ret (.str "halt")) (consM (mkTup nilM) (consM (ret (.bl false)) (consM (methM "Course" "state" 1 c_Course_state [] (var 9) nilM) nilM))))))
    (sSeq (sFldV (ownL ["Follow"]) "wrong" (var 4) (app tupleV (consM (un (fldV (ownL ["Course"]) "met") (var 9)) nilM)))
    (sSeq (sSet 5 (mkLstM (consM (var 4) nilM)))
    (sSeq (sSetT (.tup [.name 11, .name 12, .name 13]) (methM "Course" "state" 1 c_Course_state [] (var 9) nilM))
    (sSeq (sSet 6 (andV (bin idxV (bin idxV (var 11) (un (fun _ a => (intOf a).map fun i => .int (-i)) (ret (.int 1)))) (ret (.int 1))) (bin eqV (bin idxV (bin idxV (var 11) (un (fun _ a => (intOf a).map fun i => .int (-i)) (ret (.int 1)))) (ret (.int 0))) (bin addV (var 3) (ret (.int 1))))))
    (sSeq (sFor (itS (ifV (asB (var 6)) (mkTup (consM (ret (.bl false)) (consM (ret (.bl true)) nilM))) (mkTup (consM (ret (.bl false)) nilM)))) (.name 7) (sSeq (sSetT (.tup [.name 14, .name 15]) (callM 2 c_spoken_tick [] (consM (var 0) (consM (var 1) nilM))))
    (sSeq (sFldV (ownL ["Course"]) "turns" (var 14) (compS (itS (callP 3 c_placed [] (consM (var 11) (consM (var 7) (consM (var 3) nilM))))) (.name 18) [18] yes (appS listVM (consM (var 18) nilM))))
    (sSeq (sExpr (methM "Course" "step" 1 c_Course_step [] (var 14) nilM))
    (sFor (itS (callM 4 c_extended [] (consM (var 0) (consM (methM "Course" "state" 1 c_Course_state [] (var 14) nilM) (consM (var 2) (consM (var 3) nilM)))))) (.tup [.name 16, .name 17]) (sSeq (sSet 8 (makeM "Follow" 5 c_Follow_init [] (consM (ret (.str "step")) (consM (var 17) (consM (var 7) (consM (var 16) nilM))))))
    (sSeq (sFldV (ownL ["Follow"]) "wrong" (var 8) (app tupleV (consM (un (fldV (ownL ["Course"]) "met") (var 14)) nilM)))
    (sExpr (lm appendV (var 5) (consM (var 8) nilM))))))))))
    (sSeq (sForR (var 5) (.name 8) (sFldV (ownL ["Follow"]) "said" (var 8) (var 10)))
    (sRet (var 5))))))))))
def c_followed : CF := pureF (callS 19 s_followed)
def s_Walk_init : S :=
  (sSeq (sFldV (ownL ["Walk"]) "reach" (var 0) (un (fldV (ownL ["Voice"]) "reach") (var 1)))
    (sSeq (sFldV (ownL ["Walk"]) "order" (var 0) (mkLstM nilM))
    (sSeq (sFldV (ownL ["Walk"]) "came_by" (var 0) newDn)
    (sSeq (sFldV (ownL ["Walk"]) "first_met" (var 0) newDk)
    (sSeq (sFor (itS (callM 3 c_beginnings [] (consM (var 1) (consM (var 2) (consM (un (fldV (ownL ["Walk"]) "reach") (var 0)) nilM))))) (.name 3) (sExpr (methM "Walk" "take" 3 c_Walk_take [] (var 0) (consM (var 3) (consM (ret .non) nilM)))))
    (sSeq (sSet 4 (ret (.int 0)))
    (sWhile (asB (bin (cmpV fun i j => decide (i < j)) (var 4) (app lenV (consM (un (fldV (ownL ["Walk"]) "order") (var 0)) nilM)))) (sSeq (sFor (itS (callM 4 c_followed [] (consM (var 1) (consM (bin idxV (un (fldV (ownL ["Walk"]) "order") (var 0)) (var 4)) (consM (var 2) (consM (un (fldV (ownL ["Walk"]) "reach") (var 0)) nilM)))))) (.name 3) (sSeq (sFor (itS (un (fldV (ownL ["Follow"]) "wrong") (var 3))) (.name 5) (sIf (asB (bin notInD (var 5) (un (fldV (ownL ["Walk"]) "first_met") (var 0)))) (sPutD (un (fldV (ownL ["Walk"]) "first_met") (var 0)) (var 5) (mkTup (consM (var 3) (consM (bin idxV (un (fldV (ownL ["Walk"]) "order") (var 0)) (var 4)) nilM)))) sNext))
    (sExpr (methM "Walk" "take" 3 c_Walk_take [] (var 0) (consM (var 3) (consM (bin idxV (un (fldV (ownL ["Walk"]) "order") (var 0)) (var 4)) nilM))))))
    (sAug 4 addI (ret (.int 1)))) 16000000)))))))
def c_Walk_init : CF := callS 6 s_Walk_init
def s_faults : S :=
  (sSeq (sSet 2 (un (fldV (ownL ["Walk"]) "first_met") (makeM "Walk" 3 c_Walk_init [] (consM (var 0) (consM (var 1) nilM)))))
    (sRet (app tupleV (consM (comp (itS (ret (.tup [.str "ahead", .str "behind", .str "crowd", .str "cut", .str "untold"]))) (.name 3) [3] (asB (bin inD (var 3) (var 2))) (var 3)) nilM))))
def c_faults : CF := callS 4 s_faults
def s_is_fault : S :=
  (sRet (callP 2 c_is_word [] (consM (var 0) (consM (ret (.tup [.str "ahead", .str "behind", .str "crowd", .str "cut", .str "untold"])) nilM))))
def c_is_fault : CF := callS 1 s_is_fault
def s_need_fault : S :=
  (sIf (notB (asB (callP 1 c_is_fault [] (consM (var 0) nilM)))) (sRaise "InvalidFault" [] nilM) sNext)
def c_need_fault : CF := callS 1 s_need_fault
def s_happens : S :=
  (sSeq (sExpr (callP 1 c_need_fault [] (consM (var 1) nilM)))
    (sRet (bin inD (var 1) (un (fldV (ownL ["Walk"]) "first_met") (makeM "Walk" 3 c_Walk_init [] (consM (var 0) (consM (var 2) nilM)))))))
def c_happens : CF := callS 3 s_happens
def s_least_leg : S :=
  (sSeq (sExpr (callP 1 c_need_fault [] (consM (var 1) nilM)))
    (sSeq (sFor (rng2 (consM (ret (.int 1)) (consM (bin addV (un (fldV (ownL ["Voice"]) "reach") (var 0)) (ret (.int 8))) nilM))) (.name 2) (sIf (notB (asB (callP 3 c_happens [] (consM (var 0) (consM (var 1) (consM (var 2) nilM)))))) (sRet (var 2)) sNext))
    (sRet (ret .non))))
def c_least_leg : CF := callS 3 s_least_leg
def s_told_story : S :=
  (sSeq (sPar3 4 5 6 (consM (mkLstM nilM) (consM (ret (.int 0)) (consM (mkLstM nilM) nilM))))
    (sSeq (sFor (itS (var 0)) (.name 2) (sSeq (sIf (asB (bin eqV (un (fldV (ownL ["Follow"]) "word") (var 2)) (ret (.str "step")))) (sSeq (sAug 5 addI (ret (.int 1)))
    (sIf (asB (un (fldV (ownL ["Follow"]) "is_near") (var 2))) (sSub (bin addV (var 5) (var 1)) (var 4) (un (fun _ a => (intOf a).map fun i => .int (-i)) (ret (.int 1)))) sNext)) sNext)
    (sSeq (sIf (asB (bin neV (un (fldV (ownL ["Follow"]) "word") (var 2)) (ret (.str "")))) (sExpr (lm appendV (var 6) (consM (un (fldV (ownL ["Follow"]) "word") (var 2)) nilM))) sNext)
    (sFor (itS (un (fldV (ownL ["Follow"]) "chosen") (var 2))) (.name 7) (sSeq (sSet 8 (ifV (asB (bin (cmpV fun i j => decide (j < i)) (app lenV (consM (var 4) nilM)) (ret (.int 0)))) (bin idxV (var 4) (un (fun _ a => (intOf a).map fun i => .int (-i)) (ret (.int 1)))) (ret (.int 0))))
    (sExpr (lm appendV (var 4) (consM (ifV (asB (bin (cmpV fun i j => decide (j < i)) (var 7) (ret (.int 0)))) (bin addV (var 8) (var 7)) (ret .non)) nilM))))))))
    (sSeq (sIf (asB (bin inVal (ret .non) (var 4))) (sSub (bin addV (var 5) (bin idxV (bin idxV (bin idxV (un (fldV (ownL ["Follow"]) "later") (bin idxV (var 0) (un (fun _ a => (intOf a).map fun i => .int (-i)) (ret (.int 1))))) (ret (.int 0))) (un (fun _ a => (intOf a).map fun i => .int (-i)) (ret (.int 1)))) (ret (.int 0)))) (var 4) (un (fun _ a => (intOf a).map fun i => .int (-i)) (ret (.int 1)))) sNext)
    (sSeq (sSet 3 (borS (compS (zipM (consM (mkLst (consM (ret (.int 0)) (starM (sliceM (var 4) nopart (part (un (fun _ a => (intOf a).map fun i => .int (-i)) (ret (.int 1))))) nilM))) (consM (var 4) nilM))) (.tup [.name 9, .name 10]) [9, 10] yes (bin subV (var 10) (var 9)))))
    (sRet (mkTup (consM (app tupleV (consM (var 3) nilM)) (consM (app tupleV (consM (var 6) nilM)) nilM))))))))
def c_told_story : CF := callS 11 s_told_story
def s_Walk_story_of : S :=
  (sSeq (sIf (asB (bin notInD (var 1) (un (fldV (ownL ["Walk"]) "first_met") (var 0)))) (sRet (ret .non)) sNext)
    (sSeq (sSetT (.tup [.name 3, .name 4]) (bin getD (un (fldV (ownL ["Walk"]) "first_met") (var 0)) (var 1)))
    (sSeq (sSet 2 (mkLstM (consM (var 3) nilM)))
    (sSeq (sWhile (asB (bin notNV (var 4) (ret .non))) (sSeq (sSetT (.tup [.name 3, .name 4]) (bin getD (un (fldV (ownL ["Walk"]) "came_by") (var 0)) (var 4)))
    (sExpr (lm appendV (var 2) (consM (var 3) nilM)))) 16000000)
    (sRet (callP 2 c_told_story [] (consM (un revV (var 2)) (consM (un (fldV (ownL ["Walk"]) "reach") (var 0)) nilM))))))))
def c_Walk_story_of : CF := callS 5 s_Walk_story_of
def s_story : S :=
  (sSeq (sExpr (callP 1 c_need_fault [] (consM (var 1) nilM)))
    (sRet (methM "Walk" "story_of" 2 c_Walk_story_of [] (makeM "Walk" 3 c_Walk_init [] (consM (var 0) (consM (var 2) nilM))) (consM (var 1) nilM))))
def c_story : CF := callS 3 s_story
end Pg
namespace K29
open PySem PySem.Spec PyProof.Rows L2 Mi Pg
def topS (i : Nat) : Stmt := PySem.Challenge.pw_turncalls_k29_deciding_by_names.main.body.getD i (.Pass ⟨0, 0, 0, 0⟩)
abbrev st_is_sequence : Stmt := topS 31
theorem sc_is_sequence : FnScope ["value"] ["value"] (defScope st_is_sequence) := ⟨rfl, rfl, rfl, by decide +kernel, rfl, by decide +kernel, by decide +kernel⟩
abbrev st_Voice_init : Stmt := (clsB (topS 52)).getD 0 (.Pass ⟨0, 0, 0, 0⟩)
theorem sc_Voice_init : FnScope ["self", "calls", "names", "call"] ["self", "calls"] (defScope st_Voice_init) := ⟨rfl, rfl, rfl, by decide +kernel, rfl, by decide +kernel, by decide +kernel⟩
abbrev st_is_name : Stmt := topS 32
theorem sc_is_name : FnScope ["value", "letter"] ["value"] (defScope st_is_name) := ⟨rfl, rfl, rfl, by decide +kernel, rfl, by decide +kernel, by decide +kernel⟩
abbrev st_is_integer : Stmt := topS 29
theorem sc_is_integer : FnScope ["value"] ["value"] (defScope st_is_integer) := ⟨rfl, rfl, rfl, by decide +kernel, rfl, by decide +kernel, by decide +kernel⟩
abbrev st_is_within : Stmt := topS 30
theorem sc_is_within : FnScope ["value", "least", "most"] ["value", "least", "most"] (defScope st_is_within) := ⟨rfl, rfl, rfl, by decide +kernel, rfl, by decide +kernel, by decide +kernel⟩
abbrev st_is_word : Stmt := topS 33
theorem sc_is_word : FnScope ["value", "words"] ["value", "words"] (defScope st_is_word) := ⟨rfl, rfl, rfl, by decide +kernel, rfl, by decide +kernel, by decide +kernel⟩
abbrev st_need : Stmt := topS 49
theorem sc_need : FnScope ["word", "is_right"] ["word", "is_right"] (defScope st_need) := ⟨rfl, rfl, rfl, by decide +kernel, rfl, by decide +kernel, by decide +kernel⟩
abbrev st_Call_init : Stmt := (clsB (topS 48)).getD 0 (.Pass ⟨0, 0, 0, 0⟩)
theorem sc_Call_init : FnScope ["self", "name", "distance", "length", "busy", "least", "joins"] ["self", "name", "distance", "length", "busy", "least", "joins"] (defScope st_Call_init) := ⟨rfl, rfl, rfl, by decide +kernel, rfl, by decide +kernel, by decide +kernel⟩
abbrev st_number_in : Stmt := topS 35
theorem sc_number_in : FnScope ["word", "digit"] ["word"] (defScope st_number_in) := ⟨rfl, rfl, rfl, by decide +kernel, rfl, by decide +kernel, by decide +kernel⟩
abbrev st_call_in : Stmt := topS 50
theorem sc_call_in : FnScope ["text", "words", "numbers", "word"] ["text"] (defScope st_call_in) := ⟨rfl, rfl, rfl, by decide +kernel, rfl, by decide +kernel, by decide +kernel⟩
abbrev st_Voice_read : Stmt := (clsB (topS 52)).getD 1 (.Pass ⟨0, 0, 0, 0⟩)
theorem sc_Voice_read : FnScope ["cls", "text", "found", "at", "call", "line"] ["cls", "text"] (defScope st_Voice_read) := ⟨rfl, rfl, rfl, by decide +kernel, rfl, by decide +kernel, by decide +kernel⟩
abbrev st_l_number : Stmt := topS 54
theorem sc_l_number : FnScope ["_law_script", "_law_zturn", "_law_znumber", "_law_zcell"] ["_law_script", "_law_zturn"] (defScope st_l_number) := ⟨rfl, rfl, rfl, by decide +kernel, rfl, by decide +kernel, by decide +kernel⟩
abbrev st_Walk_take : Stmt := (clsB (topS 20)).getD 1 (.Pass ⟨0, 0, 0, 0⟩)
theorem sc_Walk_take : FnScope ["self", "follow", "ahead"] ["self", "follow", "ahead"] (defScope st_Walk_take) := ⟨rfl, rfl, rfl, by decide +kernel, rfl, by decide +kernel, by decide +kernel⟩
abbrev st_Follow_init : Stmt := (clsB (topS 14)).getD 0 (.Pass ⟨0, 0, 0, 0⟩)
theorem sc_Follow_init : FnScope ["self", "word", "chosen", "is_near", "later"] ["self", "word", "chosen", "is_near", "later"] (defScope st_Follow_init) := ⟨rfl, rfl, rfl, by decide +kernel, rfl, by decide +kernel, by decide +kernel⟩
abbrev st_open_leg : Stmt := topS 15
theorem sc_open_leg : FnScope ["leg"] ["leg"] (defScope st_open_leg) := ⟨rfl, rfl, rfl, by decide +kernel, rfl, by decide +kernel, by decide +kernel⟩
abbrev st_turn_at : Stmt := topS 9
theorem sc_turn_at : FnScope ["voice", "distance", "is_open", "leg", "left", "number", "call"] ["voice", "distance", "is_open", "leg"] (defScope st_turn_at) := ⟨rfl, rfl, rfl, by decide +kernel, rfl, by decide +kernel, by decide +kernel⟩
abbrev st_extended : Stmt := topS 16
theorem sc_extended : FnScope ["voice", "state", "leg", "reach", "waiting", "found", "last", "longer", "turn", "chosen", "ahead", "speech", "calls"] ["voice", "state", "leg", "reach"] (defScope st_extended) := ⟨rfl, rfl, rfl, by decide +kernel, rfl, by decide +kernel, by decide +kernel⟩
abbrev st_beginnings : Stmt := topS 17
theorem sc_beginnings : FnScope ["voice", "leg", "reach", "later", "chosen"] ["voice", "leg", "reach"] (defScope st_beginnings) := ⟨rfl, rfl, rfl, by decide +kernel, rfl, by decide +kernel, by decide +kernel⟩
abbrev st_Course_state : Stmt := (clsB (topS 10)).getD 1 (.Pass ⟨0, 0, 0, 0⟩)
theorem sc_Course_state : FnScope ["self", "turn"] ["self"] (defScope st_Course_state) := ⟨rfl, rfl, rfl, by decide +kernel, rfl, by decide +kernel, by decide +kernel⟩
abbrev st_Course_tells_nearest : Stmt := (clsB (topS 10)).getD 7 (.Pass ⟨0, 0, 0, 0⟩)
theorem sc_Course_tells_nearest : FnScope ["self"] ["self"] (defScope st_Course_tells_nearest) := ⟨rfl, rfl, rfl, by decide +kernel, rfl, by decide +kernel, by decide +kernel⟩
abbrev st_Course_step : Stmt := (clsB (topS 10)).getD 8 (.Pass ⟨0, 0, 0, 0⟩)
theorem sc_Course_step : FnScope ["self", "turn", "number", "ticks", "is_joined"] ["self"] (defScope st_Course_step) := ⟨rfl, rfl, rfl, by decide +kernel, rfl, by decide +kernel, by decide +kernel⟩
abbrev st_placed : Stmt := topS 18
theorem sc_placed : FnScope ["ahead", "is_near", "reach", "last", "distance", "is_open", "left", "is_told"] ["ahead", "is_near", "reach"] (defScope st_placed) := ⟨rfl, rfl, rfl, by decide +kernel, rfl, by decide +kernel, by decide +kernel⟩
abbrev st_Course_init : Stmt := (clsB (topS 10)).getD 0 (.Pass ⟨0, 0, 0, 0⟩)
theorem sc_Course_init : FnScope ["self", "voice", "state", "ahead", "speech", "waiting", "turn"] ["self", "voice", "state"] (defScope st_Course_init) := ⟨rfl, rfl, rfl, by decide +kernel, rfl, by decide +kernel, by decide +kernel⟩
abbrev st_Course_is_joined : Stmt := (clsB (topS 10)).getD 2 (.Pass ⟨0, 0, 0, 0⟩)
theorem sc_Course_is_joined : FnScope ["self", "turn", "call"] ["self", "turn", "call"] (defScope st_Course_is_joined) := ⟨rfl, rfl, rfl, by decide +kernel, rfl, by decide +kernel, by decide +kernel⟩
abbrev st_Course_begin : Stmt := (clsB (topS 10)).getD 3 (.Pass ⟨0, 0, 0, 0⟩)
theorem sc_Course_begin : FnScope ["self", "turn", "number", "call", "is_joined", "pair", "near"] ["self", "turn", "number"] (defScope st_Course_begin) := ⟨rfl, rfl, rfl, by decide +kernel, rfl, by decide +kernel, by decide +kernel⟩
abbrev st_Course_become_due : Stmt := (clsB (topS 10)).getD 4 (.Pass ⟨0, 0, 0, 0⟩)
theorem sc_Course_become_due : FnScope ["self", "turn", "number", "busy"] ["self", "turn", "number"] (defScope st_Course_become_due) := ⟨rfl, rfl, rfl, by decide +kernel, rfl, by decide +kernel, by decide +kernel⟩
abbrev st_Course_all_due : Stmt := (clsB (topS 10)).getD 5 (.Pass ⟨0, 0, 0, 0⟩)
theorem sc_Course_all_due : FnScope ["self", "at", "turn", "number", "other"] ["self"] (defScope st_Course_all_due) := ⟨rfl, rfl, rfl, by decide +kernel, rfl, by decide +kernel, by decide +kernel⟩
abbrev st_Course_speak : Stmt := (clsB (topS 10)).getD 6 (.Pass ⟨0, 0, 0, 0⟩)
theorem sc_Course_speak : FnScope ["self", "turn", "number", "ticks", "is_joined", "at"] ["self"] (defScope st_Course_speak) := ⟨rfl, rfl, rfl, by decide +kernel, rfl, by decide +kernel, by decide +kernel⟩
abbrev st_spoken_tick : Stmt := topS 11
theorem sc_spoken_tick : FnScope ["voice", "state", "course", "turn", "number"] ["voice", "state"] (defScope st_spoken_tick) := ⟨rfl, rfl, rfl, by decide +kernel, rfl, by decide +kernel, by decide +kernel⟩
abbrev st_followed : Stmt := topS 19
theorem sc_followed : FnScope ["voice", "window", "leg", "reach", "halt", "found", "can_come", "is_near", "follow", "course", "said", "ahead", "speech", "waiting", "moved", "past", "later", "chosen", "turn"] ["voice", "window", "leg", "reach"] (defScope st_followed) := ⟨rfl, rfl, rfl, by decide +kernel, rfl, by decide +kernel, by decide +kernel⟩
abbrev st_Walk_init : Stmt := (clsB (topS 20)).getD 0 (.Pass ⟨0, 0, 0, 0⟩)
theorem sc_Walk_init : FnScope ["self", "voice", "leg", "follow", "spot", "fault"] ["self", "voice", "leg"] (defScope st_Walk_init) := ⟨rfl, rfl, rfl, by decide +kernel, rfl, by decide +kernel, by decide +kernel⟩
abbrev st_faults : Stmt := topS 40
theorem sc_faults : FnScope ["voice", "leg", "met", "fault"] ["voice", "leg"] (defScope st_faults) := ⟨rfl, rfl, rfl, by decide +kernel, rfl, by decide +kernel, by decide +kernel⟩
abbrev st_is_fault : Stmt := topS 34
theorem sc_is_fault : FnScope ["value"] ["value"] (defScope st_is_fault) := ⟨rfl, rfl, rfl, by decide +kernel, rfl, by decide +kernel, by decide +kernel⟩
abbrev st_need_fault : Stmt := topS 38
theorem sc_need_fault : FnScope ["fault"] ["fault"] (defScope st_need_fault) := ⟨rfl, rfl, rfl, by decide +kernel, rfl, by decide +kernel, by decide +kernel⟩
abbrev st_happens : Stmt := topS 39
theorem sc_happens : FnScope ["voice", "fault", "leg"] ["voice", "fault", "leg"] (defScope st_happens) := ⟨rfl, rfl, rfl, by decide +kernel, rfl, by decide +kernel, by decide +kernel⟩
abbrev st_least_leg : Stmt := topS 42
theorem sc_least_leg : FnScope ["voice", "fault", "leg"] ["voice", "fault"] (defScope st_least_leg) := ⟨rfl, rfl, rfl, by decide +kernel, rfl, by decide +kernel, by decide +kernel⟩
abbrev st_told_story : Stmt := topS 21
theorem sc_told_story : FnScope ["follows", "reach", "follow", "road", "places", "steps", "going", "longer", "ahead", "here", "there"] ["follows", "reach"] (defScope st_told_story) := ⟨rfl, rfl, rfl, by decide +kernel, rfl, by decide +kernel, by decide +kernel⟩
abbrev st_Walk_story_of : Stmt := (clsB (topS 20)).getD 2 (.Pass ⟨0, 0, 0, 0⟩)
theorem sc_Walk_story_of : FnScope ["self", "fault", "follows", "follow", "window"] ["self", "fault"] (defScope st_Walk_story_of) := ⟨rfl, rfl, rfl, by decide +kernel, rfl, by decide +kernel, by decide +kernel⟩
abbrev st_story : Stmt := topS 41
theorem sc_story : FnScope ["voice", "fault", "leg"] ["voice", "fault", "leg"] (defScope st_story) := ⟨rfl, rfl, rfl, by decide +kernel, rfl, by decide +kernel, by decide +kernel⟩
abbrev st_law : Stmt := topS 55
theorem sc_law : FnScope ["_law_script", "_law_zsome", "_law_zturn", "_law_zmade", "_law_zsize", "_law_zword", "_law_zdue"] ["_law_script"] (defScope st_law) := ⟨rfl, rfl, rfl, by decide +kernel, rfl, by decide +kernel, by decide +kernel⟩
abbrev st_InvalidCall_init : Stmt := (clsB (topS 3)).getD 0 (.Pass ⟨0, 0, 0, 0⟩)
theorem sb_InvalidCall : SupB "word" "word" (defBody st_InvalidCall_init) := ⟨⟨_, _, _, _, _, _, _, _, _, _, fun env => ⟨_, rfl⟩, rfl⟩⟩
theorem ss_InvalidCall : SupS "word" (defScope st_InvalidCall_init) := ⟨rfl, rfl, rfl, rfl, by decide +kernel, rfl, rfl, rfl⟩
abbrev st_InvalidText_init : Stmt := (clsB (topS 5)).getD 0 (.Pass ⟨0, 0, 0, 0⟩)
theorem sb_InvalidText : SupB "at" "at" (defBody st_InvalidText_init) := ⟨⟨_, _, _, _, _, _, _, _, _, _, fun env => ⟨_, rfl⟩, rfl⟩⟩
theorem ss_InvalidText : SupS "at" (defScope st_InvalidText_init) := ⟨rfl, rfl, rfl, rfl, by decide +kernel, rfl, rfl, rfl⟩
abbrev st_InvalidVoice_init : Stmt := (clsB (topS 4)).getD 0 (.Pass ⟨0, 0, 0, 0⟩)
theorem sb_InvalidVoice : SupB "word" "word" (defBody st_InvalidVoice_init) := ⟨⟨_, _, _, _, _, _, _, _, _, _, fun env => ⟨_, rfl⟩, rfl⟩⟩
theorem ss_InvalidVoice : SupS "word" (defScope st_InvalidVoice_init) := ⟨rfl, rfl, rfl, rfl, by decide +kernel, rfl, rfl, rfl⟩
structure Ad where
  f_is_sequence : Addr
  d_is_sequence : FuncData
  f_Voice_init : Addr
  d_Voice_init : FuncData
  f_is_name : Addr
  d_is_name : FuncData
  f_is_integer : Addr
  d_is_integer : FuncData
  f_is_within : Addr
  d_is_within : FuncData
  f_is_word : Addr
  d_is_word : FuncData
  f_need : Addr
  d_need : FuncData
  f_Call_init : Addr
  d_Call_init : FuncData
  f_number_in : Addr
  d_number_in : FuncData
  f_call_in : Addr
  d_call_in : FuncData
  f_Voice_read : Addr
  d_Voice_read : FuncData
  f_l_number : Addr
  d_l_number : FuncData
  f_Walk_take : Addr
  d_Walk_take : FuncData
  f_Follow_init : Addr
  d_Follow_init : FuncData
  f_open_leg : Addr
  d_open_leg : FuncData
  f_turn_at : Addr
  d_turn_at : FuncData
  f_extended : Addr
  d_extended : FuncData
  f_beginnings : Addr
  d_beginnings : FuncData
  f_Course_state : Addr
  d_Course_state : FuncData
  f_Course_tells_nearest : Addr
  d_Course_tells_nearest : FuncData
  f_Course_step : Addr
  d_Course_step : FuncData
  f_placed : Addr
  d_placed : FuncData
  f_Course_init : Addr
  d_Course_init : FuncData
  f_Course_is_joined : Addr
  d_Course_is_joined : FuncData
  f_Course_begin : Addr
  d_Course_begin : FuncData
  f_Course_become_due : Addr
  d_Course_become_due : FuncData
  f_Course_all_due : Addr
  d_Course_all_due : FuncData
  f_Course_speak : Addr
  d_Course_speak : FuncData
  f_spoken_tick : Addr
  d_spoken_tick : FuncData
  f_followed : Addr
  d_followed : FuncData
  f_Walk_init : Addr
  d_Walk_init : FuncData
  f_faults : Addr
  d_faults : FuncData
  f_is_fault : Addr
  d_is_fault : FuncData
  f_need_fault : Addr
  d_need_fault : FuncData
  f_happens : Addr
  d_happens : FuncData
  f_least_leg : Addr
  d_least_leg : FuncData
  f_told_story : Addr
  d_told_story : FuncData
  f_Walk_story_of : Addr
  d_Walk_story_of : FuncData
  f_story : Addr
  d_story : FuncData
  f_law : Addr
  d_law : FuncData
structure Tx (P : Program) (k : Kx) (mg : Str → Option Value) (a : Ad) : Prop where
  F_is_sequence : Fun k.K "is_sequence" "is_sequence" st_is_sequence a.f_is_sequence a.d_is_sequence
  b_is_sequence : Binds k.K a.d_is_sequence ["value"] []
  g_is_sequence : mg "is_sequence" = some (.ref a.f_is_sequence)
  F_Voice_init : Fun k.K "__init__" "Voice.__init__" st_Voice_init a.f_Voice_init a.d_Voice_init
  b_Voice_init : Binds k.K a.d_Voice_init ["self", "calls"] []
  F_is_name : Fun k.K "is_name" "is_name" st_is_name a.f_is_name a.d_is_name
  b_is_name : Binds k.K a.d_is_name ["value"] []
  g_is_name : mg "is_name" = some (.ref a.f_is_name)
  F_is_integer : Fun k.K "is_integer" "is_integer" st_is_integer a.f_is_integer a.d_is_integer
  b_is_integer : Binds k.K a.d_is_integer ["value"] []
  g_is_integer : mg "is_integer" = some (.ref a.f_is_integer)
  F_is_within : Fun k.K "is_within" "is_within" st_is_within a.f_is_within a.d_is_within
  b_is_within : Binds k.K a.d_is_within ["value", "least", "most"] []
  g_is_within : mg "is_within" = some (.ref a.f_is_within)
  F_is_word : Fun k.K "is_word" "is_word" st_is_word a.f_is_word a.d_is_word
  b_is_word : Binds k.K a.d_is_word ["value", "words"] []
  g_is_word : mg "is_word" = some (.ref a.f_is_word)
  F_need : Fun k.K "need" "need" st_need a.f_need a.d_need
  b_need : Binds k.K a.d_need ["word", "is_right"] []
  g_need : mg "need" = some (.ref a.f_need)
  F_Call_init : FunD k.K "__init__" "Call.__init__" (defArgs st_Call_init) (defBody st_Call_init) (defScope st_Call_init) [.str "wait", .int 1, .int 0] [] a.f_Call_init a.d_Call_init
  b7_Call_init : ∃ ds, Vals [] ds ∧ Binds k.K a.d_Call_init ["self", "name", "distance", "length", "busy", "least", "joins"] ds
  F_number_in : Fun k.K "number_in" "number_in" st_number_in a.f_number_in a.d_number_in
  b_number_in : Binds k.K a.d_number_in ["word"] []
  g_number_in : mg "number_in" = some (.ref a.f_number_in)
  F_call_in : Fun k.K "call_in" "call_in" st_call_in a.f_call_in a.d_call_in
  b_call_in : Binds k.K a.d_call_in ["text"] []
  g_call_in : mg "call_in" = some (.ref a.f_call_in)
  F_Voice_read : Fun k.K "read" "Voice.read" st_Voice_read a.f_Voice_read a.d_Voice_read
  b_Voice_read : Binds k.K a.d_Voice_read ["cls", "text"] []
  cm_Voice_read : ∃ (mc : Value) (pa : Addr), ClX.CRead k.K (k.cl "Voice") mc ∧ ClX.CMet k.K (k.cl "Voice") mc "read" pa a.f_Voice_read
  F_l_number : Fun k.K "_law_number" "_law_number" st_l_number a.f_l_number a.d_l_number
  b_l_number : Binds k.K a.d_l_number ["_law_script", "_law_zturn"] []
  g_l_number : mg "_law_number" = some (.ref a.f_l_number)
  F_Walk_take : Fun k.K "take" "Walk.take" st_Walk_take a.f_Walk_take a.d_Walk_take
  b_Walk_take : Binds k.K a.d_Walk_take ["self", "follow", "ahead"] []
  mt_Walk_take : Meth k.K (k.cl "Walk") "take" a.f_Walk_take
  F_Follow_init : Fun k.K "__init__" "Follow.__init__" st_Follow_init a.f_Follow_init a.d_Follow_init
  b_Follow_init : Binds k.K a.d_Follow_init ["self", "word", "chosen", "is_near", "later"] []
  F_open_leg : Fun k.K "open_leg" "open_leg" st_open_leg a.f_open_leg a.d_open_leg
  b_open_leg : Binds k.K a.d_open_leg ["leg"] []
  g_open_leg : mg "open_leg" = some (.ref a.f_open_leg)
  F_turn_at : Fun k.K "turn_at" "turn_at" st_turn_at a.f_turn_at a.d_turn_at
  b_turn_at : Binds k.K a.d_turn_at ["voice", "distance", "is_open", "leg"] []
  g_turn_at : mg "turn_at" = some (.ref a.f_turn_at)
  F_extended : Fun k.K "extended" "extended" st_extended a.f_extended a.d_extended
  b_extended : Binds k.K a.d_extended ["voice", "state", "leg", "reach"] []
  g_extended : mg "extended" = some (.ref a.f_extended)
  F_beginnings : Fun k.K "beginnings" "beginnings" st_beginnings a.f_beginnings a.d_beginnings
  b_beginnings : Binds k.K a.d_beginnings ["voice", "leg", "reach"] []
  g_beginnings : mg "beginnings" = some (.ref a.f_beginnings)
  F_Course_state : Fun k.K "state" "Course.state" st_Course_state a.f_Course_state a.d_Course_state
  b_Course_state : Binds k.K a.d_Course_state ["self"] []
  mt_Course_state : Meth k.K (k.cl "Course") "state" a.f_Course_state
  F_Course_tells_nearest : Fun k.K "tells_nearest" "Course.tells_nearest" st_Course_tells_nearest a.f_Course_tells_nearest a.d_Course_tells_nearest
  b_Course_tells_nearest : Binds k.K a.d_Course_tells_nearest ["self"] []
  mt_Course_tells_nearest : Meth k.K (k.cl "Course") "tells_nearest" a.f_Course_tells_nearest
  F_Course_step : Fun k.K "step" "Course.step" st_Course_step a.f_Course_step a.d_Course_step
  b_Course_step : Binds k.K a.d_Course_step ["self"] []
  mt_Course_step : Meth k.K (k.cl "Course") "step" a.f_Course_step
  F_placed : Fun k.K "placed" "placed" st_placed a.f_placed a.d_placed
  b_placed : Binds k.K a.d_placed ["ahead", "is_near", "reach"] []
  g_placed : mg "placed" = some (.ref a.f_placed)
  F_Course_init : Fun k.K "__init__" "Course.__init__" st_Course_init a.f_Course_init a.d_Course_init
  b_Course_init : Binds k.K a.d_Course_init ["self", "voice", "state"] []
  F_Course_is_joined : Fun k.K "is_joined" "Course.is_joined" st_Course_is_joined a.f_Course_is_joined a.d_Course_is_joined
  b_Course_is_joined : Binds k.K a.d_Course_is_joined ["self", "turn", "call"] []
  mt_Course_is_joined : Meth k.K (k.cl "Course") "is_joined" a.f_Course_is_joined
  F_Course_begin : Fun k.K "begin" "Course.begin" st_Course_begin a.f_Course_begin a.d_Course_begin
  b_Course_begin : Binds k.K a.d_Course_begin ["self", "turn", "number"] []
  mt_Course_begin : Meth k.K (k.cl "Course") "begin" a.f_Course_begin
  F_Course_become_due : Fun k.K "become_due" "Course.become_due" st_Course_become_due a.f_Course_become_due a.d_Course_become_due
  b_Course_become_due : Binds k.K a.d_Course_become_due ["self", "turn", "number"] []
  mt_Course_become_due : Meth k.K (k.cl "Course") "become_due" a.f_Course_become_due
  F_Course_all_due : Fun k.K "all_due" "Course.all_due" st_Course_all_due a.f_Course_all_due a.d_Course_all_due
  b_Course_all_due : Binds k.K a.d_Course_all_due ["self"] []
  mt_Course_all_due : Meth k.K (k.cl "Course") "all_due" a.f_Course_all_due
  F_Course_speak : Fun k.K "speak" "Course.speak" st_Course_speak a.f_Course_speak a.d_Course_speak
  b_Course_speak : Binds k.K a.d_Course_speak ["self"] []
  mt_Course_speak : Meth k.K (k.cl "Course") "speak" a.f_Course_speak
  F_spoken_tick : Fun k.K "spoken_tick" "spoken_tick" st_spoken_tick a.f_spoken_tick a.d_spoken_tick
  b_spoken_tick : Binds k.K a.d_spoken_tick ["voice", "state"] []
  g_spoken_tick : mg "spoken_tick" = some (.ref a.f_spoken_tick)
  F_followed : Fun k.K "followed" "followed" st_followed a.f_followed a.d_followed
  b_followed : Binds k.K a.d_followed ["voice", "window", "leg", "reach"] []
  g_followed : mg "followed" = some (.ref a.f_followed)
  F_Walk_init : Fun k.K "__init__" "Walk.__init__" st_Walk_init a.f_Walk_init a.d_Walk_init
  b_Walk_init : Binds k.K a.d_Walk_init ["self", "voice", "leg"] []
  F_faults : FunD k.K "faults" "faults" (defArgs st_faults) (defBody st_faults) (defScope st_faults) [.int 1] [] a.f_faults a.d_faults
  b2_faults : ∃ ds, Vals [] ds ∧ Binds k.K a.d_faults ["voice", "leg"] ds
  kb0_faults : ∃ its, Vals [.int 1] its ∧ KBf k.K a.d_faults ["voice", "leg"] ["leg", "voice"] 0 [1, 0] its
  kb1_faults : ∃ its, Vals [.int 1] its ∧ KBf k.K a.d_faults ["voice", "leg"] ["voice"] 0 [0, 1] its
  g_faults : mg "faults" = some (.ref a.f_faults)
  F_is_fault : Fun k.K "is_fault" "is_fault" st_is_fault a.f_is_fault a.d_is_fault
  b_is_fault : Binds k.K a.d_is_fault ["value"] []
  g_is_fault : mg "is_fault" = some (.ref a.f_is_fault)
  F_need_fault : Fun k.K "need_fault" "need_fault" st_need_fault a.f_need_fault a.d_need_fault
  b_need_fault : Binds k.K a.d_need_fault ["fault"] []
  g_need_fault : mg "need_fault" = some (.ref a.f_need_fault)
  F_happens : FunD k.K "happens" "happens" (defArgs st_happens) (defBody st_happens) (defScope st_happens) [.int 1] [] a.f_happens a.d_happens
  b3_happens : ∃ ds, Vals [] ds ∧ Binds k.K a.d_happens ["voice", "fault", "leg"] ds
  kb0_happens : ∃ its, Vals [.int 1] its ∧ KBf k.K a.d_happens ["voice", "fault", "leg"] ["leg", "fault", "voice"] 0 [2, 1, 0] its
  g_happens : mg "happens" = some (.ref a.f_happens)
  F_least_leg : Fun k.K "least_leg" "least_leg" st_least_leg a.f_least_leg a.d_least_leg
  b_least_leg : Binds k.K a.d_least_leg ["voice", "fault"] []
  kb0_least_leg : ∃ its, Vals [] its ∧ KBf k.K a.d_least_leg ["voice", "fault"] ["fault", "voice"] 0 [1, 0] its
  g_least_leg : mg "least_leg" = some (.ref a.f_least_leg)
  F_told_story : Fun k.K "told_story" "told_story" st_told_story a.f_told_story a.d_told_story
  b_told_story : Binds k.K a.d_told_story ["follows", "reach"] []
  g_told_story : mg "told_story" = some (.ref a.f_told_story)
  F_Walk_story_of : Fun k.K "story_of" "Walk.story_of" st_Walk_story_of a.f_Walk_story_of a.d_Walk_story_of
  b_Walk_story_of : Binds k.K a.d_Walk_story_of ["self", "fault"] []
  mt_Walk_story_of : Meth k.K (k.cl "Walk") "story_of" a.f_Walk_story_of
  F_story : FunD k.K "story" "story" (defArgs st_story) (defBody st_story) (defScope st_story) [.int 1] [] a.f_story a.d_story
  kb0_story : ∃ its, Vals [.int 1] its ∧ KBf k.K a.d_story ["voice", "fault", "leg"] ["fault", "voice", "leg"] 0 [1, 0, 2] its
  g_story : mg "story" = some (.ref a.f_story)
  F_law : Fun k.K "law" "law" st_law a.f_law a.d_law
  b_law : Binds k.K a.d_law ["_law_script"] []
  g_law : mg "law" = some (.ref a.f_law)
  g_Voice : mg "Voice" = some (.ref (k.cl "Voice"))
  K_Voice : ClsK k "Voice"
  M_Voice : Mk k.K (k.cl "Voice") a.f_Voice_init
  g_Call : mg "Call" = some (.ref (k.cl "Call"))
  K_Call : ClsK k "Call"
  M_Call : Mk k.K (k.cl "Call") a.f_Call_init
  g_Walk : mg "Walk" = some (.ref (k.cl "Walk"))
  K_Walk : ClsK k "Walk"
  M_Walk : Mk k.K (k.cl "Walk") a.f_Walk_init
  g_Follow : mg "Follow" = some (.ref (k.cl "Follow"))
  K_Follow : ClsK k "Follow"
  M_Follow : Mk k.K (k.cl "Follow") a.f_Follow_init
  g_Course : mg "Course" = some (.ref (k.cl "Course"))
  K_Course : ClsK k "Course"
  M_Course : Mk k.K (k.cl "Course") a.f_Course_init
  g_InvalidCall : mg "InvalidCall" = some (.ref (k.cl "InvalidCall"))
  g_InvalidText : mg "InvalidText" = some (.ref (k.cl "InvalidText"))
  g_InvalidVoice : mg "InvalidVoice" = some (.ref (k.cl "InvalidVoice"))
  g_InvalidFault : mg "InvalidFault" = some (.ref (k.cl "InvalidFault"))
  R_InvalidCall : ∃ fI : Addr, SupC P k.K mg "word" "word" "ValueError" "ValueError.__new__" "ValueError.__init__" [.type "ValueError", .type "Exception", .type "BaseException", .type "object"] (k.cl "InvalidCall") fI
  R_InvalidText : ∃ fI : Addr, SupC P k.K mg "at" "at" "ValueError" "ValueError.__new__" "ValueError.__init__" [.type "ValueError", .type "Exception", .type "BaseException", .type "object"] (k.cl "InvalidText") fI
  R_InvalidVoice : ∃ fI : Addr, SupC P k.K mg "word" "word" "ValueError" "ValueError.__new__" "ValueError.__init__" [.type "ValueError", .type "Exception", .type "BaseException", .type "object"] (k.cl "InvalidVoice") fI
  R_InvalidFault : Sup0 k.K "ValueError" "ValueError.__new__" "ValueError.__init__" [.type "ValueError", .type "Exception", .type "BaseException", .type "object"] (k.cl "InvalidFault")
  x_InvalidCall_InvalidCall : PySem.W.exmOne k.K (.ref (k.cl "InvalidCall")) (.ref (k.cl "InvalidCall")) = some true
  n_Call_busy : NoAttr k.K (k.cl "Call") "busy"
  n_Call_distance : NoAttr k.K (k.cl "Call") "distance"
  n_Call_joins : NoAttr k.K (k.cl "Call") "joins"
  n_Call_least : NoAttr k.K (k.cl "Call") "least"
  n_Call_length : NoAttr k.K (k.cl "Call") "length"
  n_Call_name : NoAttr k.K (k.cl "Call") "name"
  n_Course_met : NoAttr k.K (k.cl "Course") "met"
  n_Course_speaker : NoAttr k.K (k.cl "Course") "speaker"
  n_Course_speech : NoAttr k.K (k.cl "Course") "speech"
  n_Course_told_now : NoAttr k.K (k.cl "Course") "told_now"
  n_Course_turns : NoAttr k.K (k.cl "Course") "turns"
  n_Course_waiting : NoAttr k.K (k.cl "Course") "waiting"
  n_Follow_chosen : NoAttr k.K (k.cl "Follow") "chosen"
  n_Follow_is_near : NoAttr k.K (k.cl "Follow") "is_near"
  n_Follow_later : NoAttr k.K (k.cl "Follow") "later"
  n_Follow_said : NoAttr k.K (k.cl "Follow") "said"
  n_Follow_word : NoAttr k.K (k.cl "Follow") "word"
  n_Follow_wrong : NoAttr k.K (k.cl "Follow") "wrong"
  n_Voice_calls : NoAttr k.K (k.cl "Voice") "calls"
  n_Voice_names : NoAttr k.K (k.cl "Voice") "names"
  n_Voice_reach : NoAttr k.K (k.cl "Voice") "reach"
  n_Walk_came_by : NoAttr k.K (k.cl "Walk") "came_by"
  n_Walk_first_met : NoAttr k.K (k.cl "Walk") "first_met"
  n_Walk_order : NoAttr k.K (k.cl "Walk") "order"
  n_Walk_reach : NoAttr k.K (k.cl "Walk") "reach"
  z_len : mg "len" = none
  z_all : mg "all" = none
  z_int : mg "int" = none
  z_isinstance : mg "isinstance" = none
  z_str : mg "str" = none
  z_bool : mg "bool" = none
  z_enumerate : mg "enumerate" = none
  z_list : mg "list" = none
  z_tuple : mg "tuple" = none
  z_set : mg "set" = none
  z_max : mg "max" = none
  z_abs : mg "abs" = none
  z_range : mg "range" = none
  z_zip : mg "zip" = none
  c_BUSY : ∃ (v : V) (u : Value), mg "BUSY" = some u ∧ RelV v u ∧ Cst k (.tup [.str "wait", .str "drop", .str "cut"]) v
  c_DIGITS : ∃ (v : V) (u : Value), mg "DIGITS" = some u ∧ RelV v u ∧ Cst k (.str "0123456789") v
  c_FARTHER : ∃ (v : V) (u : Value), mg "FARTHER" = some u ∧ RelV v u ∧ Cst k (.int 8) v
  c_FAULTS : ∃ (v : V) (u : Value), mg "FAULTS" = some u ∧ RelV v u ∧ Cst k (.tup [.str "ahead", .str "behind", .str "crowd", .str "cut", .str "untold"]) v
  c_GREATEST_DISTANCE : ∃ (v : V) (u : Value), mg "GREATEST_DISTANCE" = some u ∧ RelV v u ∧ Cst k (.int 4) v
  c_GREATEST_JOINS : ∃ (v : V) (u : Value), mg "GREATEST_JOINS" = some u ∧ RelV v u ∧ Cst k (.int 3) v
  c_GREATEST_LEAST : ∃ (v : V) (u : Value), mg "GREATEST_LEAST" = some u ∧ RelV v u ∧ Cst k (.int 4) v
  c_GREATEST_LENGTH : ∃ (v : V) (u : Value), mg "GREATEST_LENGTH" = some u ∧ RelV v u ∧ Cst k (.int 3) v
  c_LETTERS : ∃ (v : V) (u : Value), mg "LETTERS" = some u ∧ RelV v u ∧ Cst k (.str "abcdefghijklmnopqrstuvwxyz") v
  c_LONGEST : ∃ (v : V) (u : Value), mg "LONGEST" = some u ∧ RelV v u ∧ Cst k (.int 4) v
  c_MOST_DIGITS : ∃ (v : V) (u : Value), mg "MOST_DIGITS" = some u ∧ RelV v u ∧ Cst k (.int 4) v
  c_MOST_LETTERS : ∃ (v : V) (u : Value), mg "MOST_LETTERS" = some u ∧ RelV v u ∧ Cst k (.int 4) v
def s_l_number : S :=
  (sSeq (sSet 2 (bin addV (ret (.int 59)) (bin mulV (ret (.int 7)) (var 1))))
    (sSeq (sFor (itS (sliceM (var 0) nopart (part (ret (.int 50))))) (.name 3) (sSet 2 (bin modV (app intV (consM (bin addV (bin addV (bin mulV (var 2) (ret (.int 53))) (bin modV (app intV (consM (app absV' (consM (var 3) nilM)) nilM)) (ret (.int 1000003)))) (var 1)) nilM)) (ret (.int 1000003)))))
    (sRet (bin modV (app intV (consM (bin fdivV (var 2) (ret (.int 9))) nilM)) (ret (.int 5))))))
def c_l_number : CF := callS 4 s_l_number
def s_law : S :=
  (sSeq (sSet 1 (mkLst (consM (ret (.str "a 2 2 wait 1 0")) (consM (ret (.str "a 2 1 drop 1 0")) (consM (ret (.str "a 1 2 cut 1 1")) (consM (ret (.str "a 2 2 cut 2 0")) (consM (ret (.str "far 2 1 wait 1 0\nnow 1 1 cut 1 0")) nilM)))))))
    (sSeq (sFor (rng1 (consM (ret (.int 3)) nilM)) (.name 2) (sSeq (sSet 3 (cmthP "Voice" 2 c_Voice_read (consM (bin idxV (var 1) (callM 2 c_l_number [] (consM (var 0) (consM (var 2) nilM)))) nilM)))
    (sSeq (sSet 4 (bin addV (ret (.int 1)) (callM 2 c_l_number [] (consM (var 0) (consM (bin addV (var 2) (ret (.int 3))) nilM)))))
    (sSeq (sSet 5 (bin idxV (mkLst (consM (ret (.str "ahead")) (consM (ret (.str "behind")) (consM (ret (.str "crowd")) (consM (ret (.str "cut")) (consM (ret (.str "untold")) nilM)))))) (callM 2 c_l_number [] (consM (var 0) (consM (bin addV (var 2) (ret (.int 6))) nilM)))))
    (sSeq (sSet 6 (callP 3 c_happens [] (consM (var 3) (consM (var 5) (consM (var 4) nilM)))))
    (sSeq (sIf (asB (bin neV (callP 3 c_happens [] (kwM 0 3 [2, 1, 0] [.int 1] nilM (consM (var 4) (consM (var 5) (consM (var 3) nilM))))) (var 6))) (sRet (ret (.bl false))) sNext)
    (sSeq (sIf (asB (bin neV (callP 2 c_faults [] (kwM 0 2 [1, 0] [.int 1] nilM (consM (var 4) (consM (var 3) nilM)))) (callP 2 c_faults [] (consM (var 3) (consM (var 4) nilM))))) (sRet (ret (.bl false))) sNext)
    (sSeq (sIf (asB (bin neV (callP 2 c_faults [] (kwM 0 1 [0, 1] [.int 1] nilM (consM (var 3) nilM))) (callP 2 c_faults [] (consM (var 3) (consM (ret (.int 1)) nilM))))) (sRet (ret (.bl false))) sNext)
    (sSeq (sIf (asB (bin eqV (bin isNV (callP 3 c_story [] (kwM 0 3 [1, 0, 2] [.int 1] nilM (consM (var 5) (consM (var 3) (consM (var 4) nilM))))) (ret .non)) (var 6))) (sRet (ret (.bl false))) sNext)
    (sIf (asB (bin neV (callP 2 c_least_leg [] (kwM 0 2 [1, 0] [] nilM (consM (var 5) (consM (var 3) nilM)))) (callP 2 c_least_leg [] (consM (var 3) (consM (var 5) nilM))))) (sRet (ret (.bl false))) sNext))))))))))
    (sRet (ret (.bl true)))))
section
variable {P : Program} {k : Kx} {mg : Str → Option Value} {base : Heap} {a : Ad}
theorem ok_is_sequence (T : Tx P k mg a) : FnOk P k.w k.K mg base (L2.CX P k.w) 1 a.f_is_sequence a.d_is_sequence ["value"] (spM k 1 c_is_sequence) :=
  ok_def (j := 0) (s := s_is_sequence) T.F_is_sequence sc_is_sequence (show c_is_sequence = callS 1 s_is_sequence from rfl) rfl rfl fun cdv A outer s0 H E hr => by
    have tk : Takes (cxOf (L2.CX P k.w) P k.w k.K mg base ["value"] "is_sequence" (defScope st_is_sequence) a.f_is_sequence cdv A outer s0 H E) (fun c d _ H' => E c d H') := takes_of rfl rfl rfl rfl
    exact (ms_one (ms_ret (me_isi2 (.ty "list") (.ty "tuple") (isiT2_ok (by decide +kernel)) (fun _ _ h => nomatch h) (by rfl) T.z_isinstance (me_var 0 (pv 0)) (pe_bltn (by rfl) T.z_list (by decide +kernel) rfl) (pe_bltn (by rfl) T.z_tuple (by decide +kernel) rfl))))
theorem ok_Voice_init (T : Tx P k mg a) : FnOk P k.w k.K mg base (L2.CX P k.w) 2 a.f_Voice_init a.d_Voice_init ["self", "calls"] (spM k 2 c_Voice_init) :=
  ok_def (j := 1) (s := s_Voice_init) T.F_Voice_init sc_Voice_init (show c_Voice_init = callS 4 s_Voice_init from rfl) rfl rfl fun cdv A outer s0 H E hr => by
    have tk : Takes (cxOf (L2.CX P k.w) P k.w k.K mg base ["self", "calls", "names", "call"] "Voice.__init__" (defScope st_Voice_init) a.f_Voice_init cdv A outer s0 H E) (fun c d _ H' => E c d H') := takes_of rfl rfl rfl rfl
    exact (ms_cons (ms_if (PW.pt (mw_or (mt_not (mt_val (me_callP (ok_is_sequence T) (hr.mono (by decide)) (by rfl) T.g_is_sequence T.F_is_sequence.kp T.b_is_sequence .nil (fun _ _ => rl_nil) tk (ma_cons (me_var 1 (pv 1)) ma_nil)))) (mw_or (mt_cu (cu_eq hr) (me_cb (cu_len) (by rfl) T.z_len PySem.boot_len (ma_cons (me_var 1 (pv 1)) ma_nil)) me_int) (mw_or1 (mt_not (mt_val (me_cb (cu_all rfl) (by rfl) T.z_all (by decide +kernel) (ma_cons (me_comp (t := (.name 3)) (own := [("call", 3)]) (by decide) (pe_lc (own := [("call", 3)]) (g := gT _ (.name 3)) rfl sc_Voice_init.nd (mi_still (me_var 1 (pv 1))) (blkOk_by (own := [("call", 3)]) (N := ["self", "calls", "names", "call"]) (sc := defScope st_Voice_init) (by decide +kernel)) (fun _ _ _ _ _ => (pg_name (i := 3) sc_Voice_init.nd rfl (by first | exact Or.inl rfl | exact Or.inr rfl))) (fun _ _ _ _ _ => mts_nil) (fun _ _ _ _ _ => (me_isi (.own (k.cl "Call")) (isiF_ok T.K_Call) (ownT_cons (kit_self T.K_Call) ownT_nil) (by rfl) T.z_isinstance (me_var 3 (pv 3)) (pe_glob (by rfl) T.g_Call (show RelV (.ref (k.cl "Call")) (.ref (k.cl "Call")) from rfl)))))) ma_nil)))))))) (ms_one (T.R_InvalidVoice |> fun ⟨_, hR⟩ => ms_raise (c := "InvalidVoice") hR rfl tk (hr.mono (by decide)) (by rfl) T.g_InvalidVoice (ma_cons me_str ma_nil))) ms_nil)
      (ms_cons (ms_comp (i := 2) (elt := .Constant .none 0 ⟨0,0,0,0⟩) (tg := .Constant .none 0 ⟨0,0,0,0⟩) (iter := .Constant .none 0 ⟨0,0,0,0⟩) (ifs := []) (scope := defScope st_Voice_init) (t := (.name 3)) (own := [("call", 3)]) (by decide) (ps_setLc (i := 2) (own := [("call", 3)]) (g := gT _ (.name 3)) rfl sc_Voice_init.nd rfl rfl (sw_true rfl rfl rfl (by decide +kernel)) (mi_still (me_var 1 (pv 1))) (blkOk_by (own := [("call", 3)]) (N := ["self", "calls", "names", "call"]) (sc := defScope st_Voice_init) (by decide +kernel)) (fun _ _ _ _ _ => (pg_name (i := 3) sc_Voice_init.nd rfl (by first | exact Or.inl rfl | exact Or.inr rfl))) (fun _ _ _ _ _ => mts_nil) (fun _ _ _ _ _ => (me_fld (ownL_cons ⟨T.K_Call.t.cl, T.n_Call_name⟩ ownL_nil) (me_var 3 (pv 3))))))
      (ms_cons (ms_if (mt_cu (cu_lt) (me_lenSet rfl (by rfl) T.z_len (by rfl) T.z_set (me_var 2 (pv 2))) (me_cb (cu_len) (by rfl) T.z_len PySem.boot_len (ma_cons (me_var 2 (pv 2)) ma_nil))) (ms_one (T.R_InvalidVoice |> fun ⟨_, hR⟩ => ms_raise (c := "InvalidVoice") hR rfl tk (hr.mono (by decide)) (by rfl) T.g_InvalidVoice (ma_cons me_str ma_nil))) ms_nil)
      (ms_cons (ms_fld (ownL_cons ⟨T.K_Voice.t.cl, T.n_Voice_calls⟩ ownL_nil) (me_var 0 (pv 0)) (me_ct (cu_tuple) (by rfl) T.z_tuple (by decide +kernel) (ma_cons (me_var 1 (pv 1)) ma_nil)))
      (ms_cons (ms_fld (ownL_cons ⟨T.K_Voice.t.cl, T.n_Voice_names⟩ ownL_nil) (me_var 0 (pv 0)) (me_ct (cu_tuple) (by rfl) T.z_tuple (by decide +kernel) (ma_cons (me_var 2 (pv 2)) ma_nil)))
      (ms_one (ms_fld (ownL_cons ⟨T.K_Voice.t.cl, T.n_Voice_reach⟩ ownL_nil) (me_var 0 (pv 0)) (me_cb (cu_max rfl) (by rfl) T.z_max (by decide +kernel) (ma_cons (me_comp (t := (.name 3)) (own := [("call", 3)]) (by decide) (pe_lc (own := [("call", 3)]) (g := gT _ (.name 3)) rfl sc_Voice_init.nd (mi_still (me_var 1 (pv 1))) (blkOk_by (own := [("call", 3)]) (N := ["self", "calls", "names", "call"]) (sc := defScope st_Voice_init) (by decide +kernel)) (fun _ _ _ _ _ => (pg_name (i := 3) sc_Voice_init.nd rfl (by first | exact Or.inl rfl | exact Or.inr rfl))) (fun _ _ _ _ _ => mts_nil) (fun _ _ _ _ _ => (me_ct (cu_int) (by rfl) T.z_int (by decide +kernel) (ma_cons (me_fld (ownL_cons ⟨T.K_Call.t.cl, T.n_Call_distance⟩ ownL_nil) (me_var 3 (pv 3))) ma_nil))))) ma_nil)))))))))
theorem ok_is_name (T : Tx P k mg a) : FnOk P k.w k.K mg base (L2.CX P k.w) 1 a.f_is_name a.d_is_name ["value"] (spM k 1 c_is_name) :=
  ok_def (j := 0) (s := s_is_name) T.F_is_name sc_is_name (show c_is_name = callS 2 s_is_name from rfl) rfl rfl fun cdv A outer s0 H E hr => by
    have tk : Takes (cxOf (L2.CX P k.w) P k.w k.K mg base ["value", "letter"] "is_name" (defScope st_is_name) a.f_is_name cdv A outer s0 H E) (fun c d _ H' => E c d H') := takes_of rfl rfl rfl rfl
    exact (ms_cons (ms_if (PW.pt (mw_or (mt_not (mt_val (me_isi (.ty "str") (isiT_ok (by decide +kernel)) (fun _ _ h => nomatch h) (by rfl) T.z_isinstance (me_var 0 (pv 0)) (pe_bltn (by rfl) T.z_str (by decide +kernel) rfl)))) (mw_or1 (mt_not (mt_ch (cu_lt) (cu_le) me_int (me_cb (cu_len) (by rfl) T.z_len PySem.boot_len (ma_cons (me_var 0 (pv 0)) ma_nil)) (T.c_MOST_LETTERS |> fun ⟨_, _, h1, h2, h3⟩ => me_glob (by rfl) h1 h2 h3)))))) (ms_one (ms_ret me_bl)) ms_nil)
      (ms_one (ms_ret (me_cb (cu_all rfl) (by rfl) T.z_all (by decide +kernel) (ma_cons (me_comp (t := (.name 1)) (own := [("letter", 1)]) (by decide) (pe_lc (own := [("letter", 1)]) (g := gT _ (.name 1)) rfl sc_is_name.nd (mi_still (me_var 0 (pv 0))) (blkOk_by (own := [("letter", 1)]) (N := ["value", "letter"]) (sc := defScope st_is_name) (by decide +kernel)) (fun _ _ _ _ _ => (pg_name (i := 1) sc_is_name.nd rfl (by first | exact Or.inl rfl | exact Or.inr rfl))) (fun _ _ _ _ _ => mts_nil) (fun _ _ _ _ _ => (me_cu (cu_in) (me_var 1 (pv 1)) (T.c_LETTERS |> fun ⟨_, _, h1, h2, h3⟩ => me_glob (by rfl) h1 h2 h3))))) ma_nil)))))
theorem ok_is_integer (T : Tx P k mg a) : FnOk P k.w k.K mg base (L2.CX P k.w) 1 a.f_is_integer a.d_is_integer ["value"] (spM k 1 c_is_integer) :=
  ok_def (j := 0) (s := s_is_integer) T.F_is_integer sc_is_integer (show c_is_integer = callS 1 s_is_integer from rfl) rfl rfl fun cdv A outer s0 H E hr => by
    have tk : Takes (cxOf (L2.CX P k.w) P k.w k.K mg base ["value"] "is_integer" (defScope st_is_integer) a.f_is_integer cdv A outer s0 H E) (fun c d _ H' => E c d H') := takes_of rfl rfl rfl rfl
    exact (ms_one (ms_ret (me_and (me_isi (.ty "int") (isiT_ok (by decide +kernel)) (fun _ _ h => nomatch h) (by rfl) T.z_isinstance (me_var 0 (pv 0)) (pe_bltn (by rfl) T.z_int (by decide +kernel) rfl)) (me_one (me_not (me_isi (.ty "bool") (isiT_ok (by decide +kernel)) (fun _ _ h => nomatch h) (by rfl) T.z_isinstance (me_var 0 (pv 0)) (pe_bltn (by rfl) T.z_bool (by decide +kernel) rfl)))))))
theorem ok_is_within (T : Tx P k mg a) : FnOk P k.w k.K mg base (L2.CX P k.w) 2 a.f_is_within a.d_is_within ["value", "least", "most"] (spM k 3 c_is_within) :=
  ok_def (j := 1) (s := s_is_within) T.F_is_within sc_is_within (show c_is_within = callS 3 s_is_within from rfl) rfl rfl fun cdv A outer s0 H E hr => by
    have tk : Takes (cxOf (L2.CX P k.w) P k.w k.K mg base ["value", "least", "most"] "is_within" (defScope st_is_within) a.f_is_within cdv A outer s0 H E) (fun c d _ H' => E c d H') := takes_of rfl rfl rfl rfl
    exact (ms_one (ms_ret (me_and (me_callP (ok_is_integer T) (hr.mono (by decide)) (by rfl) T.g_is_integer T.F_is_integer.kp T.b_is_integer .nil (fun _ _ => rl_nil) tk (ma_cons (me_var 0 (pv 0)) ma_nil)) (me_one (me_ch (cu_le) (cu_le) (me_var 1 (pv 1)) (me_var 0 (pv 0)) (me_var 2 (pv 2)))))))
theorem ok_is_word (T : Tx P k mg a) : FnOk P k.w k.K mg base (L2.CX P k.w) 1 a.f_is_word a.d_is_word ["value", "words"] (spM k 2 c_is_word) :=
  ok_def (j := 0) (s := s_is_word) T.F_is_word sc_is_word (show c_is_word = callS 2 s_is_word from rfl) rfl rfl fun cdv A outer s0 H E hr => by
    have tk : Takes (cxOf (L2.CX P k.w) P k.w k.K mg base ["value", "words"] "is_word" (defScope st_is_word) a.f_is_word cdv A outer s0 H E) (fun c d _ H' => E c d H') := takes_of rfl rfl rfl rfl
    exact (ms_one (ms_ret (me_and (me_isi (.ty "str") (isiT_ok (by decide +kernel)) (fun _ _ h => nomatch h) (by rfl) T.z_isinstance (me_var 0 (pv 0)) (pe_bltn (by rfl) T.z_str (by decide +kernel) rfl)) (me_one (me_cu (cu_in) (me_var 0 (pv 0)) (me_var 1 (pv 1)))))))
theorem ok_need (T : Tx P k mg a) : FnOk P k.w k.K mg base (L2.CX P k.w) 2 a.f_need a.d_need ["word", "is_right"] (spM k 2 c_need) :=
  ok_def (j := 1) (s := s_need) T.F_need sc_need (show c_need = callS 2 s_need from rfl) rfl rfl fun cdv A outer s0 H E hr => by
    have tk : Takes (cxOf (L2.CX P k.w) P k.w k.K mg base ["word", "is_right"] "need" (defScope st_need) a.f_need cdv A outer s0 H E) (fun c d _ H' => E c d H') := takes_of rfl rfl rfl rfl
    exact (ms_one (ms_if (mt_not (mt_val (me_var 1 (pv 1)))) (ms_one (T.R_InvalidCall |> fun ⟨_, hR⟩ => ms_raise (c := "InvalidCall") hR rfl tk (hr.mono (by decide)) (by rfl) T.g_InvalidCall (ma_cons (me_var 0 (pv 0)) ma_nil))) ms_nil))
theorem ok_Call_init (T : Tx P k mg a) : FnOk P k.w k.K mg base (L2.CX P k.w) 3 a.f_Call_init a.d_Call_init ["self", "name", "distance", "length", "busy", "least", "joins"] (spM k 7 c_Call_init) :=
  ok_defD (j := 2) (s := s_Call_init) T.F_Call_init sc_Call_init (show c_Call_init = callS 7 s_Call_init from rfl) rfl rfl fun cdv A outer s0 H E hr => by
    have tk : Takes (cxOf (L2.CX P k.w) P k.w k.K mg base ["self", "name", "distance", "length", "busy", "least", "joins"] "Call.__init__" (defScope st_Call_init) a.f_Call_init cdv A outer s0 H E) (fun c d _ H' => E c d H') := takes_of rfl rfl rfl rfl
    exact (ms_cons (ms_expr (me_callP (ok_need T) (hr.mono (by decide)) (by rfl) T.g_need T.F_need.kp T.b_need .nil (fun _ _ => rl_nil) tk (ma_cons me_str (ma_cons (me_callP (ok_is_name T) (hr.mono (by decide)) (by rfl) T.g_is_name T.F_is_name.kp T.b_is_name .nil (fun _ _ => rl_nil) tk (ma_cons (me_var 1 (pv 1)) ma_nil)) ma_nil))))
      (ms_cons (ms_expr (me_callP (ok_need T) (hr.mono (by decide)) (by rfl) T.g_need T.F_need.kp T.b_need .nil (fun _ _ => rl_nil) tk (ma_cons me_str (ma_cons (me_callP (ok_is_within T) (hr.mono (by decide)) (by rfl) T.g_is_within T.F_is_within.kp T.b_is_within .nil (fun _ _ => rl_nil) tk (ma_cons (me_var 2 (pv 2)) (ma_cons me_int (ma_cons (T.c_GREATEST_DISTANCE |> fun ⟨_, _, h1, h2, h3⟩ => me_glob (by rfl) h1 h2 h3) ma_nil)))) ma_nil))))
      (ms_cons (ms_expr (me_callP (ok_need T) (hr.mono (by decide)) (by rfl) T.g_need T.F_need.kp T.b_need .nil (fun _ _ => rl_nil) tk (ma_cons me_str (ma_cons (me_callP (ok_is_within T) (hr.mono (by decide)) (by rfl) T.g_is_within T.F_is_within.kp T.b_is_within .nil (fun _ _ => rl_nil) tk (ma_cons (me_var 3 (pv 3)) (ma_cons me_int (ma_cons (T.c_GREATEST_LENGTH |> fun ⟨_, _, h1, h2, h3⟩ => me_glob (by rfl) h1 h2 h3) ma_nil)))) ma_nil))))
      (ms_cons (ms_expr (me_callP (ok_need T) (hr.mono (by decide)) (by rfl) T.g_need T.F_need.kp T.b_need .nil (fun _ _ => rl_nil) tk (ma_cons me_str (ma_cons (me_callP (ok_is_word T) (hr.mono (by decide)) (by rfl) T.g_is_word T.F_is_word.kp T.b_is_word .nil (fun _ _ => rl_nil) tk (ma_cons (me_var 4 (pv 4)) (ma_cons (T.c_BUSY |> fun ⟨_, _, h1, h2, h3⟩ => me_glob (by rfl) h1 h2 h3) ma_nil))) ma_nil))))
      (ms_cons (ms_expr (me_callP (ok_need T) (hr.mono (by decide)) (by rfl) T.g_need T.F_need.kp T.b_need .nil (fun _ _ => rl_nil) tk (ma_cons me_str (ma_cons (me_callP (ok_is_within T) (hr.mono (by decide)) (by rfl) T.g_is_within T.F_is_within.kp T.b_is_within .nil (fun _ _ => rl_nil) tk (ma_cons (me_var 5 (pv 5)) (ma_cons me_int (ma_cons (T.c_GREATEST_LEAST |> fun ⟨_, _, h1, h2, h3⟩ => me_glob (by rfl) h1 h2 h3) ma_nil)))) ma_nil))))
      (ms_cons (ms_expr (me_callP (ok_need T) (hr.mono (by decide)) (by rfl) T.g_need T.F_need.kp T.b_need .nil (fun _ _ => rl_nil) tk (ma_cons me_str (ma_cons (me_callP (ok_is_within T) (hr.mono (by decide)) (by rfl) T.g_is_within T.F_is_within.kp T.b_is_within .nil (fun _ _ => rl_nil) tk (ma_cons (me_var 6 (pv 6)) (ma_cons me_int (ma_cons (T.c_GREATEST_JOINS |> fun ⟨_, _, h1, h2, h3⟩ => me_glob (by rfl) h1 h2 h3) ma_nil)))) ma_nil))))
      (ms_cons (ms_fld (ownL_cons ⟨T.K_Call.t.cl, T.n_Call_name⟩ ownL_nil) (me_var 0 (pv 0)) (me_var 1 (pv 1)))
      (ms_cons (ms_fld (ownL_cons ⟨T.K_Call.t.cl, T.n_Call_distance⟩ ownL_nil) (me_var 0 (pv 0)) (me_var 2 (pv 2)))
      (ms_cons (ms_fld (ownL_cons ⟨T.K_Call.t.cl, T.n_Call_length⟩ ownL_nil) (me_var 0 (pv 0)) (me_var 3 (pv 3)))
      (ms_cons (ms_fld (ownL_cons ⟨T.K_Call.t.cl, T.n_Call_busy⟩ ownL_nil) (me_var 0 (pv 0)) (me_var 4 (pv 4)))
      (ms_cons (ms_fld (ownL_cons ⟨T.K_Call.t.cl, T.n_Call_least⟩ ownL_nil) (me_var 0 (pv 0)) (me_var 5 (pv 5)))
      (ms_one (ms_fld (ownL_cons ⟨T.K_Call.t.cl, T.n_Call_joins⟩ ownL_nil) (me_var 0 (pv 0)) (me_var 6 (pv 6)))))))))))))))
theorem ok_number_in (T : Tx P k mg a) : FnOk P k.w k.K mg base (L2.CX P k.w) 1 a.f_number_in a.d_number_in ["word"] (spM k 1 c_number_in) :=
  ok_def (j := 0) (s := s_number_in) T.F_number_in sc_number_in (show c_number_in = callS 2 s_number_in from rfl) rfl rfl fun cdv A outer s0 H E hr => by
    have tk : Takes (cxOf (L2.CX P k.w) P k.w k.K mg base ["word", "digit"] "number_in" (defScope st_number_in) a.f_number_in cdv A outer s0 H E) (fun c d _ H' => E c d H') := takes_of rfl rfl rfl rfl
    exact (ms_cons (ms_if (PW.pt (mw_or (mt_not (mt_ch (cu_lt) (cu_le) me_int (me_cb (cu_len) (by rfl) T.z_len PySem.boot_len (ma_cons (me_var 0 (pv 0)) ma_nil)) (T.c_MOST_DIGITS |> fun ⟨_, _, h1, h2, h3⟩ => me_glob (by rfl) h1 h2 h3))) (mw_or1 (mt_not (mt_val (me_cb (cu_all rfl) (by rfl) T.z_all (by decide +kernel) (ma_cons (me_comp (t := (.name 1)) (own := [("digit", 1)]) (by decide) (pe_lc (own := [("digit", 1)]) (g := gT _ (.name 1)) rfl sc_number_in.nd (mi_still (me_var 0 (pv 0))) (blkOk_by (own := [("digit", 1)]) (N := ["word", "digit"]) (sc := defScope st_number_in) (by decide +kernel)) (fun _ _ _ _ _ => (pg_name (i := 1) sc_number_in.nd rfl (by first | exact Or.inl rfl | exact Or.inr rfl))) (fun _ _ _ _ _ => mts_nil) (fun _ _ _ _ _ => (me_cu (cu_in) (me_var 1 (pv 1)) (T.c_DIGITS |> fun ⟨_, _, h1, h2, h3⟩ => me_glob (by rfl) h1 h2 h3))))) ma_nil))))))) (ms_one (ms_ret me_non)) ms_nil)
      (ms_one (ms_ret (me_if (PW.pt (mw_or (mt_cu (cu_eq hr) (me_var 0 (pv 0)) me_str) (mw_or1 (mt_cu (cu_ne hr) (me_idx (me_var 0 (pv 0)) me_int (fun _ _ => rfl)) me_str)))) (me_ct (cu_int) (by rfl) T.z_int (by decide +kernel) (ma_cons (me_var 0 (pv 0)) ma_nil)) me_non))))
theorem ok_call_in (T : Tx P k mg a) : FnOk P k.w k.K mg base (L2.CX P k.w) 5 a.f_call_in a.d_call_in ["text"] (spM k 1 c_call_in) :=
  ok_def (j := 4) (s := s_call_in) T.F_call_in sc_call_in (show c_call_in = callS 4 s_call_in from rfl) rfl rfl fun cdv A outer s0 H E hr => by
    have tk : Takes (cxOf (L2.CX P k.w) P k.w k.K mg base ["text", "words", "numbers", "word"] "call_in" (defScope st_call_in) a.f_call_in cdv A outer s0 H E) (fun c d _ H' => E c d H') := takes_of rfl rfl rfl rfl
    exact (ms_cons (ms_set (i := 1) sc_call_in.nd rfl (by first | exact Or.inl rfl | exact Or.inr rfl) (me_split (me_var 0 (pv 0)) me_str))
      (ms_cons (ms_if (mt_cu (cu_ne hr) (me_cb (cu_len) (by rfl) T.z_len PySem.boot_len (ma_cons (me_var 1 (pv 1)) ma_nil)) me_int) (ms_one (ms_ret me_non)) ms_nil)
      (ms_cons (ms_comp (i := 2) (elt := .Constant .none 0 ⟨0,0,0,0⟩) (tg := .Constant .none 0 ⟨0,0,0,0⟩) (iter := .Constant .none 0 ⟨0,0,0,0⟩) (ifs := []) (scope := defScope st_call_in) (t := (.name 3)) (own := [("word", 3)]) (by decide) (ps_setLc (i := 2) (own := [("word", 3)]) (g := gT _ (.name 3)) rfl sc_call_in.nd rfl rfl (sw_true rfl rfl rfl (by decide +kernel)) (mi_still (me_lst (ma_cons (me_idx (me_var 1 (pv 1)) me_int (fun _ _ => rfl)) (ma_cons (me_idx (me_var 1 (pv 1)) me_int (fun _ _ => rfl)) (ma_cons (me_idx (me_var 1 (pv 1)) me_int (fun _ _ => rfl)) (ma_cons (me_idx (me_var 1 (pv 1)) me_int (fun _ _ => rfl)) ma_nil)))))) (blkOk_by (own := [("word", 3)]) (N := ["text", "words", "numbers", "word"]) (sc := defScope st_call_in) (by decide +kernel)) (fun _ _ _ _ _ => (pg_name (i := 3) sc_call_in.nd rfl (by first | exact Or.inl rfl | exact Or.inr rfl))) (fun _ _ _ _ _ => mts_nil) (fun _ _ _ _ _ => (me_callP (ok_number_in T) (hr.mono (by decide)) (by rfl) T.g_number_in T.F_number_in.kp T.b_number_in .nil (fun _ _ => rl_nil) takes0 (ma_cons (me_var 3 (pv 3)) ma_nil)))))
      (ms_cons (ms_if (mt_cu (cu_in) me_non (me_var 2 (pv 2))) (ms_one (ms_ret me_non)) ms_nil)
      (ms_one (ms_tryN rfl rfl ⟨by rfl, by decide, .inl T.g_InvalidCall⟩ tk (ownT_cons T.x_InvalidCall_InvalidCall ownT_nil) (fun _ _ _ tk _ => (ms_one (ms_ret (T.b7_Call_init |> fun ⟨_, hv7, hb7⟩ => (me_makeP (c := "Call") T.M_Call (ok_Call_init T) (hr.mono (by decide)) (by rfl) T.g_Call hb7 hv7 (fun _ _ => rl_nil) tk (ma_cons (me_idx (me_var 1 (pv 1)) me_int (fun _ _ => rfl)) (ma_cons (me_idx (me_var 2 (pv 2)) me_int (fun _ _ => rfl)) (ma_cons (me_idx (me_var 2 (pv 2)) me_int (fun _ _ => rfl)) (ma_cons (me_idx (me_var 1 (pv 1)) me_int (fun _ _ => rfl)) (ma_cons (me_idx (me_var 2 (pv 2)) me_int (fun _ _ => rfl)) (ma_cons (me_idx (me_var 2 (pv 2)) me_int (fun _ _ => rfl)) ma_nil))))))))))) (fun _ _ _ _ => (ms_one (ms_ret me_non)))))))))
theorem ok_Voice_read (T : Tx P k mg a) : FnOk P k.w k.K mg base (L2.CX P k.w) 6 a.f_Voice_read a.d_Voice_read ["cls", "text"] (spM k 2 c_Voice_read) :=
  ok_def (j := 5) (s := s_Voice_read) T.F_Voice_read sc_Voice_read (show c_Voice_read = callS 6 s_Voice_read from rfl) rfl rfl fun cdv A outer s0 H E hr => by
    have tk : Takes (cxOf (L2.CX P k.w) P k.w k.K mg base ["cls", "text", "found", "at", "call", "line"] "Voice.read" (defScope st_Voice_read) a.f_Voice_read cdv A outer s0 H E) (fun c d _ H' => E c d H') := takes_of rfl rfl rfl rfl
    exact (ms_cons (ms_comp (i := 2) (elt := .Constant .none 0 ⟨0,0,0,0⟩) (tg := .Constant .none 0 ⟨0,0,0,0⟩) (iter := .Constant .none 0 ⟨0,0,0,0⟩) (ifs := []) (scope := defScope st_Voice_read) (t := (.name 5)) (own := [("line", 5)]) (by decide) (ps_setLc (i := 2) (own := [("line", 5)]) (g := gT _ (.name 5)) rfl sc_Voice_read.nd rfl rfl (sw_true rfl rfl rfl (by decide +kernel)) (mi_still (me_split (me_var 1 (pv 1)) me_str)) (blkOk_by (own := [("line", 5)]) (N := ["cls", "text", "found", "at", "call", "line"]) (sc := defScope st_Voice_read) (by decide +kernel)) (fun _ _ _ _ _ => (pg_name (i := 5) sc_Voice_read.nd rfl (by first | exact Or.inl rfl | exact Or.inr rfl))) (fun _ _ _ _ _ => mts_nil) (fun _ _ _ _ _ => (me_callP (ok_call_in T) (hr.mono (by decide)) (by rfl) T.g_call_in T.F_call_in.kp T.b_call_in .nil (fun _ _ => rl_nil) takes0 (ma_cons (me_var 5 (pv 5)) ma_nil)))))
      (ms_cons (ms_for (t := (.tup [.name 3, .name 4])) (passes_of rfl) rfl (mi_enum (by rfl) T.z_enumerate (ma_cons (me_var 2 (pv 2)) ma_nil)) (pg_tup rfl (pgs_cons (pg_name (i := 3) sc_Voice_read.nd rfl (by first | exact Or.inl rfl | exact Or.inr rfl)) (pgs_cons (pg_name (i := 4) sc_Voice_read.nd rfl (by first | exact Or.inl rfl | exact Or.inr rfl)) pgs_nil))) (ms_one (ms_if (mt_cu (cu_is) (me_var 4 (pv 4)) me_non) (ms_one (T.R_InvalidText |> fun ⟨_, hR⟩ => ms_raise (c := "InvalidText") hR rfl tk (hr.mono (by decide)) (by rfl) T.g_InvalidText (ma_cons (me_var 3 (pv 3)) ma_nil))) ms_nil)))
      (ms_one (ms_ret (me_makeL (i := 0) (c := "Voice") (pv 0) T.M_Voice (ok_Voice_init T) (hr.mono (by decide)) T.b_Voice_init .nil (fun _ _ => rl_nil) tk (ma_cons (me_var 2 (pv 2)) ma_nil))))))
theorem ok_l_number (T : Tx P k mg a) : FnOk P k.w k.K mg base (L2.CX P k.w) 1 a.f_l_number a.d_l_number ["_law_script", "_law_zturn"] (spM k 2 c_l_number) :=
  ok_def (j := 0) (s := s_l_number) T.F_l_number sc_l_number (show c_l_number = callS 4 s_l_number from rfl) rfl rfl fun cdv A outer s0 H E hr => by
    have tk : Takes (cxOf (L2.CX P k.w) P k.w k.K mg base ["_law_script", "_law_zturn", "_law_znumber", "_law_zcell"] "_law_number" (defScope st_l_number) a.f_l_number cdv A outer s0 H E) (fun c d _ H' => E c d H') := takes_of rfl rfl rfl rfl
    exact (ms_cons (ms_set (i := 2) sc_l_number.nd rfl (by first | exact Or.inl rfl | exact Or.inr rfl) (me_add me_int (me_mul me_int (me_var 1 (pv 1)))))
      (ms_cons (ms_for (t := (.name 3)) (passes_of rfl) rfl (mi_still (me_slice (me_var 0 (pv 0)) mo_none (mo_some me_int))) (pg_name (i := 3) sc_l_number.nd rfl (by first | exact Or.inl rfl | exact Or.inr rfl)) (ms_one (ms_set (i := 2) sc_l_number.nd rfl (by first | exact Or.inl rfl | exact Or.inr rfl) (me_mod (me_ct (cu_int) (by rfl) T.z_int (by decide +kernel) (ma_cons (me_add (me_add (me_mul (me_var 2 (pv 2)) me_int) (me_mod (me_ct (cu_int) (by rfl) T.z_int (by decide +kernel) (ma_cons (me_cb (cu_abs) (by rfl) T.z_abs PyProof.Rows.boot_abs (ma_cons (me_var 3 (pv 3)) ma_nil)) ma_nil)) me_int)) (me_var 1 (pv 1))) ma_nil)) me_int))))
      (ms_one (ms_ret (me_mod (me_ct (cu_int) (by rfl) T.z_int (by decide +kernel) (ma_cons (me_fdiv (me_var 2 (pv 2)) me_int) ma_nil)) me_int)))))
theorem ok_Walk_take (T : Tx P k mg a) : FnOk P k.w k.K mg base (L2.CX P k.w) 1 a.f_Walk_take a.d_Walk_take ["self", "follow", "ahead"] (spM k 3 c_Walk_take) :=
  ok_def (j := 0) (s := s_Walk_take) T.F_Walk_take sc_Walk_take (show c_Walk_take = callS 3 s_Walk_take from rfl) rfl rfl fun cdv A outer s0 H E hr => by
    have tk : Takes (cxOf (L2.CX P k.w) P k.w k.K mg base ["self", "follow", "ahead"] "Walk.take" (defScope st_Walk_take) a.f_Walk_take cdv A outer s0 H E) (fun c d _ H' => E c d H') := takes_of rfl rfl rfl rfl
    exact (ms_one (ms_if (mt_dnotin hr (me_fld (ownL_cons ⟨T.K_Follow.t.cl, T.n_Follow_later⟩ ownL_nil) (me_var 1 (pv 1))) (me_fld (ownL_cons ⟨T.K_Walk.t.cl, T.n_Walk_came_by⟩ ownL_nil) (me_var 0 (pv 0)))) (ms_cons (ms_dput hr (me_fld (ownL_cons ⟨T.K_Walk.t.cl, T.n_Walk_came_by⟩ ownL_nil) (me_var 0 (pv 0))) (me_fld (ownL_cons ⟨T.K_Follow.t.cl, T.n_Follow_later⟩ ownL_nil) (me_var 1 (pv 1))) (me_tup (ma_cons (me_var 1 (pv 1)) (ma_cons (me_var 2 (pv 2)) ma_nil))))
      (ms_one (ms_expr (me_append (ma := stuck) (me_fld (ownL_cons ⟨T.K_Walk.t.cl, T.n_Walk_order⟩ ownL_nil) (me_var 0 (pv 0))) (ma_cons (me_fld (ownL_cons ⟨T.K_Follow.t.cl, T.n_Follow_later⟩ ownL_nil) (me_var 1 (pv 1))) ma_nil) (pe_bm PySem.F.plainAttrs_list PySem.F.slot_list_append PySem.F.type_list_append mt_append (me_fld (ownL_cons ⟨T.K_Walk.t.cl, T.n_Walk_order⟩ ownL_nil) (me_var 0 (pv 0))) (ma_cons (me_fld (ownL_cons ⟨T.K_Follow.t.cl, T.n_Follow_later⟩ ownL_nil) (me_var 1 (pv 1))) ma_nil)))))) ms_nil))
theorem ok_Follow_init (T : Tx P k mg a) : FnOk P k.w k.K mg base (L2.CX P k.w) 1 a.f_Follow_init a.d_Follow_init ["self", "word", "chosen", "is_near", "later"] (spM k 5 c_Follow_init) :=
  ok_def (j := 0) (s := s_Follow_init) T.F_Follow_init sc_Follow_init (show c_Follow_init = callS 5 s_Follow_init from rfl) rfl rfl fun cdv A outer s0 H E hr => by
    have tk : Takes (cxOf (L2.CX P k.w) P k.w k.K mg base ["self", "word", "chosen", "is_near", "later"] "Follow.__init__" (defScope st_Follow_init) a.f_Follow_init cdv A outer s0 H E) (fun c d _ H' => E c d H') := takes_of rfl rfl rfl rfl
    exact (ms_cons (ms_fld (ownL_cons ⟨T.K_Follow.t.cl, T.n_Follow_word⟩ ownL_nil) (me_var 0 (pv 0)) (me_var 1 (pv 1)))
      (ms_cons (ms_fld (ownL_cons ⟨T.K_Follow.t.cl, T.n_Follow_chosen⟩ ownL_nil) (me_var 0 (pv 0)) (me_var 2 (pv 2)))
      (ms_cons (ms_fld (ownL_cons ⟨T.K_Follow.t.cl, T.n_Follow_is_near⟩ ownL_nil) (me_var 0 (pv 0)) (me_var 3 (pv 3)))
      (ms_cons (ms_fld (ownL_cons ⟨T.K_Follow.t.cl, T.n_Follow_later⟩ ownL_nil) (me_var 0 (pv 0)) (me_var 4 (pv 4)))
      (ms_cons (ms_fld (ownL_cons ⟨T.K_Follow.t.cl, T.n_Follow_wrong⟩ ownL_nil) (me_var 0 (pv 0)) (me_tup ma_nil))
      (ms_one (ms_fld (ownL_cons ⟨T.K_Follow.t.cl, T.n_Follow_said⟩ ownL_nil) (me_var 0 (pv 0)) me_non)))))))
theorem ok_open_leg (T : Tx P k mg a) : FnOk P k.w k.K mg base (L2.CX P k.w) 1 a.f_open_leg a.d_open_leg ["leg"] (spM k 1 c_open_leg) :=
  ok_def (j := 0) (s := s_open_leg) T.F_open_leg sc_open_leg (show c_open_leg = callS 1 s_open_leg from rfl) rfl rfl fun cdv A outer s0 H E hr => by
    have tk : Takes (cxOf (L2.CX P k.w) P k.w k.K mg base ["leg"] "open_leg" (defScope st_open_leg) a.f_open_leg cdv A outer s0 H E) (fun c d _ H' => E c d H') := takes_of rfl rfl rfl rfl
    exact (ms_one (ms_ret (me_cb (cu_max2 rfl) (by rfl) T.z_max (by decide +kernel) (ma_cons (me_add (T.c_LONGEST |> fun ⟨_, _, h1, h2, h3⟩ => me_glob (by rfl) h1 h2 h3) me_int) (ma_cons (me_var 0 (pv 0)) ma_nil)))))
theorem ok_turn_at (T : Tx P k mg a) : FnOk P k.w k.K mg base (L2.CX P k.w) 1 a.f_turn_at a.d_turn_at ["voice", "distance", "is_open", "leg"] (spM k 4 c_turn_at) :=
  ok_def (j := 0) (s := s_turn_at) T.F_turn_at sc_turn_at (show c_turn_at = callS 7 s_turn_at from rfl) rfl rfl fun cdv A outer s0 H E hr => by
    have tk : Takes (cxOf (L2.CX P k.w) P k.w k.K mg base ["voice", "distance", "is_open", "leg", "left", "number", "call"] "turn_at" (defScope st_turn_at) a.f_turn_at cdv A outer s0 H E) (fun c d _ H' => E c d H') := takes_of rfl rfl rfl rfl
    exact (ms_cons (ms_set (i := 4) sc_turn_at.nd rfl (by first | exact Or.inl rfl | exact Or.inr rfl) (me_ct (cu_tuple) (by rfl) T.z_tuple (by decide +kernel) (ma_cons (me_comp (t := (.tup [.name 5, .name 6])) (own := [("number", 5), ("call", 6)]) (by decide) (pe_lc (own := [("number", 5), ("call", 6)]) (g := gT _ (.tup [.name 5, .name 6])) rfl sc_turn_at.nd (mi_enum (by rfl) T.z_enumerate (ma_cons (me_fld (ownL_cons ⟨T.K_Voice.t.cl, T.n_Voice_calls⟩ ownL_nil) (me_var 0 (pv 0))) ma_nil)) (blkOk_by (own := [("number", 5), ("call", 6)]) (N := ["voice", "distance", "is_open", "leg", "left", "number", "call"]) (sc := defScope st_turn_at) (by decide +kernel)) (fun _ _ _ _ _ => (pg_tup rfl (pgs_cons (pg_name (i := 5) sc_turn_at.nd rfl (by first | exact Or.inl rfl | exact Or.inr rfl)) (pgs_cons (pg_name (i := 6) sc_turn_at.nd rfl (by first | exact Or.inl rfl | exact Or.inr rfl)) pgs_nil)))) (fun _ _ _ _ _ => pts_one (mt_cu (cu_le) (me_fld (ownL_cons ⟨T.K_Call.t.cl, T.n_Call_least⟩ ownL_nil) (me_var 6 (pv 6))) (me_var 3 (pv 3)))) (fun _ _ _ _ _ => (me_var 5 (pv 5))))) ma_nil)))
      (ms_one (ms_ret (me_tup (ma_cons (me_var 1 (pv 1)) (ma_cons (me_var 2 (pv 2)) (ma_cons (me_var 4 (pv 4)) (ma_cons me_bl ma_nil))))))))
theorem ok_extended (T : Tx P k mg a) : FnOk P k.w k.K mg base (L2.CX P k.w) 2 a.f_extended a.d_extended ["voice", "state", "leg", "reach"] (spM k 4 c_extended) :=
  ok_pureF (c := callS 13 s_extended) (ok_def (j := 1) (s := s_extended) T.F_extended sc_extended rfl rfl rfl fun cdv A outer s0 H E hr => by
    have tk : Takes (cxOf (L2.CX P k.w) P k.w k.K mg base ["voice", "state", "leg", "reach", "waiting", "found", "last", "longer", "turn", "chosen", "ahead", "speech", "calls"] "extended" (defScope st_extended) a.f_extended cdv A outer s0 H E) (fun c d _ H' => E c d H') := takes_of rfl rfl rfl rfl
    exact (ms_cons (impS (ps_par (i := 4) (j := 5) rfl sc_extended.nd rfl rfl (by decide) rfl rfl (ma_cons (me_lstM (ma_cons (me_tup (ma_cons (me_var 1 (pv 1)) (ma_cons (me_tup ma_nil) ma_nil))) ma_nil)) (ma_cons (me_lstM ma_nil) ma_nil)) (by first | rfl | kernel_rfl)) fun _ _ _ h => par_read h)
      (ms_cons (ms_while 1000 (passes_of rfl) (mt_cu (cu_gt) (me_cb (cu_len) (by rfl) T.z_len PySem.boot_len (ma_cons (me_var 4 (pv 4)) ma_nil)) me_int) (ms_cons (ms_setT (t := (.tup [.tup [.name 10, .name 11, .name 12], .name 9])) (me_popAt (ma := stuck) (me_var 4 (pv 4)) (ma_cons me_int ma_nil) (pe_bm PySem.F.plainAttrs_list PySem.F.slot_list_pop PySem.F.type_list_pop mt_popAt (me_var 4 (pv 4)) (ma_cons me_int ma_nil))) (pg_tup rfl (pgs_cons (pg_tup rfl (pgs_cons (pg_name (i := 10) sc_extended.nd rfl (by first | exact Or.inl rfl | exact Or.inr rfl)) (pgs_cons (pg_name (i := 11) sc_extended.nd rfl (by first | exact Or.inl rfl | exact Or.inr rfl)) (pgs_cons (pg_name (i := 12) sc_extended.nd rfl (by first | exact Or.inl rfl | exact Or.inr rfl)) pgs_nil)))) (pgs_cons (pg_name (i := 9) sc_extended.nd rfl (by first | exact Or.inl rfl | exact Or.inr rfl)) pgs_nil))) (ps_asg (me_popAt (ma := stuck) (me_var 4 (pv 4)) (ma_cons me_int ma_nil) (pe_bm PySem.F.plainAttrs_list PySem.F.slot_list_pop PySem.F.type_list_pop mt_popAt (me_var 4 (pv 4)) (ma_cons me_int ma_nil))) (pg_tup rfl (pgs_cons (pg_tup rfl (pgs_cons (pg_name (i := 10) sc_extended.nd rfl (by first | exact Or.inl rfl | exact Or.inr rfl)) (pgs_cons (pg_name (i := 11) sc_extended.nd rfl (by first | exact Or.inl rfl | exact Or.inr rfl)) (pgs_cons (pg_name (i := 12) sc_extended.nd rfl (by first | exact Or.inl rfl | exact Or.inr rfl)) pgs_nil)))) (pgs_cons (pg_name (i := 9) sc_extended.nd rfl (by first | exact Or.inl rfl | exact Or.inr rfl)) pgs_nil)))))
      (ms_cons (ms_set (i := 6) sc_extended.nd rfl (by first | exact Or.inl rfl | exact Or.inr rfl) (me_if (mt_cu (cu_gt) (me_cb (cu_len) (by rfl) T.z_len PySem.boot_len (ma_cons (me_var 10 (pv 10)) ma_nil)) me_int) (me_idx (me_idx (me_var 10 (pv 10)) (me_neg me_int) (fun _ _ => rfl)) me_int (fun _ _ => rfl)) me_int))
      (ms_cons (ms_if (mt_cu (cu_gt) (me_var 6 (pv 6)) (me_var 3 (pv 3))) (ms_cons (ms_expr (me_append (ma := stuck) (me_var 5 (pv 5)) (ma_cons (me_tup (ma_cons (me_tup (ma_cons (me_var 10 (pv 10)) (ma_cons (me_var 11 (pv 11)) (ma_cons (me_var 12 (pv 12)) ma_nil)))) (ma_cons (me_var 9 (pv 9)) ma_nil))) ma_nil) (pe_bm PySem.F.plainAttrs_list PySem.F.slot_list_append PySem.F.type_list_append mt_append (me_var 5 (pv 5)) (ma_cons (me_tup (ma_cons (me_tup (ma_cons (me_var 10 (pv 10)) (ma_cons (me_var 11 (pv 11)) (ma_cons (me_var 12 (pv 12)) ma_nil)))) (ma_cons (me_var 9 (pv 9)) ma_nil))) ma_nil))))
      (ms_one ms_cont)) ms_nil)
      (ms_cons (ms_for (t := (.name 7)) (passes_of rfl) rfl (mi_range2 (pi_range2 (by rfl) T.z_range (ma_cons (me_var 2 (pv 2)) (ma_cons (me_add (T.c_LONGEST |> fun ⟨_, _, h1, h2, h3⟩ => me_glob (by rfl) h1 h2 h3) me_int) ma_nil)))) (pg_name (i := 7) sc_extended.nd rfl (by first | exact Or.inl rfl | exact Or.inr rfl)) (ms_cons (ms_set (i := 8) sc_extended.nd rfl (by first | exact Or.inl rfl | exact Or.inr rfl) (me_callP (ok_turn_at T) (hr.mono (by decide)) (by rfl) T.g_turn_at T.F_turn_at.kp T.b_turn_at .nil (fun _ _ => rl_nil) tk (ma_cons (me_var 0 (pv 0)) (ma_cons (me_add (me_var 6 (pv 6)) (me_var 7 (pv 7))) (ma_cons me_bl (ma_cons (me_var 7 (pv 7)) ma_nil))))))
      (ms_one (ms_expr (me_append (ma := stuck) (me_var 4 (pv 4)) (ma_cons (me_tup (ma_cons (me_tup (ma_cons (me_tup (ma_star (me_var 10 (pv 10)) (ma_cons (me_var 8 (pv 8)) ma_nil))) (ma_cons (me_var 11 (pv 11)) (ma_cons (me_var 12 (pv 12)) ma_nil)))) (ma_cons (me_tup (ma_star (me_var 9 (pv 9)) (ma_cons (me_var 7 (pv 7)) ma_nil))) ma_nil))) ma_nil) (pe_bm PySem.F.plainAttrs_list PySem.F.slot_list_append PySem.F.type_list_append mt_append (me_var 4 (pv 4)) (ma_cons (me_tup (ma_cons (me_tup (ma_cons (me_tup (ma_star (me_var 10 (pv 10)) (ma_cons (me_var 8 (pv 8)) ma_nil))) (ma_cons (me_var 11 (pv 11)) (ma_cons (me_var 12 (pv 12)) ma_nil)))) (ma_cons (me_tup (ma_star (me_var 9 (pv 9)) (ma_cons (me_var 7 (pv 7)) ma_nil))) ma_nil))) ma_nil)))))))
      (ms_cons (ms_set (i := 8) sc_extended.nd rfl (by first | exact Or.inl rfl | exact Or.inr rfl) (me_callP (ok_turn_at T) (hr.mono (by decide)) (by rfl) T.g_turn_at T.F_turn_at.kp T.b_turn_at .nil (fun _ _ => rl_nil) tk (ma_cons (me_var 0 (pv 0)) (ma_cons (me_add (me_var 6 (pv 6)) (me_callP (ok_open_leg T) (hr.mono (by decide)) (by rfl) T.g_open_leg T.F_open_leg.kp T.b_open_leg .nil (fun _ _ => rl_nil) tk (ma_cons (me_var 2 (pv 2)) ma_nil))) (ma_cons me_bl (ma_cons (me_callP (ok_open_leg T) (hr.mono (by decide)) (by rfl) T.g_open_leg T.F_open_leg.kp T.b_open_leg .nil (fun _ _ => rl_nil) tk (ma_cons (me_var 2 (pv 2)) ma_nil)) ma_nil))))))
      (ms_one (ms_expr (me_append (ma := stuck) (me_var 4 (pv 4)) (ma_cons (me_tup (ma_cons (me_tup (ma_cons (me_tup (ma_star (me_var 10 (pv 10)) (ma_cons (me_var 8 (pv 8)) ma_nil))) (ma_cons (me_var 11 (pv 11)) (ma_cons (me_var 12 (pv 12)) ma_nil)))) (ma_cons (me_tup (ma_star (me_var 9 (pv 9)) (ma_cons me_int ma_nil))) ma_nil))) ma_nil) (pe_bm PySem.F.plainAttrs_list PySem.F.slot_list_append PySem.F.type_list_append mt_append (me_var 4 (pv 4)) (ma_cons (me_tup (ma_cons (me_tup (ma_cons (me_tup (ma_star (me_var 10 (pv 10)) (ma_cons (me_var 8 (pv 8)) ma_nil))) (ma_cons (me_var 11 (pv 11)) (ma_cons (me_var 12 (pv 12)) ma_nil)))) (ma_cons (me_tup (ma_star (me_var 9 (pv 9)) (ma_cons me_int ma_nil))) ma_nil))) ma_nil)))))))))))
      (ms_one (ms_ret (me_var 5 (pv 5)))))))
theorem ok_beginnings (T : Tx P k mg a) : FnOk P k.w k.K mg base (L2.CX P k.w) 3 a.f_beginnings a.d_beginnings ["voice", "leg", "reach"] (spM k 3 c_beginnings) :=
  ok_pureF (c := callS 5 s_beginnings) (ok_def (j := 2) (s := s_beginnings) T.F_beginnings sc_beginnings rfl rfl rfl fun cdv A outer s0 H E hr => by
    have tk : Takes (cxOf (L2.CX P k.w) P k.w k.K mg base ["voice", "leg", "reach", "later", "chosen"] "beginnings" (defScope st_beginnings) a.f_beginnings cdv A outer s0 H E) (fun c d _ H' => E c d H') := takes_of rfl rfl rfl rfl
    exact (ms_one (ms_ret (me_comp (t := (.tup [.name 3, .name 4])) (own := [("later", 3), ("chosen", 4)]) (by decide) (pe_lc (own := [("later", 3), ("chosen", 4)]) (g := gT _ (.tup [.name 3, .name 4])) rfl sc_beginnings.nd (mi_still (me_call (ok_extended T) (hr.mono (by decide)) (by rfl) T.g_extended T.F_extended.kp T.b_extended .nil (fun _ _ => rl_nil) tk (ma_cons (me_var 0 (pv 0)) (ma_cons (me_tup (ma_cons (me_tup ma_nil) (ma_cons me_non (ma_cons (me_tup ma_nil) ma_nil)))) (ma_cons (me_var 1 (pv 1)) (ma_cons (me_var 2 (pv 2)) ma_nil)))))) (blkOk_by (own := [("later", 3), ("chosen", 4)]) (N := ["voice", "leg", "reach", "later", "chosen"]) (sc := defScope st_beginnings) (by decide +kernel)) (fun _ _ _ _ _ => (pg_tup rfl (pgs_cons (pg_name (i := 3) sc_beginnings.nd rfl (by first | exact Or.inl rfl | exact Or.inr rfl)) (pgs_cons (pg_name (i := 4) sc_beginnings.nd rfl (by first | exact Or.inl rfl | exact Or.inr rfl)) pgs_nil)))) (fun _ _ _ _ _ => mts_nil) (fun _ _ _ _ _ => (me_makeM (c := "Follow") T.M_Follow (ok_Follow_init T) (hr.mono (by decide)) (by rfl) T.g_Follow T.b_Follow_init .nil (fun _ _ => rl_nil) takes0 (ma_cons me_str (ma_cons (me_var 4 (pv 4)) (ma_cons me_bl (ma_cons (me_var 3 (pv 3)) ma_nil)))))))))))
theorem ok_Course_state (T : Tx P k mg a) : FnOk P k.w k.K mg base (L2.CX P k.w) 1 a.f_Course_state a.d_Course_state ["self"] (spM k 1 c_Course_state) :=
  ok_pureD (c := callS 2 s_Course_state) (ok_def (j := 0) (s := s_Course_state) T.F_Course_state sc_Course_state rfl rfl rfl fun cdv A outer s0 H E hr => by
    have tk : Takes (cxOf (L2.CX P k.w) P k.w k.K mg base ["self", "turn"] "Course.state" (defScope st_Course_state) a.f_Course_state cdv A outer s0 H E) (fun c d _ H' => E c d H') := takes_of rfl rfl rfl rfl
    exact (ms_one (ms_ret (me_tup (ma_cons (me_ct (cu_tuple) (by rfl) T.z_tuple (by decide +kernel) (ma_cons (me_comp (t := (.name 1)) (own := [("turn", 1)]) (by decide) (pe_lc (own := [("turn", 1)]) (g := gT _ (.name 1)) rfl sc_Course_state.nd (mi_still (me_fld (ownL_cons ⟨T.K_Course.t.cl, T.n_Course_turns⟩ ownL_nil) (me_var 0 (pv 0)))) (blkOk_by (own := [("turn", 1)]) (N := ["self", "turn"]) (sc := defScope st_Course_state) (by decide +kernel)) (fun _ _ _ _ _ => (pg_name (i := 1) sc_Course_state.nd rfl (by first | exact Or.inl rfl | exact Or.inr rfl))) (fun _ _ _ _ _ => mts_nil) (fun _ _ _ _ _ => (me_ct (cu_tuple) (by rfl) T.z_tuple (by decide +kernel) (ma_cons (me_var 1 (pv 1)) ma_nil))))) ma_nil)) (ma_cons (me_fld (ownL_cons ⟨T.K_Course.t.cl, T.n_Course_speech⟩ ownL_nil) (me_var 0 (pv 0))) (ma_cons (me_ct (cu_tuple) (by rfl) T.z_tuple (by decide +kernel) (ma_cons (me_fld (ownL_cons ⟨T.K_Course.t.cl, T.n_Course_waiting⟩ ownL_nil) (me_var 0 (pv 0))) ma_nil)) ma_nil)))))))
theorem ok_Course_tells_nearest (T : Tx P k mg a) : FnOk P k.w k.K mg base (L2.CX P k.w) 1 a.f_Course_tells_nearest a.d_Course_tells_nearest ["self"] (spM k 1 c_Course_tells_nearest) :=
  ok_pureD (c := callS 1 s_Course_tells_nearest) (ok_def (j := 0) (s := s_Course_tells_nearest) T.F_Course_tells_nearest sc_Course_tells_nearest rfl rfl rfl fun cdv A outer s0 H E hr => by
    have tk : Takes (cxOf (L2.CX P k.w) P k.w k.K mg base ["self"] "Course.tells_nearest" (defScope st_Course_tells_nearest) a.f_Course_tells_nearest cdv A outer s0 H E) (fun c d _ H' => E c d H') := takes_of rfl rfl rfl rfl
    exact (ms_one (ms_ret (me_and (me_cu (cu_isNot) (me_fld (ownL_cons ⟨T.K_Course.t.cl, T.n_Course_speech⟩ ownL_nil) (me_var 0 (pv 0))) me_non) (me_one (me_or (me_cu (cu_eq hr) (me_idx (me_fld (ownL_cons ⟨T.K_Course.t.cl, T.n_Course_speech⟩ ownL_nil) (me_var 0 (pv 0))) me_int (fun _ _ => rfl)) me_int) (me_one (me_and (me_cu (cu_eq hr) (me_idx (me_fld (ownL_cons ⟨T.K_Course.t.cl, T.n_Course_speech⟩ ownL_nil) (me_var 0 (pv 0))) me_int (fun _ _ => rfl)) (me_neg me_int)) (me_one (me_idx (me_fld (ownL_cons ⟨T.K_Course.t.cl, T.n_Course_speech⟩ ownL_nil) (me_var 0 (pv 0))) me_int (fun _ _ => rfl)))))))))))
theorem ok_Course_step (T : Tx P k mg a) : FnOk P k.w k.K mg base (L2.CX P k.w) 2 a.f_Course_step a.d_Course_step ["self"] (spM k 1 c_Course_step) :=
  ok_def (j := 1) (s := s_Course_step) T.F_Course_step sc_Course_step (show c_Course_step = callS 5 s_Course_step from rfl) rfl rfl fun cdv A outer s0 H E hr => by
    have tk : Takes (cxOf (L2.CX P k.w) P k.w k.K mg base ["self", "turn", "number", "ticks", "is_joined"] "Course.step" (defScope st_Course_step) a.f_Course_step cdv A outer s0 H E) (fun c d _ H' => E c d H') := takes_of rfl rfl rfl rfl
    exact (ms_cons (ms_forR (t := (.name 1)) (passes_of rfl) rfl (me_fld (ownL_cons ⟨T.K_Course.t.cl, T.n_Course_turns⟩ ownL_nil) (me_var 0 (pv 0))) (pg_name (i := 1) sc_Course_step.nd rfl (by first | exact Or.inl rfl | exact Or.inr rfl)) (ms_one (ms_sub (ps_asg (me_sub (me_idx (me_var 1 (pv 1)) me_int (fun _ _ => rfl)) me_int) (pg_sub (me_var 1 (pv 1)) me_int set_list)))))
      (ms_cons (ms_if (PW.pt (mw_or (mt_cu (cu_eq hr) (me_cb (cu_len) (by rfl) T.z_len PySem.boot_len (ma_cons (me_fld (ownL_cons ⟨T.K_Course.t.cl, T.n_Course_turns⟩ ownL_nil) (me_var 0 (pv 0))) ma_nil)) me_int) (mw_or1 (mt_cu (cu_gt) (me_idx (me_idx (me_fld (ownL_cons ⟨T.K_Course.t.cl, T.n_Course_turns⟩ ownL_nil) (me_var 0 (pv 0))) me_int (fun _ _ => rfl)) me_int (fun _ _ => rfl)) me_int)))) (ms_one (ms_ret me_int)) ms_nil)
      (ms_cons (ms_if (mt_val (me_methM0 (c := "Course") (me_var 0 (pv 0)) T.K_Course.t.cl T.mt_Course_tells_nearest (ok_Course_tells_nearest T) (hr.mono (by decide)) T.b_Course_tells_nearest .nil (fun _ _ => rl_nil) tk )) (ms_one (ms_expr (me_append (ma := stuck) (me_fld (ownL_cons ⟨T.K_Course.t.cl, T.n_Course_met⟩ ownL_nil) (me_var 0 (pv 0))) (ma_cons me_str ma_nil) (pe_bm PySem.F.plainAttrs_list PySem.F.slot_list_append PySem.F.type_list_append mt_append (me_fld (ownL_cons ⟨T.K_Course.t.cl, T.n_Course_met⟩ ownL_nil) (me_var 0 (pv 0))) (ma_cons me_str ma_nil))))) ms_nil)
      (ms_cons (ms_if (mt_not (mt_val (me_idx (me_idx (me_fld (ownL_cons ⟨T.K_Course.t.cl, T.n_Course_turns⟩ ownL_nil) (me_var 0 (pv 0))) me_int (fun _ _ => rfl)) me_int (fun _ _ => rfl)))) (ms_one (ms_expr (me_append (ma := stuck) (me_fld (ownL_cons ⟨T.K_Course.t.cl, T.n_Course_met⟩ ownL_nil) (me_var 0 (pv 0))) (ma_cons me_str ma_nil) (pe_bm PySem.F.plainAttrs_list PySem.F.slot_list_append PySem.F.type_list_append mt_append (me_fld (ownL_cons ⟨T.K_Course.t.cl, T.n_Course_met⟩ ownL_nil) (me_var 0 (pv 0))) (ma_cons me_str ma_nil))))) ms_nil)
      (ms_cons (ms_fld (ownL_cons ⟨T.K_Course.t.cl, T.n_Course_turns⟩ ownL_nil) (me_var 0 (pv 0)) (me_sliceS (me_fld (ownL_cons ⟨T.K_Course.t.cl, T.n_Course_turns⟩ ownL_nil) (me_var 0 (pv 0))) (mo_some me_int) mo_none))
      (ms_cons (ms_fld (ownL_cons ⟨T.K_Course.t.cl, T.n_Course_waiting⟩ ownL_nil) (me_var 0 (pv 0)) (me_borS (me_compS (t := (.tup [.name 1, .name 2])) (own := [("turn", 1), ("number", 2)]) (by decide) (pe_lc (own := [("turn", 1), ("number", 2)]) (g := gT _ (.tup [.name 1, .name 2])) rfl sc_Course_step.nd (mi_still (me_fld (ownL_cons ⟨T.K_Course.t.cl, T.n_Course_waiting⟩ ownL_nil) (me_var 0 (pv 0)))) (blkOk_by (own := [("turn", 1), ("number", 2)]) (N := ["self", "turn", "number", "ticks", "is_joined"]) (sc := defScope st_Course_step) (by decide +kernel)) (fun _ _ _ _ _ => (pg_tup rfl (pgs_cons (pg_name (i := 1) sc_Course_step.nd rfl (by first | exact Or.inl rfl | exact Or.inr rfl)) (pgs_cons (pg_name (i := 2) sc_Course_step.nd rfl (by first | exact Or.inl rfl | exact Or.inr rfl)) pgs_nil)))) (fun _ _ _ _ _ => pts_one (mt_cu (cu_gt) (me_var 1 (pv 1)) me_int)) (fun _ _ _ _ _ => (me_tup (ma_cons (me_sub (me_var 1 (pv 1)) me_int) (ma_cons (me_var 2 (pv 2)) ma_nil))))))))
      (ms_cons (ms_if (mt_cu (cu_isNot) (me_fld (ownL_cons ⟨T.K_Course.t.cl, T.n_Course_speech⟩ ownL_nil) (me_var 0 (pv 0))) me_non) (ms_cons (ms_setT (t := (.tup [.name 1, .name 2, .name 3, .name 4])) (me_fld (ownL_cons ⟨T.K_Course.t.cl, T.n_Course_speech⟩ ownL_nil) (me_var 0 (pv 0))) (pg_tup rfl (pgs_cons (pg_name (i := 1) sc_Course_step.nd rfl (by first | exact Or.inl rfl | exact Or.inr rfl)) (pgs_cons (pg_name (i := 2) sc_Course_step.nd rfl (by first | exact Or.inl rfl | exact Or.inr rfl)) (pgs_cons (pg_name (i := 3) sc_Course_step.nd rfl (by first | exact Or.inl rfl | exact Or.inr rfl)) (pgs_cons (pg_name (i := 4) sc_Course_step.nd rfl (by first | exact Or.inl rfl | exact Or.inr rfl)) pgs_nil))))) (ps_asg (me_fld (ownL_cons ⟨T.K_Course.t.cl, T.n_Course_speech⟩ ownL_nil) (me_var 0 (pv 0))) (pg_tup rfl (pgs_cons (pg_name (i := 1) sc_Course_step.nd rfl (by first | exact Or.inl rfl | exact Or.inr rfl)) (pgs_cons (pg_name (i := 2) sc_Course_step.nd rfl (by first | exact Or.inl rfl | exact Or.inr rfl)) (pgs_cons (pg_name (i := 3) sc_Course_step.nd rfl (by first | exact Or.inl rfl | exact Or.inr rfl)) (pgs_cons (pg_name (i := 4) sc_Course_step.nd rfl (by first | exact Or.inl rfl | exact Or.inr rfl)) pgs_nil)))))))
      (ms_one (ms_fld (ownL_cons ⟨T.K_Course.t.cl, T.n_Course_speech⟩ ownL_nil) (me_var 0 (pv 0)) (me_tup (ma_cons (me_cb (cu_max2 rfl) (by rfl) T.z_max (by decide +kernel) (ma_cons (me_if (mt_val (me_var 4 (pv 4))) (me_neg me_int) (me_neg me_int)) (ma_cons (me_sub (me_var 1 (pv 1)) me_int) ma_nil))) (ma_cons (me_var 2 (pv 2)) (ma_cons (me_var 3 (pv 3)) (ma_cons (me_var 4 (pv 4)) ma_nil)))))))) ms_nil)
      (ms_one (ms_ret me_int)))))))))
theorem ok_placed (T : Tx P k mg a) : FnOk P k.w k.K mg base (L2.CX P k.w) 1 a.f_placed a.d_placed ["ahead", "is_near", "reach"] (spM k 3 c_placed) :=
  ok_def (j := 0) (s := s_placed) T.F_placed sc_placed (show c_placed = callS 8 s_placed from rfl) rfl rfl fun cdv A outer s0 H E hr => by
    have tk : Takes (cxOf (L2.CX P k.w) P k.w k.K mg base ["ahead", "is_near", "reach", "last", "distance", "is_open", "left", "is_told"] "placed" (defScope st_placed) a.f_placed cdv A outer s0 H E) (fun c d _ H' => E c d H') := takes_of rfl rfl rfl rfl
    exact (ms_cons (ms_setT (t := (.tup [.name 4, .name 5, .name 6, .name 7])) (me_idx (me_var 0 (pv 0)) (me_neg me_int) (fun _ _ => rfl)) (pg_tup rfl (pgs_cons (pg_name (i := 4) sc_placed.nd rfl (by first | exact Or.inl rfl | exact Or.inr rfl)) (pgs_cons (pg_name (i := 5) sc_placed.nd rfl (by first | exact Or.inl rfl | exact Or.inr rfl)) (pgs_cons (pg_name (i := 6) sc_placed.nd rfl (by first | exact Or.inl rfl | exact Or.inr rfl)) (pgs_cons (pg_name (i := 7) sc_placed.nd rfl (by first | exact Or.inl rfl | exact Or.inr rfl)) pgs_nil))))) (ps_asg (me_idx (me_var 0 (pv 0)) (me_neg me_int) (fun _ _ => rfl)) (pg_tup rfl (pgs_cons (pg_name (i := 4) sc_placed.nd rfl (by first | exact Or.inl rfl | exact Or.inr rfl)) (pgs_cons (pg_name (i := 5) sc_placed.nd rfl (by first | exact Or.inl rfl | exact Or.inr rfl)) (pgs_cons (pg_name (i := 6) sc_placed.nd rfl (by first | exact Or.inl rfl | exact Or.inr rfl)) (pgs_cons (pg_name (i := 7) sc_placed.nd rfl (by first | exact Or.inl rfl | exact Or.inr rfl)) pgs_nil)))))))
      (ms_cons (ms_if (PW.pt (mw_or (mt_not (mt_val (me_var 5 (pv 5)))) (mw_or1 (mt_cu (cu_gt) (me_var 4 (pv 4)) (me_add (me_var 2 (pv 2)) me_int))))) (ms_one (ms_ret (me_var 0 (pv 0)))) ms_nil)
      (ms_cons (ms_set (i := 3) sc_placed.nd rfl (by first | exact Or.inl rfl | exact Or.inr rfl) (me_if (mt_val (me_var 1 (pv 1))) (me_tup (ma_cons (me_var 4 (pv 4)) (ma_cons me_bl (ma_cons (me_var 6 (pv 6)) (ma_cons (me_var 7 (pv 7)) ma_nil))))) (me_tup (ma_cons (me_add (me_var 4 (pv 4)) me_int) (ma_cons me_bl (ma_cons (me_var 6 (pv 6)) (ma_cons (me_var 7 (pv 7)) ma_nil)))))))
      (ms_one (ms_ret (me_tup (ma_star (me_slice (me_var 0 (pv 0)) mo_none (mo_some (me_neg me_int))) (ma_cons (me_var 3 (pv 3)) ma_nil))))))))
theorem ok_Course_init (T : Tx P k mg a) : FnOk P k.w k.K mg base (L2.CX P k.w) 1 a.f_Course_init a.d_Course_init ["self", "voice", "state"] (spM k 3 c_Course_init) :=
  ok_def (j := 0) (s := s_Course_init) T.F_Course_init sc_Course_init (show c_Course_init = callS 7 s_Course_init from rfl) rfl rfl fun cdv A outer s0 H E hr => by
    have tk : Takes (cxOf (L2.CX P k.w) P k.w k.K mg base ["self", "voice", "state", "ahead", "speech", "waiting", "turn"] "Course.__init__" (defScope st_Course_init) a.f_Course_init cdv A outer s0 H E) (fun c d _ H' => E c d H') := takes_of rfl rfl rfl rfl
    exact (ms_cons (ms_setT (t := (.tup [.name 3, .name 4, .name 5])) (me_var 2 (pv 2)) (pg_tup rfl (pgs_cons (pg_name (i := 3) sc_Course_init.nd rfl (by first | exact Or.inl rfl | exact Or.inr rfl)) (pgs_cons (pg_name (i := 4) sc_Course_init.nd rfl (by first | exact Or.inl rfl | exact Or.inr rfl)) (pgs_cons (pg_name (i := 5) sc_Course_init.nd rfl (by first | exact Or.inl rfl | exact Or.inr rfl)) pgs_nil)))) (ps_asg (me_var 2 (pv 2)) (pg_tup rfl (pgs_cons (pg_name (i := 3) sc_Course_init.nd rfl (by first | exact Or.inl rfl | exact Or.inr rfl)) (pgs_cons (pg_name (i := 4) sc_Course_init.nd rfl (by first | exact Or.inl rfl | exact Or.inr rfl)) (pgs_cons (pg_name (i := 5) sc_Course_init.nd rfl (by first | exact Or.inl rfl | exact Or.inr rfl)) pgs_nil))))))
      (ms_cons (ms_fld (ownL_cons ⟨T.K_Course.t.cl, T.n_Course_speaker⟩ ownL_nil) (me_var 0 (pv 0)) (me_var 1 (pv 1)))
      (ms_cons (ms_fld (ownL_cons ⟨T.K_Course.t.cl, T.n_Course_turns⟩ ownL_nil) (me_var 0 (pv 0)) (me_compS (t := (.name 6)) (own := [("turn", 6)]) (by decide) (pe_lc (own := [("turn", 6)]) (g := gT _ (.name 6)) rfl sc_Course_init.nd (mi_still (me_var 3 (pv 3))) (blkOk_by (own := [("turn", 6)]) (N := ["self", "voice", "state", "ahead", "speech", "waiting", "turn"]) (sc := defScope st_Course_init) (by decide +kernel)) (fun _ _ _ _ _ => (pg_name (i := 6) sc_Course_init.nd rfl (by first | exact Or.inl rfl | exact Or.inr rfl))) (fun _ _ _ _ _ => mts_nil) (fun _ _ _ _ _ => (me_ctS cu_listM (by rfl) T.z_list (by decide +kernel) (ma_cons (me_var 6 (pv 6)) ma_nil))))))
      (ms_cons (ms_fld (ownL_cons ⟨T.K_Course.t.cl, T.n_Course_speech⟩ ownL_nil) (me_var 0 (pv 0)) (me_var 4 (pv 4)))
      (ms_cons (ms_fld (ownL_cons ⟨T.K_Course.t.cl, T.n_Course_waiting⟩ ownL_nil) (me_var 0 (pv 0)) (me_ctS cu_listM (by rfl) T.z_list (by decide +kernel) (ma_cons (me_var 5 (pv 5)) ma_nil)))
      (ms_cons (ms_fld (ownL_cons ⟨T.K_Course.t.cl, T.n_Course_met⟩ ownL_nil) (me_var 0 (pv 0)) (me_lstM ma_nil))
      (ms_one (ms_fld (ownL_cons ⟨T.K_Course.t.cl, T.n_Course_told_now⟩ ownL_nil) (me_var 0 (pv 0)) me_int))))))))
theorem ok_Course_is_joined (T : Tx P k mg a) : FnOk P k.w k.K mg base (L2.CX P k.w) 1 a.f_Course_is_joined a.d_Course_is_joined ["self", "turn", "call"] (spM k 3 c_Course_is_joined) :=
  ok_pureD (c := callS 3 s_Course_is_joined) (ok_def (j := 0) (s := s_Course_is_joined) T.F_Course_is_joined sc_Course_is_joined rfl rfl rfl fun cdv A outer s0 H E hr => by
    have tk : Takes (cxOf (L2.CX P k.w) P k.w k.K mg base ["self", "turn", "call"] "Course.is_joined" (defScope st_Course_is_joined) a.f_Course_is_joined cdv A outer s0 H E) (fun c d _ H' => E c d H') := takes_of rfl rfl rfl rfl
    exact (ms_cons (ms_if (PW.pt (mw_or (mt_cu (cu_ge) (me_add (me_var 1 (pv 1)) me_int) (me_cb (cu_len) (by rfl) T.z_len PySem.boot_len (ma_cons (me_fld (ownL_cons ⟨T.K_Course.t.cl, T.n_Course_turns⟩ ownL_nil) (me_var 0 (pv 0))) ma_nil))) (mw_or1 (mt_val (me_idx (me_idx (me_fld (ownL_cons ⟨T.K_Course.t.cl, T.n_Course_turns⟩ ownL_nil) (me_var 0 (pv 0))) (me_add (me_var 1 (pv 1)) me_int) (fun _ _ => rfl)) me_int (fun _ _ => rfl)))))) (ms_one (ms_ret me_bl)) ms_nil)
      (ms_one (ms_ret (me_cu (cu_le) (me_sub (me_idx (me_idx (me_fld (ownL_cons ⟨T.K_Course.t.cl, T.n_Course_turns⟩ ownL_nil) (me_var 0 (pv 0))) (me_add (me_var 1 (pv 1)) me_int) (fun _ _ => rfl)) me_int (fun _ _ => rfl)) (me_idx (me_idx (me_fld (ownL_cons ⟨T.K_Course.t.cl, T.n_Course_turns⟩ ownL_nil) (me_var 0 (pv 0))) (me_var 1 (pv 1)) (fun _ _ => rfl)) me_int (fun _ _ => rfl))) (me_fld (ownL_cons ⟨T.K_Call.t.cl, T.n_Call_joins⟩ ownL_nil) (me_var 2 (pv 2))))))))
theorem ok_Course_begin (T : Tx P k mg a) : FnOk P k.w k.K mg base (L2.CX P k.w) 2 a.f_Course_begin a.d_Course_begin ["self", "turn", "number"] (spM k 3 c_Course_begin) :=
  ok_def (j := 1) (s := s_Course_begin) T.F_Course_begin sc_Course_begin (show c_Course_begin = callS 7 s_Course_begin from rfl) rfl rfl fun cdv A outer s0 H E hr => by
    have tk : Takes (cxOf (L2.CX P k.w) P k.w k.K mg base ["self", "turn", "number", "call", "is_joined", "pair", "near"] "Course.begin" (defScope st_Course_begin) a.f_Course_begin cdv A outer s0 H E) (fun c d _ H' => E c d H') := takes_of rfl rfl rfl rfl
    exact (ms_cons (ms_set (i := 3) sc_Course_begin.nd rfl (by first | exact Or.inl rfl | exact Or.inr rfl) (me_idx (me_fld (ownL_cons ⟨T.K_Voice.t.cl, T.n_Voice_calls⟩ ownL_nil) (me_fld (ownL_cons ⟨T.K_Course.t.cl, T.n_Course_speaker⟩ ownL_nil) (me_var 0 (pv 0)))) (me_var 2 (pv 2)) (fun _ _ => rfl)))
      (ms_cons (ms_set (i := 4) sc_Course_begin.nd rfl (by first | exact Or.inl rfl | exact Or.inr rfl) (me_methM (c := "Course") (me_var 0 (pv 0)) T.K_Course.t.cl T.mt_Course_is_joined (ok_Course_is_joined T) (hr.mono (by decide)) T.b_Course_is_joined .nil (fun _ _ => rl_nil) tk (ma_cons (me_var 1 (pv 1)) (ma_cons (me_var 3 (pv 3)) ma_nil))))
      (ms_cons (ms_if (mt_not (mt_val (me_cb (cu_all rfl) (by rfl) T.z_all (by decide +kernel) (ma_cons (me_comp (t := (.name 6)) (own := [("near", 6)]) (by decide) (pe_lc (own := [("near", 6)]) (g := gT _ (.name 6)) rfl sc_Course_begin.nd (mi_still (me_slice (me_fld (ownL_cons ⟨T.K_Course.t.cl, T.n_Course_turns⟩ ownL_nil) (me_var 0 (pv 0))) mo_none (mo_some (me_var 1 (pv 1))))) (blkOk_by (own := [("near", 6)]) (N := ["self", "turn", "number", "call", "is_joined", "pair", "near"]) (sc := defScope st_Course_begin) (by decide +kernel)) (fun _ _ _ _ _ => (pg_name (i := 6) sc_Course_begin.nd rfl (by first | exact Or.inl rfl | exact Or.inr rfl))) (fun _ _ _ _ _ => mts_nil) (fun _ _ _ _ _ => (me_idx (me_var 6 (pv 6)) me_int (fun _ _ => rfl))))) ma_nil)))) (ms_one (ms_expr (me_append (ma := stuck) (me_fld (ownL_cons ⟨T.K_Course.t.cl, T.n_Course_met⟩ ownL_nil) (me_var 0 (pv 0))) (ma_cons me_str ma_nil) (pe_bm PySem.F.plainAttrs_list PySem.F.slot_list_append PySem.F.type_list_append mt_append (me_fld (ownL_cons ⟨T.K_Course.t.cl, T.n_Course_met⟩ ownL_nil) (me_var 0 (pv 0))) (ma_cons me_str ma_nil))))) ms_nil)
      (ms_cons (ms_fld (ownL_cons ⟨T.K_Course.t.cl, T.n_Course_speech⟩ ownL_nil) (me_var 0 (pv 0)) (me_tup (ma_cons (me_var 1 (pv 1)) (ma_cons (me_var 2 (pv 2)) (ma_cons (me_add (me_fld (ownL_cons ⟨T.K_Call.t.cl, T.n_Call_length⟩ ownL_nil) (me_var 3 (pv 3))) (me_ct (cu_int) (by rfl) T.z_int (by decide +kernel) (ma_cons (me_var 4 (pv 4)) ma_nil))) (ma_cons (me_var 4 (pv 4)) ma_nil))))))
      (ms_one (ms_if (mt_val (me_var 4 (pv 4))) (ms_cons (ms_sub (ps_asg (me_tup ma_nil) (pg_sub (me_idx (me_fld (ownL_cons ⟨T.K_Course.t.cl, T.n_Course_turns⟩ ownL_nil) (me_var 0 (pv 0))) (me_add (me_var 1 (pv 1)) me_int) (fun _ _ => rfl)) me_int set_list)))
      (ms_one (ms_fld (ownL_cons ⟨T.K_Course.t.cl, T.n_Course_waiting⟩ ownL_nil) (me_var 0 (pv 0)) (me_borS (me_compS (t := (.name 5)) (own := [("pair", 5)]) (by decide) (pe_lc (own := [("pair", 5)]) (g := gT _ (.name 5)) rfl sc_Course_begin.nd (mi_still (me_fld (ownL_cons ⟨T.K_Course.t.cl, T.n_Course_waiting⟩ ownL_nil) (me_var 0 (pv 0)))) (blkOk_by (own := [("pair", 5)]) (N := ["self", "turn", "number", "call", "is_joined", "pair", "near"]) (sc := defScope st_Course_begin) (by decide +kernel)) (fun _ _ _ _ _ => (pg_name (i := 5) sc_Course_begin.nd rfl (by first | exact Or.inl rfl | exact Or.inr rfl))) (fun _ _ _ _ _ => pts_one (mt_cu (cu_ne hr) (me_idx (me_var 5 (pv 5)) me_int (fun _ _ => rfl)) (me_add (me_var 1 (pv 1)) me_int))) (fun _ _ _ _ _ => (me_var 5 (pv 5))))))))) ms_nil))))))
theorem ok_Course_become_due (T : Tx P k mg a) : FnOk P k.w k.K mg base (L2.CX P k.w) 3 a.f_Course_become_due a.d_Course_become_due ["self", "turn", "number"] (spM k 3 c_Course_become_due) :=
  ok_def (j := 2) (s := s_Course_become_due) T.F_Course_become_due sc_Course_become_due (show c_Course_become_due = callS 4 s_Course_become_due from rfl) rfl rfl fun cdv A outer s0 H E hr => by
    have tk : Takes (cxOf (L2.CX P k.w) P k.w k.K mg base ["self", "turn", "number", "busy"] "Course.become_due" (defScope st_Course_become_due) a.f_Course_become_due cdv A outer s0 H E) (fun c d _ H' => E c d H') := takes_of rfl rfl rfl rfl
    exact (ms_cons (ms_set (i := 3) sc_Course_become_due.nd rfl (by first | exact Or.inl rfl | exact Or.inr rfl) (me_fld (ownL_cons ⟨T.K_Call.t.cl, T.n_Call_busy⟩ ownL_nil) (me_idx (me_fld (ownL_cons ⟨T.K_Voice.t.cl, T.n_Voice_calls⟩ ownL_nil) (me_fld (ownL_cons ⟨T.K_Course.t.cl, T.n_Course_speaker⟩ ownL_nil) (me_var 0 (pv 0)))) (me_var 2 (pv 2)) (fun _ _ => rfl))))
      (ms_one (ms_if (mt_cu (cu_is) (me_fld (ownL_cons ⟨T.K_Course.t.cl, T.n_Course_speech⟩ ownL_nil) (me_var 0 (pv 0))) me_non) (ms_one (ms_expr (me_methM (c := "Course") (me_var 0 (pv 0)) T.K_Course.t.cl T.mt_Course_begin (ok_Course_begin T) (hr.mono (by decide)) T.b_Course_begin .nil (fun _ _ => rl_nil) tk (ma_cons (me_var 1 (pv 1)) (ma_cons (me_var 2 (pv 2)) ma_nil))))) (ms_one (ms_if (mt_cu (cu_eq hr) (me_var 3 (pv 3)) me_str) (ms_one (ms_expr (me_append (ma := stuck) (me_fld (ownL_cons ⟨T.K_Course.t.cl, T.n_Course_waiting⟩ ownL_nil) (me_var 0 (pv 0))) (ma_cons (me_tup (ma_cons (me_var 1 (pv 1)) (ma_cons (me_var 2 (pv 2)) ma_nil))) ma_nil) (pe_bm PySem.F.plainAttrs_list PySem.F.slot_list_append PySem.F.type_list_append mt_append (me_fld (ownL_cons ⟨T.K_Course.t.cl, T.n_Course_waiting⟩ ownL_nil) (me_var 0 (pv 0))) (ma_cons (me_tup (ma_cons (me_var 1 (pv 1)) (ma_cons (me_var 2 (pv 2)) ma_nil))) ma_nil))))) (ms_one (ms_if (mt_cu (cu_eq hr) (me_var 3 (pv 3)) me_str) (ms_cons (ms_expr (me_append (ma := stuck) (me_fld (ownL_cons ⟨T.K_Course.t.cl, T.n_Course_met⟩ ownL_nil) (me_var 0 (pv 0))) (ma_cons me_str ma_nil) (pe_bm PySem.F.plainAttrs_list PySem.F.slot_list_append PySem.F.type_list_append mt_append (me_fld (ownL_cons ⟨T.K_Course.t.cl, T.n_Course_met⟩ ownL_nil) (me_var 0 (pv 0))) (ma_cons me_str ma_nil))))
      (ms_one (ms_expr (me_methM (c := "Course") (me_var 0 (pv 0)) T.K_Course.t.cl T.mt_Course_begin (ok_Course_begin T) (hr.mono (by decide)) T.b_Course_begin .nil (fun _ _ => rl_nil) tk (ma_cons (me_var 1 (pv 1)) (ma_cons (me_var 2 (pv 2)) ma_nil)))))) ms_nil)))))))
theorem ok_Course_all_due (T : Tx P k mg a) : FnOk P k.w k.K mg base (L2.CX P k.w) 4 a.f_Course_all_due a.d_Course_all_due ["self"] (spM k 1 c_Course_all_due) :=
  ok_def (j := 3) (s := s_Course_all_due) T.F_Course_all_due sc_Course_all_due (show c_Course_all_due = callS 5 s_Course_all_due from rfl) rfl rfl fun cdv A outer s0 H E hr => by
    have tk : Takes (cxOf (L2.CX P k.w) P k.w k.K mg base ["self", "at", "turn", "number", "other"] "Course.all_due" (defScope st_Course_all_due) a.f_Course_all_due cdv A outer s0 H E) (fun c d _ H' => E c d H') := takes_of rfl rfl rfl rfl
    exact (ms_one (ms_forE (t := (.tup [.name 1, .name 2])) (passes_of rfl) rfl (by rfl) T.z_enumerate (ma_cons (me_fld (ownL_cons ⟨T.K_Course.t.cl, T.n_Course_turns⟩ ownL_nil) (me_var 0 (pv 0))) ma_nil) (pg_tup rfl (pgs_cons (pg_name (i := 1) sc_Course_all_due.nd rfl (by first | exact Or.inl rfl | exact Or.inr rfl)) (pgs_cons (pg_name (i := 2) sc_Course_all_due.nd rfl (by first | exact Or.inl rfl | exact Or.inr rfl)) pgs_nil))) (ms_one (ms_for (t := (.name 3)) (passes_of rfl) rfl (mi_still (me_ct (cu_list) (by rfl) T.z_list (by decide +kernel) (ma_cons (me_idx (me_var 2 (pv 2)) me_int (fun _ _ => rfl)) ma_nil))) (pg_name (i := 3) sc_Course_all_due.nd rfl (by first | exact Or.inl rfl | exact Or.inr rfl)) (ms_one (ms_if (PW.pt (mw_and (mt_cu (cu_in) (me_var 3 (pv 3)) (me_idx (me_var 2 (pv 2)) me_int (fun _ _ => rfl))) (mw_and1 (mt_cu (cu_ge) (me_fld (ownL_cons ⟨T.K_Call.t.cl, T.n_Call_distance⟩ ownL_nil) (me_idx (me_fld (ownL_cons ⟨T.K_Voice.t.cl, T.n_Voice_calls⟩ ownL_nil) (me_fld (ownL_cons ⟨T.K_Course.t.cl, T.n_Course_speaker⟩ ownL_nil) (me_var 0 (pv 0)))) (me_var 3 (pv 3)) (fun _ _ => rfl))) (me_idx (me_var 2 (pv 2)) me_int (fun _ _ => rfl)))))) (ms_cons (ms_sub (ps_asg (me_ct (cu_tuple) (by rfl) T.z_tuple (by decide +kernel) (ma_cons (me_comp (t := (.name 4)) (own := [("other", 4)]) (by decide) (pe_lc (own := [("other", 4)]) (g := gT _ (.name 4)) rfl sc_Course_all_due.nd (mi_still (me_idx (me_var 2 (pv 2)) me_int (fun _ _ => rfl))) (blkOk_by (own := [("other", 4)]) (N := ["self", "at", "turn", "number", "other"]) (sc := defScope st_Course_all_due) (by decide +kernel)) (fun _ _ _ _ _ => (pg_name (i := 4) sc_Course_all_due.nd rfl (by first | exact Or.inl rfl | exact Or.inr rfl))) (fun _ _ _ _ _ => pts_one (mt_cu (cu_ne hr) (me_var 4 (pv 4)) (me_var 3 (pv 3)))) (fun _ _ _ _ _ => (me_var 4 (pv 4))))) ma_nil)) (pg_sub (me_var 2 (pv 2)) me_int set_list)))
      (ms_one (ms_expr (me_methM (c := "Course") (me_var 0 (pv 0)) T.K_Course.t.cl T.mt_Course_become_due (ok_Course_become_due T) (hr.mono (by decide)) T.b_Course_become_due .nil (fun _ _ => rl_nil) tk (ma_cons (me_var 1 (pv 1)) (ma_cons (me_var 3 (pv 3)) ma_nil)))))) ms_nil))))))
theorem ok_Course_speak (T : Tx P k mg a) : FnOk P k.w k.K mg base (L2.CX P k.w) 1 a.f_Course_speak a.d_Course_speak ["self"] (spM k 1 c_Course_speak) :=
  ok_def (j := 0) (s := s_Course_speak) T.F_Course_speak sc_Course_speak (show c_Course_speak = callS 6 s_Course_speak from rfl) rfl rfl fun cdv A outer s0 H E hr => by
    have tk : Takes (cxOf (L2.CX P k.w) P k.w k.K mg base ["self", "turn", "number", "ticks", "is_joined", "at"] "Course.speak" (defScope st_Course_speak) a.f_Course_speak cdv A outer s0 H E) (fun c d _ H' => E c d H') := takes_of rfl rfl rfl rfl
    exact (ms_cons (ms_if (mt_cu (cu_is) (me_fld (ownL_cons ⟨T.K_Course.t.cl, T.n_Course_speech⟩ ownL_nil) (me_var 0 (pv 0))) me_non) (ms_one (ms_ret me_non)) ms_nil)
      (ms_cons (ms_setT (t := (.tup [.name 1, .name 2, .name 3, .name 4])) (me_fld (ownL_cons ⟨T.K_Course.t.cl, T.n_Course_speech⟩ ownL_nil) (me_var 0 (pv 0))) (pg_tup rfl (pgs_cons (pg_name (i := 1) sc_Course_speak.nd rfl (by first | exact Or.inl rfl | exact Or.inr rfl)) (pgs_cons (pg_name (i := 2) sc_Course_speak.nd rfl (by first | exact Or.inl rfl | exact Or.inr rfl)) (pgs_cons (pg_name (i := 3) sc_Course_speak.nd rfl (by first | exact Or.inl rfl | exact Or.inr rfl)) (pgs_cons (pg_name (i := 4) sc_Course_speak.nd rfl (by first | exact Or.inl rfl | exact Or.inr rfl)) pgs_nil))))) (ps_asg (me_fld (ownL_cons ⟨T.K_Course.t.cl, T.n_Course_speech⟩ ownL_nil) (me_var 0 (pv 0))) (pg_tup rfl (pgs_cons (pg_name (i := 1) sc_Course_speak.nd rfl (by first | exact Or.inl rfl | exact Or.inr rfl)) (pgs_cons (pg_name (i := 2) sc_Course_speak.nd rfl (by first | exact Or.inl rfl | exact Or.inr rfl)) (pgs_cons (pg_name (i := 3) sc_Course_speak.nd rfl (by first | exact Or.inl rfl | exact Or.inr rfl)) (pgs_cons (pg_name (i := 4) sc_Course_speak.nd rfl (by first | exact Or.inl rfl | exact Or.inr rfl)) pgs_nil)))))))
      (ms_cons (ms_fld (ownL_cons ⟨T.K_Course.t.cl, T.n_Course_speech⟩ ownL_nil) (me_var 0 (pv 0)) (me_if (mt_cu (cu_gt) (me_var 3 (pv 3)) me_int) (me_tup (ma_cons (me_var 1 (pv 1)) (ma_cons (me_var 2 (pv 2)) (ma_cons (me_sub (me_var 3 (pv 3)) me_int) (ma_cons (me_var 4 (pv 4)) ma_nil))))) me_non))
      (ms_cons (ms_if (mt_cu (cu_eq hr) (me_var 3 (pv 3)) me_int) (ms_cons (ms_fld (ownL_cons ⟨T.K_Course.t.cl, T.n_Course_told_now⟩ ownL_nil) (me_var 0 (pv 0)) (me_if (mt_val (me_var 4 (pv 4))) me_int me_int))
      (ms_one (ms_for (t := (.name 5)) (passes_of rfl) rfl (mi_range2 (pi_range2 (by rfl) T.z_range (ma_cons (me_cb (cu_max2 rfl) (by rfl) T.z_max (by decide +kernel) (ma_cons (me_var 1 (pv 1)) (ma_cons me_int ma_nil))) (ma_cons (me_add (me_var 1 (pv 1)) (me_fld (ownL_cons ⟨T.K_Course.t.cl, T.n_Course_told_now⟩ ownL_nil) (me_var 0 (pv 0)))) ma_nil)))) (pg_name (i := 5) sc_Course_speak.nd rfl (by first | exact Or.inl rfl | exact Or.inr rfl)) (ms_one (ms_sub (ps_asg me_bl (pg_sub (me_idx (me_fld (ownL_cons ⟨T.K_Course.t.cl, T.n_Course_turns⟩ ownL_nil) (me_var 0 (pv 0))) (me_var 5 (pv 5)) (fun _ _ => rfl)) me_int set_list))))))) ms_nil)
      (ms_one (ms_ret (me_tup (ma_cons (me_var 1 (pv 1)) (ma_cons (me_var 2 (pv 2)) ma_nil)))))))))
theorem ok_spoken_tick (T : Tx P k mg a) : FnOk P k.w k.K mg base (L2.CX P k.w) 5 a.f_spoken_tick a.d_spoken_tick ["voice", "state"] (spM k 2 c_spoken_tick) :=
  ok_def (j := 4) (s := s_spoken_tick) T.F_spoken_tick sc_spoken_tick (show c_spoken_tick = callS 5 s_spoken_tick from rfl) rfl rfl fun cdv A outer s0 H E hr => by
    have tk : Takes (cxOf (L2.CX P k.w) P k.w k.K mg base ["voice", "state", "course", "turn", "number"] "spoken_tick" (defScope st_spoken_tick) a.f_spoken_tick cdv A outer s0 H E) (fun c d _ H' => E c d H') := takes_of rfl rfl rfl rfl
    exact (ms_cons (ms_set (i := 2) sc_spoken_tick.nd rfl (by first | exact Or.inl rfl | exact Or.inr rfl) (me_makeM (c := "Course") T.M_Course (ok_Course_init T) (hr.mono (by decide)) (by rfl) T.g_Course T.b_Course_init .nil (fun _ _ => rl_nil) tk (ma_cons (me_var 0 (pv 0)) (ma_cons (me_var 1 (pv 1)) ma_nil))))
      (ms_cons (ms_if (PW.pt (mw_and (mt_cu (cu_is) (me_fld (ownL_cons ⟨T.K_Course.t.cl, T.n_Course_speech⟩ ownL_nil) (me_var 2 (pv 2))) me_non) (mw_and1 (mt_cu (cu_gt) (me_cb (cu_len) (by rfl) T.z_len PySem.boot_len (ma_cons (me_fld (ownL_cons ⟨T.K_Course.t.cl, T.n_Course_waiting⟩ ownL_nil) (me_var 2 (pv 2))) ma_nil)) me_int)))) (ms_cons (ms_setT (t := (.tup [.name 3, .name 4])) (me_idx (me_fld (ownL_cons ⟨T.K_Course.t.cl, T.n_Course_waiting⟩ ownL_nil) (me_var 2 (pv 2))) me_int (fun _ _ => rfl)) (pg_tup rfl (pgs_cons (pg_name (i := 3) sc_spoken_tick.nd rfl (by first | exact Or.inl rfl | exact Or.inr rfl)) (pgs_cons (pg_name (i := 4) sc_spoken_tick.nd rfl (by first | exact Or.inl rfl | exact Or.inr rfl)) pgs_nil))) (ps_asg (me_idx (me_fld (ownL_cons ⟨T.K_Course.t.cl, T.n_Course_waiting⟩ ownL_nil) (me_var 2 (pv 2))) me_int (fun _ _ => rfl)) (pg_tup rfl (pgs_cons (pg_name (i := 3) sc_spoken_tick.nd rfl (by first | exact Or.inl rfl | exact Or.inr rfl)) (pgs_cons (pg_name (i := 4) sc_spoken_tick.nd rfl (by first | exact Or.inl rfl | exact Or.inr rfl)) pgs_nil)))))
      (ms_cons (ms_fld (ownL_cons ⟨T.K_Course.t.cl, T.n_Course_waiting⟩ ownL_nil) (me_var 2 (pv 2)) (me_sliceS (me_fld (ownL_cons ⟨T.K_Course.t.cl, T.n_Course_waiting⟩ ownL_nil) (me_var 2 (pv 2))) (mo_some me_int) mo_none))
      (ms_one (ms_expr (me_methM (c := "Course") (me_var 2 (pv 2)) T.K_Course.t.cl T.mt_Course_begin (ok_Course_begin T) (hr.mono (by decide)) T.b_Course_begin .nil (fun _ _ => rl_nil) tk (ma_cons (me_var 3 (pv 3)) (ma_cons (me_var 4 (pv 4)) ma_nil))))))) ms_nil)
      (ms_cons (ms_expr (me_methM0 (c := "Course") (me_var 2 (pv 2)) T.K_Course.t.cl T.mt_Course_all_due (ok_Course_all_due T) (hr.mono (by decide)) T.b_Course_all_due .nil (fun _ _ => rl_nil) tk ))
      (ms_cons (ms_if (mt_cu (cu_gt) (me_cb (cu_len) (by rfl) T.z_len PySem.boot_len (ma_cons (me_fld (ownL_cons ⟨T.K_Course.t.cl, T.n_Course_waiting⟩ ownL_nil) (me_var 2 (pv 2))) ma_nil)) me_int) (ms_one (ms_expr (me_append (ma := stuck) (me_fld (ownL_cons ⟨T.K_Course.t.cl, T.n_Course_met⟩ ownL_nil) (me_var 2 (pv 2))) (ma_cons me_str ma_nil) (pe_bm PySem.F.plainAttrs_list PySem.F.slot_list_append PySem.F.type_list_append mt_append (me_fld (ownL_cons ⟨T.K_Course.t.cl, T.n_Course_met⟩ ownL_nil) (me_var 2 (pv 2))) (ma_cons me_str ma_nil))))) ms_nil)
      (ms_one (ms_ret (me_tup (ma_cons (me_var 2 (pv 2)) (ma_cons (me_methM0 (c := "Course") (me_var 2 (pv 2)) T.K_Course.t.cl T.mt_Course_speak (ok_Course_speak T) (hr.mono (by decide)) T.b_Course_speak .nil (fun _ _ => rl_nil) tk ) ma_nil)))))))))
theorem ok_followed (T : Tx P k mg a) : FnOk P k.w k.K mg base (L2.CX P k.w) 6 a.f_followed a.d_followed ["voice", "window", "leg", "reach"] (spM k 4 c_followed) :=
  ok_pureF (c := callS 19 s_followed) (ok_def (j := 5) (s := s_followed) T.F_followed sc_followed rfl rfl rfl fun cdv A outer s0 H E hr => by
    have tk : Takes (cxOf (L2.CX P k.w) P k.w k.K mg base ["voice", "window", "leg", "reach", "halt", "found", "can_come", "is_near", "follow", "course", "said", "ahead", "speech", "waiting", "moved", "past", "later", "chosen", "turn"] "followed" (defScope st_followed) a.f_followed cdv A outer s0 H E) (fun c d _ H' => E c d H') := takes_of rfl rfl rfl rfl
    exact (ms_cons (ms_setT (t := (.tup [.name 9, .name 10])) (me_call (ok_spoken_tick T) (hr.mono (by decide)) (by rfl) T.g_spoken_tick T.F_spoken_tick.kp T.b_spoken_tick .nil (fun _ _ => rl_nil) tk (ma_cons (me_var 0 (pv 0)) (ma_cons (me_var 1 (pv 1)) ma_nil))) (pg_tup rfl (pgs_cons (pg_name (i := 9) sc_followed.nd rfl (by first | exact Or.inl rfl | exact Or.inr rfl)) (pgs_cons (pg_name (i := 10) sc_followed.nd rfl (by first | exact Or.inl rfl | exact Or.inr rfl)) pgs_nil))) (ps_asg (me_call (ok_spoken_tick T) (hr.mono (by decide)) (by rfl) T.g_spoken_tick T.F_spoken_tick.kp T.b_spoken_tick .nil (fun _ _ => rl_nil) tk (ma_cons (me_var 0 (pv 0)) (ma_cons (me_var 1 (pv 1)) ma_nil))) (pg_tup rfl (pgs_cons (pg_name (i := 9) sc_followed.nd rfl (by first | exact Or.inl rfl | exact Or.inr rfl)) (pgs_cons (pg_name (i := 10) sc_followed.nd rfl (by first | exact Or.inl rfl | exact Or.inr rfl)) pgs_nil)))))
      (ms_cons (ms_set (i := 4) sc_followed.nd rfl (by first | exact Or.inl rfl | exact Or.inr rfl) (me_makeM (c := "Follow") T.M_Follow (ok_Follow_init T) (hr.mono (by decide)) (by rfl) T.g_Follow T.b_Follow_init .nil (fun _ _ => rl_nil) tk (ma_cons me_str (ma_cons (me_tup ma_nil) (ma_cons me_bl (ma_cons (me_methM0 (c := "Course") (me_var 9 (pv 9)) T.K_Course.t.cl T.mt_Course_state (ok_Course_state T) (hr.mono (by decide)) T.b_Course_state .nil (fun _ _ => rl_nil) tk ) ma_nil))))))
      (ms_cons (ms_fld (ownL_cons ⟨T.K_Follow.t.cl, T.n_Follow_wrong⟩ ownL_nil) (me_var 4 (pv 4)) (me_ct (cu_tuple) (by rfl) T.z_tuple (by decide +kernel) (ma_cons (me_fld (ownL_cons ⟨T.K_Course.t.cl, T.n_Course_met⟩ ownL_nil) (me_var 9 (pv 9))) ma_nil)))
      (ms_cons (ms_set (i := 5) sc_followed.nd rfl (by first | exact Or.inl rfl | exact Or.inr rfl) (me_lstM (ma_cons (me_var 4 (pv 4)) ma_nil)))
      (ms_cons (ms_setT (t := (.tup [.name 11, .name 12, .name 13])) (me_methM0 (c := "Course") (me_var 9 (pv 9)) T.K_Course.t.cl T.mt_Course_state (ok_Course_state T) (hr.mono (by decide)) T.b_Course_state .nil (fun _ _ => rl_nil) tk ) (pg_tup rfl (pgs_cons (pg_name (i := 11) sc_followed.nd rfl (by first | exact Or.inl rfl | exact Or.inr rfl)) (pgs_cons (pg_name (i := 12) sc_followed.nd rfl (by first | exact Or.inl rfl | exact Or.inr rfl)) (pgs_cons (pg_name (i := 13) sc_followed.nd rfl (by first | exact Or.inl rfl | exact Or.inr rfl)) pgs_nil)))) (ps_asg (me_methM0 (c := "Course") (me_var 9 (pv 9)) T.K_Course.t.cl T.mt_Course_state (ok_Course_state T) (hr.mono (by decide)) T.b_Course_state .nil (fun _ _ => rl_nil) tk ) (pg_tup rfl (pgs_cons (pg_name (i := 11) sc_followed.nd rfl (by first | exact Or.inl rfl | exact Or.inr rfl)) (pgs_cons (pg_name (i := 12) sc_followed.nd rfl (by first | exact Or.inl rfl | exact Or.inr rfl)) (pgs_cons (pg_name (i := 13) sc_followed.nd rfl (by first | exact Or.inl rfl | exact Or.inr rfl)) pgs_nil))))))
      (ms_cons (ms_set (i := 6) sc_followed.nd rfl (by first | exact Or.inl rfl | exact Or.inr rfl) (me_and (me_idx (me_idx (me_var 11 (pv 11)) (me_neg me_int) (fun _ _ => rfl)) me_int (fun _ _ => rfl)) (me_one (me_cu (cu_eq hr) (me_idx (me_idx (me_var 11 (pv 11)) (me_neg me_int) (fun _ _ => rfl)) me_int (fun _ _ => rfl)) (me_add (me_var 3 (pv 3)) me_int)))))
      (ms_cons (ms_for (t := (.name 7)) (passes_of rfl) rfl (mi_still (me_if (mt_val (me_var 6 (pv 6))) (me_tup (ma_cons me_bl (ma_cons me_bl ma_nil))) (me_tup (ma_cons me_bl ma_nil)))) (pg_name (i := 7) sc_followed.nd rfl (by first | exact Or.inl rfl | exact Or.inr rfl)) (ms_cons (ms_setT (t := (.tup [.name 14, .name 15])) (me_call (ok_spoken_tick T) (hr.mono (by decide)) (by rfl) T.g_spoken_tick T.F_spoken_tick.kp T.b_spoken_tick .nil (fun _ _ => rl_nil) tk (ma_cons (me_var 0 (pv 0)) (ma_cons (me_var 1 (pv 1)) ma_nil))) (pg_tup rfl (pgs_cons (pg_name (i := 14) sc_followed.nd rfl (by first | exact Or.inl rfl | exact Or.inr rfl)) (pgs_cons (pg_name (i := 15) sc_followed.nd rfl (by first | exact Or.inl rfl | exact Or.inr rfl)) pgs_nil))) (ps_asg (me_call (ok_spoken_tick T) (hr.mono (by decide)) (by rfl) T.g_spoken_tick T.F_spoken_tick.kp T.b_spoken_tick .nil (fun _ _ => rl_nil) tk (ma_cons (me_var 0 (pv 0)) (ma_cons (me_var 1 (pv 1)) ma_nil))) (pg_tup rfl (pgs_cons (pg_name (i := 14) sc_followed.nd rfl (by first | exact Or.inl rfl | exact Or.inr rfl)) (pgs_cons (pg_name (i := 15) sc_followed.nd rfl (by first | exact Or.inl rfl | exact Or.inr rfl)) pgs_nil)))))
      (ms_cons (ms_fld (ownL_cons ⟨T.K_Course.t.cl, T.n_Course_turns⟩ ownL_nil) (me_var 14 (pv 14)) (me_compS (t := (.name 18)) (own := [("turn", 18)]) (by decide) (pe_lc (own := [("turn", 18)]) (g := gT _ (.name 18)) rfl sc_followed.nd (mi_still (me_callP (ok_placed T) (hr.mono (by decide)) (by rfl) T.g_placed T.F_placed.kp T.b_placed .nil (fun _ _ => rl_nil) tk (ma_cons (me_var 11 (pv 11)) (ma_cons (me_var 7 (pv 7)) (ma_cons (me_var 3 (pv 3)) ma_nil))))) (blkOk_by (own := [("turn", 18)]) (N := ["voice", "window", "leg", "reach", "halt", "found", "can_come", "is_near", "follow", "course", "said", "ahead", "speech", "waiting", "moved", "past", "later", "chosen", "turn"]) (sc := defScope st_followed) (by decide +kernel)) (fun _ _ _ _ _ => (pg_name (i := 18) sc_followed.nd rfl (by first | exact Or.inl rfl | exact Or.inr rfl))) (fun _ _ _ _ _ => mts_nil) (fun _ _ _ _ _ => (me_ctS cu_listM (by rfl) T.z_list (by decide +kernel) (ma_cons (me_var 18 (pv 18)) ma_nil))))))
      (ms_cons (ms_expr (me_methM0 (c := "Course") (me_var 14 (pv 14)) T.K_Course.t.cl T.mt_Course_step (ok_Course_step T) (hr.mono (by decide)) T.b_Course_step .nil (fun _ _ => rl_nil) tk ))
      (ms_one (ms_for (t := (.tup [.name 16, .name 17])) (passes_of rfl) rfl (mi_still (me_call (ok_extended T) (hr.mono (by decide)) (by rfl) T.g_extended T.F_extended.kp T.b_extended .nil (fun _ _ => rl_nil) tk (ma_cons (me_var 0 (pv 0)) (ma_cons (me_methM0 (c := "Course") (me_var 14 (pv 14)) T.K_Course.t.cl T.mt_Course_state (ok_Course_state T) (hr.mono (by decide)) T.b_Course_state .nil (fun _ _ => rl_nil) tk ) (ma_cons (me_var 2 (pv 2)) (ma_cons (me_var 3 (pv 3)) ma_nil)))))) (pg_tup rfl (pgs_cons (pg_name (i := 16) sc_followed.nd rfl (by first | exact Or.inl rfl | exact Or.inr rfl)) (pgs_cons (pg_name (i := 17) sc_followed.nd rfl (by first | exact Or.inl rfl | exact Or.inr rfl)) pgs_nil))) (ms_cons (ms_set (i := 8) sc_followed.nd rfl (by first | exact Or.inl rfl | exact Or.inr rfl) (me_makeM (c := "Follow") T.M_Follow (ok_Follow_init T) (hr.mono (by decide)) (by rfl) T.g_Follow T.b_Follow_init .nil (fun _ _ => rl_nil) tk (ma_cons me_str (ma_cons (me_var 17 (pv 17)) (ma_cons (me_var 7 (pv 7)) (ma_cons (me_var 16 (pv 16)) ma_nil))))))
      (ms_cons (ms_fld (ownL_cons ⟨T.K_Follow.t.cl, T.n_Follow_wrong⟩ ownL_nil) (me_var 8 (pv 8)) (me_ct (cu_tuple) (by rfl) T.z_tuple (by decide +kernel) (ma_cons (me_fld (ownL_cons ⟨T.K_Course.t.cl, T.n_Course_met⟩ ownL_nil) (me_var 14 (pv 14))) ma_nil)))
      (ms_one (ms_expr (me_append (ma := stuck) (me_var 5 (pv 5)) (ma_cons (me_var 8 (pv 8)) ma_nil) (pe_bm PySem.F.plainAttrs_list PySem.F.slot_list_append PySem.F.type_list_append mt_append (me_var 5 (pv 5)) (ma_cons (me_var 8 (pv 8)) ma_nil)))))))))))))
      (ms_cons (ms_forR (t := (.name 8)) (passes_of rfl) rfl (me_var 5 (pv 5)) (pg_name (i := 8) sc_followed.nd rfl (by first | exact Or.inl rfl | exact Or.inr rfl)) (ms_one (ms_fld (ownL_cons ⟨T.K_Follow.t.cl, T.n_Follow_said⟩ ownL_nil) (me_var 8 (pv 8)) (me_var 10 (pv 10)))))
      (ms_one (ms_ret (me_var 5 (pv 5)))))))))))))
theorem ok_Walk_init (T : Tx P k mg a) : FnOk P k.w k.K mg base (L2.CX P k.w) 7 a.f_Walk_init a.d_Walk_init ["self", "voice", "leg"] (spM k 3 c_Walk_init) :=
  ok_def (j := 6) (s := s_Walk_init) T.F_Walk_init sc_Walk_init (show c_Walk_init = callS 6 s_Walk_init from rfl) rfl rfl fun cdv A outer s0 H E hr => by
    have tk : Takes (cxOf (L2.CX P k.w) P k.w k.K mg base ["self", "voice", "leg", "follow", "spot", "fault"] "Walk.__init__" (defScope st_Walk_init) a.f_Walk_init cdv A outer s0 H E) (fun c d _ H' => E c d H') := takes_of rfl rfl rfl rfl
    exact (ms_cons (ms_fld (ownL_cons ⟨T.K_Walk.t.cl, T.n_Walk_reach⟩ ownL_nil) (me_var 0 (pv 0)) (me_fld (ownL_cons ⟨T.K_Voice.t.cl, T.n_Voice_reach⟩ ownL_nil) (me_var 1 (pv 1))))
      (ms_cons (ms_fld (ownL_cons ⟨T.K_Walk.t.cl, T.n_Walk_order⟩ ownL_nil) (me_var 0 (pv 0)) (me_lstM ma_nil))
      (ms_cons (ms_fld (ownL_cons ⟨T.K_Walk.t.cl, T.n_Walk_came_by⟩ ownL_nil) (me_var 0 (pv 0)) me_newDn)
      (ms_cons (ms_fld (ownL_cons ⟨T.K_Walk.t.cl, T.n_Walk_first_met⟩ ownL_nil) (me_var 0 (pv 0)) me_newDk)
      (ms_cons (ms_for (t := (.name 3)) (passes_of rfl) rfl (mi_still (me_call (ok_beginnings T) (hr.mono (by decide)) (by rfl) T.g_beginnings T.F_beginnings.kp T.b_beginnings .nil (fun _ _ => rl_nil) tk (ma_cons (me_var 1 (pv 1)) (ma_cons (me_var 2 (pv 2)) (ma_cons (me_fld (ownL_cons ⟨T.K_Walk.t.cl, T.n_Walk_reach⟩ ownL_nil) (me_var 0 (pv 0))) ma_nil))))) (pg_name (i := 3) sc_Walk_init.nd rfl (by first | exact Or.inl rfl | exact Or.inr rfl)) (ms_one (ms_expr (me_methM (c := "Walk") (me_var 0 (pv 0)) T.K_Walk.t.cl T.mt_Walk_take (ok_Walk_take T) (hr.mono (by decide)) T.b_Walk_take .nil (fun _ _ => rl_nil) tk (ma_cons (me_var 3 (pv 3)) (ma_cons me_non ma_nil))))))
      (ms_cons (ms_set (i := 4) sc_Walk_init.nd rfl (by first | exact Or.inl rfl | exact Or.inr rfl) me_int)
      (ms_one (ms_while 16000000 (passes_of rfl) (mt_cu (cu_lt) (me_var 4 (pv 4)) (me_cb (cu_len) (by rfl) T.z_len PySem.boot_len (ma_cons (me_fld (ownL_cons ⟨T.K_Walk.t.cl, T.n_Walk_order⟩ ownL_nil) (me_var 0 (pv 0))) ma_nil))) (ms_cons (ms_for (t := (.name 3)) (passes_of rfl) rfl (mi_still (me_call (ok_followed T) (hr.mono (by decide)) (by rfl) T.g_followed T.F_followed.kp T.b_followed .nil (fun _ _ => rl_nil) tk (ma_cons (me_var 1 (pv 1)) (ma_cons (me_idx (me_fld (ownL_cons ⟨T.K_Walk.t.cl, T.n_Walk_order⟩ ownL_nil) (me_var 0 (pv 0))) (me_var 4 (pv 4)) (fun _ _ => rfl)) (ma_cons (me_var 2 (pv 2)) (ma_cons (me_fld (ownL_cons ⟨T.K_Walk.t.cl, T.n_Walk_reach⟩ ownL_nil) (me_var 0 (pv 0))) ma_nil)))))) (pg_name (i := 3) sc_Walk_init.nd rfl (by first | exact Or.inl rfl | exact Or.inr rfl)) (ms_cons (ms_for (t := (.name 5)) (passes_of rfl) rfl (mi_still (me_fld (ownL_cons ⟨T.K_Follow.t.cl, T.n_Follow_wrong⟩ ownL_nil) (me_var 3 (pv 3)))) (pg_name (i := 5) sc_Walk_init.nd rfl (by first | exact Or.inl rfl | exact Or.inr rfl)) (ms_one (ms_if (mt_dnotin hr (me_var 5 (pv 5)) (me_fld (ownL_cons ⟨T.K_Walk.t.cl, T.n_Walk_first_met⟩ ownL_nil) (me_var 0 (pv 0)))) (ms_one (ms_dput hr (me_fld (ownL_cons ⟨T.K_Walk.t.cl, T.n_Walk_first_met⟩ ownL_nil) (me_var 0 (pv 0))) (me_var 5 (pv 5)) (me_tup (ma_cons (me_var 3 (pv 3)) (ma_cons (me_idx (me_fld (ownL_cons ⟨T.K_Walk.t.cl, T.n_Walk_order⟩ ownL_nil) (me_var 0 (pv 0))) (me_var 4 (pv 4)) (fun _ _ => rfl)) ma_nil))))) ms_nil)))
      (ms_one (ms_expr (me_methM (c := "Walk") (me_var 0 (pv 0)) T.K_Walk.t.cl T.mt_Walk_take (ok_Walk_take T) (hr.mono (by decide)) T.b_Walk_take .nil (fun _ _ => rl_nil) tk (ma_cons (me_var 3 (pv 3)) (ma_cons (me_idx (me_fld (ownL_cons ⟨T.K_Walk.t.cl, T.n_Walk_order⟩ ownL_nil) (me_var 0 (pv 0))) (me_var 4 (pv 4)) (fun _ _ => rfl)) ma_nil)))))))
      (ms_one (ms_aug (i := 4) sc_Walk_init.nd rfl (by first | exact Or.inl rfl | exact Or.inr rfl) me_int)))))))))))
theorem ok_faults (T : Tx P k mg a) : FnOk P k.w k.K mg base (L2.CX P k.w) 9 a.f_faults a.d_faults ["voice", "leg"] (spM k 2 c_faults) :=
  ok_defD (j := 8) (s := s_faults) T.F_faults sc_faults (show c_faults = callS 4 s_faults from rfl) rfl rfl fun cdv A outer s0 H E hr => by
    have tk : Takes (cxOf (L2.CX P k.w) P k.w k.K mg base ["voice", "leg", "met", "fault"] "faults" (defScope st_faults) a.f_faults cdv A outer s0 H E) (fun c d _ H' => E c d H') := takes_of rfl rfl rfl rfl
    exact (ms_cons (ms_set (i := 2) sc_faults.nd rfl (by first | exact Or.inl rfl | exact Or.inr rfl) (me_fld (ownL_cons ⟨T.K_Walk.t.cl, T.n_Walk_first_met⟩ ownL_nil) (me_makeM (c := "Walk") T.M_Walk (ok_Walk_init T) (hr.mono (by decide)) (by rfl) T.g_Walk T.b_Walk_init .nil (fun _ _ => rl_nil) tk (ma_cons (me_var 0 (pv 0)) (ma_cons (me_var 1 (pv 1)) ma_nil)))))
      (ms_one (ms_ret (me_ct (cu_tuple) (by rfl) T.z_tuple (by decide +kernel) (ma_cons (me_comp (t := (.name 3)) (own := [("fault", 3)]) (by decide) (pe_lc (own := [("fault", 3)]) (g := gT _ (.name 3)) rfl sc_faults.nd (mi_still (T.c_FAULTS |> fun ⟨_, _, h1, h2, h3⟩ => me_glob (by rfl) h1 h2 h3)) (blkOk_by (own := [("fault", 3)]) (N := ["voice", "leg", "met", "fault"]) (sc := defScope st_faults) (by decide +kernel)) (fun _ _ _ _ _ => (pg_name (i := 3) sc_faults.nd rfl (by first | exact Or.inl rfl | exact Or.inr rfl))) (fun _ _ _ _ _ => pts_one (mt_din hr (me_var 3 (pv 3)) (me_var 2 (pv 2)))) (fun _ _ _ _ _ => (me_var 3 (pv 3))))) ma_nil)))))
theorem ok_is_fault (T : Tx P k mg a) : FnOk P k.w k.K mg base (L2.CX P k.w) 2 a.f_is_fault a.d_is_fault ["value"] (spM k 1 c_is_fault) :=
  ok_def (j := 1) (s := s_is_fault) T.F_is_fault sc_is_fault (show c_is_fault = callS 1 s_is_fault from rfl) rfl rfl fun cdv A outer s0 H E hr => by
    have tk : Takes (cxOf (L2.CX P k.w) P k.w k.K mg base ["value"] "is_fault" (defScope st_is_fault) a.f_is_fault cdv A outer s0 H E) (fun c d _ H' => E c d H') := takes_of rfl rfl rfl rfl
    exact (ms_one (ms_ret (me_callP (ok_is_word T) (hr.mono (by decide)) (by rfl) T.g_is_word T.F_is_word.kp T.b_is_word .nil (fun _ _ => rl_nil) tk (ma_cons (me_var 0 (pv 0)) (ma_cons (T.c_FAULTS |> fun ⟨_, _, h1, h2, h3⟩ => me_glob (by rfl) h1 h2 h3) ma_nil)))))
theorem ok_need_fault (T : Tx P k mg a) : FnOk P k.w k.K mg base (L2.CX P k.w) 3 a.f_need_fault a.d_need_fault ["fault"] (spM k 1 c_need_fault) :=
  ok_def (j := 2) (s := s_need_fault) T.F_need_fault sc_need_fault (show c_need_fault = callS 1 s_need_fault from rfl) rfl rfl fun cdv A outer s0 H E hr => by
    have tk : Takes (cxOf (L2.CX P k.w) P k.w k.K mg base ["fault"] "need_fault" (defScope st_need_fault) a.f_need_fault cdv A outer s0 H E) (fun c d _ H' => E c d H') := takes_of rfl rfl rfl rfl
    exact (ms_one (ms_if (mt_not (mt_val (me_callP (ok_is_fault T) (hr.mono (by decide)) (by rfl) T.g_is_fault T.F_is_fault.kp T.b_is_fault .nil (fun _ _ => rl_nil) tk (ma_cons (me_var 0 (pv 0)) ma_nil)))) (ms_one (ms_raise0 (c := "InvalidFault") T.R_InvalidFault rfl tk (by rfl) T.g_InvalidFault)) ms_nil))
theorem ok_happens (T : Tx P k mg a) : FnOk P k.w k.K mg base (L2.CX P k.w) 9 a.f_happens a.d_happens ["voice", "fault", "leg"] (spM k 3 c_happens) :=
  ok_defD (j := 8) (s := s_happens) T.F_happens sc_happens (show c_happens = callS 3 s_happens from rfl) rfl rfl fun cdv A outer s0 H E hr => by
    have tk : Takes (cxOf (L2.CX P k.w) P k.w k.K mg base ["voice", "fault", "leg"] "happens" (defScope st_happens) a.f_happens cdv A outer s0 H E) (fun c d _ H' => E c d H') := takes_of rfl rfl rfl rfl
    exact (ms_cons (ms_expr (me_callP (ok_need_fault T) (hr.mono (by decide)) (by rfl) T.g_need_fault T.F_need_fault.kp T.b_need_fault .nil (fun _ _ => rl_nil) tk (ma_cons (me_var 1 (pv 1)) ma_nil)))
      (ms_one (ms_ret (me_din hr (me_var 1 (pv 1)) (me_fld (ownL_cons ⟨T.K_Walk.t.cl, T.n_Walk_first_met⟩ ownL_nil) (me_makeM (c := "Walk") T.M_Walk (ok_Walk_init T) (hr.mono (by decide)) (by rfl) T.g_Walk T.b_Walk_init .nil (fun _ _ => rl_nil) tk (ma_cons (me_var 0 (pv 0)) (ma_cons (me_var 2 (pv 2)) ma_nil))))))))
theorem ok_least_leg (T : Tx P k mg a) : FnOk P k.w k.K mg base (L2.CX P k.w) 10 a.f_least_leg a.d_least_leg ["voice", "fault"] (spM k 2 c_least_leg) :=
  ok_def (j := 9) (s := s_least_leg) T.F_least_leg sc_least_leg (show c_least_leg = callS 3 s_least_leg from rfl) rfl rfl fun cdv A outer s0 H E hr => by
    have tk : Takes (cxOf (L2.CX P k.w) P k.w k.K mg base ["voice", "fault", "leg"] "least_leg" (defScope st_least_leg) a.f_least_leg cdv A outer s0 H E) (fun c d _ H' => E c d H') := takes_of rfl rfl rfl rfl
    exact (ms_cons (ms_expr (me_callP (ok_need_fault T) (hr.mono (by decide)) (by rfl) T.g_need_fault T.F_need_fault.kp T.b_need_fault .nil (fun _ _ => rl_nil) tk (ma_cons (me_var 1 (pv 1)) ma_nil)))
      (ms_cons (ms_for (t := (.name 2)) (passes_of rfl) rfl (mi_range2 (pi_range2 (by rfl) T.z_range (ma_cons me_int (ma_cons (me_add (me_fld (ownL_cons ⟨T.K_Voice.t.cl, T.n_Voice_reach⟩ ownL_nil) (me_var 0 (pv 0))) (T.c_FARTHER |> fun ⟨_, _, h1, h2, h3⟩ => me_glob (by rfl) h1 h2 h3)) ma_nil)))) (pg_name (i := 2) sc_least_leg.nd rfl (by first | exact Or.inl rfl | exact Or.inr rfl)) (ms_one (ms_if (mt_not (mt_val (T.b3_happens |> fun ⟨_, hv3, hb3⟩ => (me_callP (ok_happens T) (hr.mono (by decide)) (by rfl) T.g_happens T.F_happens.kp hb3 hv3 (fun _ _ => rl_nil) tk (ma_cons (me_var 0 (pv 0)) (ma_cons (me_var 1 (pv 1)) (ma_cons (me_var 2 (pv 2)) ma_nil))))))) (ms_one (ms_ret (me_var 2 (pv 2)))) ms_nil)))
      (ms_one (ms_ret me_non))))
theorem ok_told_story (T : Tx P k mg a) : FnOk P k.w k.K mg base (L2.CX P k.w) 1 a.f_told_story a.d_told_story ["follows", "reach"] (spM k 2 c_told_story) :=
  ok_def (j := 0) (s := s_told_story) T.F_told_story sc_told_story (show c_told_story = callS 11 s_told_story from rfl) rfl rfl fun cdv A outer s0 H E hr => by
    have tk : Takes (cxOf (L2.CX P k.w) P k.w k.K mg base ["follows", "reach", "follow", "road", "places", "steps", "going", "longer", "ahead", "here", "there"] "told_story" (defScope st_told_story) a.f_told_story cdv A outer s0 H E) (fun c d _ H' => E c d H') := takes_of rfl rfl rfl rfl
    exact (ms_cons (impS (ps_par3 (i := 4) (j := 5) (l := 6) rfl sc_told_story.nd rfl rfl rfl (by decide) (by decide) (by decide) rfl rfl rfl (ma_cons (me_lstM ma_nil) (ma_cons me_int (ma_cons (me_lstM ma_nil) ma_nil))) (by first | rfl | kernel_rfl)) fun _ _ _ h => par3_read h)
      (ms_cons (ms_for (t := (.name 2)) (passes_of rfl) rfl (mi_still (me_var 0 (pv 0))) (pg_name (i := 2) sc_told_story.nd rfl (by first | exact Or.inl rfl | exact Or.inr rfl)) (ms_cons (ms_if (mt_cu (cu_eq hr) (me_fld (ownL_cons ⟨T.K_Follow.t.cl, T.n_Follow_word⟩ ownL_nil) (me_var 2 (pv 2))) me_str) (ms_cons (ms_aug (i := 5) sc_told_story.nd rfl (by first | exact Or.inl rfl | exact Or.inr rfl) me_int)
      (ms_one (ms_if (mt_val (me_fld (ownL_cons ⟨T.K_Follow.t.cl, T.n_Follow_is_near⟩ ownL_nil) (me_var 2 (pv 2)))) (ms_one (ms_sub (ps_asg (me_add (me_var 5 (pv 5)) (me_var 1 (pv 1))) (pg_sub (me_var 4 (pv 4)) (me_neg me_int) set_list)))) ms_nil))) ms_nil)
      (ms_cons (ms_if (mt_cu (cu_ne hr) (me_fld (ownL_cons ⟨T.K_Follow.t.cl, T.n_Follow_word⟩ ownL_nil) (me_var 2 (pv 2))) me_str) (ms_one (ms_expr (me_append (ma := stuck) (me_var 6 (pv 6)) (ma_cons (me_fld (ownL_cons ⟨T.K_Follow.t.cl, T.n_Follow_word⟩ ownL_nil) (me_var 2 (pv 2))) ma_nil) (pe_bm PySem.F.plainAttrs_list PySem.F.slot_list_append PySem.F.type_list_append mt_append (me_var 6 (pv 6)) (ma_cons (me_fld (ownL_cons ⟨T.K_Follow.t.cl, T.n_Follow_word⟩ ownL_nil) (me_var 2 (pv 2))) ma_nil))))) ms_nil)
      (ms_one (ms_for (t := (.name 7)) (passes_of rfl) rfl (mi_still (me_fld (ownL_cons ⟨T.K_Follow.t.cl, T.n_Follow_chosen⟩ ownL_nil) (me_var 2 (pv 2)))) (pg_name (i := 7) sc_told_story.nd rfl (by first | exact Or.inl rfl | exact Or.inr rfl)) (ms_cons (ms_set (i := 8) sc_told_story.nd rfl (by first | exact Or.inl rfl | exact Or.inr rfl) (me_if (mt_cu (cu_gt) (me_cb (cu_len) (by rfl) T.z_len PySem.boot_len (ma_cons (me_var 4 (pv 4)) ma_nil)) me_int) (me_idx (me_var 4 (pv 4)) (me_neg me_int) (fun _ _ => rfl)) me_int))
      (ms_one (ms_expr (me_append (ma := stuck) (me_var 4 (pv 4)) (ma_cons (me_if (mt_cu (cu_gt) (me_var 7 (pv 7)) me_int) (me_add (me_var 8 (pv 8)) (me_var 7 (pv 7))) me_non) ma_nil) (pe_bm PySem.F.plainAttrs_list PySem.F.slot_list_append PySem.F.type_list_append mt_append (me_var 4 (pv 4)) (ma_cons (me_if (mt_cu (cu_gt) (me_var 7 (pv 7)) me_int) (me_add (me_var 8 (pv 8)) (me_var 7 (pv 7))) me_non) ma_nil)))))))))))
      (ms_cons (ms_if (mt_cu (cu_in) me_non (me_var 4 (pv 4))) (ms_one (ms_sub (ps_asg (me_add (me_var 5 (pv 5)) (me_idx (me_idx (me_idx (me_fld (ownL_cons ⟨T.K_Follow.t.cl, T.n_Follow_later⟩ ownL_nil) (me_idx (me_var 0 (pv 0)) (me_neg me_int) (fun _ _ => rfl))) me_int (fun _ _ => rfl)) (me_neg me_int) (fun _ _ => rfl)) me_int (fun _ _ => rfl))) (pg_sub (me_var 4 (pv 4)) (me_neg me_int) set_list)))) ms_nil)
      (ms_cons (ms_compB (i := 3) (elt := .Constant .none 0 ⟨0,0,0,0⟩) (tg := .Constant .none 0 ⟨0,0,0,0⟩) (iter := .Constant .none 0 ⟨0,0,0,0⟩) (ifs := []) (scope := defScope st_told_story) (t := (.tup [.name 9, .name 10])) (own := [("here", 9), ("there", 10)]) (by decide) (ps_setLc (i := 3) (own := [("here", 9), ("there", 10)]) (g := gT _ (.tup [.name 9, .name 10])) rfl sc_told_story.nd rfl rfl (sw_true rfl rfl rfl (by decide +kernel)) (mi_zip (by rfl) T.z_zip (ma_cons (me_lst (ma_cons me_int (ma_star (me_slice (me_var 4 (pv 4)) mo_none (mo_some (me_neg me_int))) ma_nil))) (ma_cons (me_var 4 (pv 4)) ma_nil))) (blkOk_by (own := [("here", 9), ("there", 10)]) (N := ["follows", "reach", "follow", "road", "places", "steps", "going", "longer", "ahead", "here", "there"]) (sc := defScope st_told_story) (by decide +kernel)) (fun _ _ _ _ _ => (pg_tup rfl (pgs_cons (pg_name (i := 9) sc_told_story.nd rfl (by first | exact Or.inl rfl | exact Or.inr rfl)) (pgs_cons (pg_name (i := 10) sc_told_story.nd rfl (by first | exact Or.inl rfl | exact Or.inr rfl)) pgs_nil)))) (fun _ _ _ _ _ => mts_nil) (fun _ _ _ _ _ => (me_sub (me_var 10 (pv 10)) (me_var 9 (pv 9))))))
      (ms_one (ms_ret (me_tup (ma_cons (me_ct (cu_tuple) (by rfl) T.z_tuple (by decide +kernel) (ma_cons (me_var 3 (pv 3)) ma_nil)) (ma_cons (me_ct (cu_tuple) (by rfl) T.z_tuple (by decide +kernel) (ma_cons (me_var 6 (pv 6)) ma_nil)) ma_nil)))))))))
theorem ok_Walk_story_of (T : Tx P k mg a) : FnOk P k.w k.K mg base (L2.CX P k.w) 2 a.f_Walk_story_of a.d_Walk_story_of ["self", "fault"] (spM k 2 c_Walk_story_of) :=
  ok_def (j := 1) (s := s_Walk_story_of) T.F_Walk_story_of sc_Walk_story_of (show c_Walk_story_of = callS 5 s_Walk_story_of from rfl) rfl rfl fun cdv A outer s0 H E hr => by
    have tk : Takes (cxOf (L2.CX P k.w) P k.w k.K mg base ["self", "fault", "follows", "follow", "window"] "Walk.story_of" (defScope st_Walk_story_of) a.f_Walk_story_of cdv A outer s0 H E) (fun c d _ H' => E c d H') := takes_of rfl rfl rfl rfl
    exact (ms_cons (ms_if (mt_dnotin hr (me_var 1 (pv 1)) (me_fld (ownL_cons ⟨T.K_Walk.t.cl, T.n_Walk_first_met⟩ ownL_nil) (me_var 0 (pv 0)))) (ms_one (ms_ret me_non)) ms_nil)
      (ms_cons (ms_setT (t := (.tup [.name 3, .name 4])) (me_dget hr (me_fld (ownL_cons ⟨T.K_Walk.t.cl, T.n_Walk_first_met⟩ ownL_nil) (me_var 0 (pv 0))) (me_var 1 (pv 1)) (fun _ _ => rfl)) (pg_tup rfl (pgs_cons (pg_name (i := 3) sc_Walk_story_of.nd rfl (by first | exact Or.inl rfl | exact Or.inr rfl)) (pgs_cons (pg_name (i := 4) sc_Walk_story_of.nd rfl (by first | exact Or.inl rfl | exact Or.inr rfl)) pgs_nil))) (ps_asg (me_dget hr (me_fld (ownL_cons ⟨T.K_Walk.t.cl, T.n_Walk_first_met⟩ ownL_nil) (me_var 0 (pv 0))) (me_var 1 (pv 1)) (fun _ _ => rfl)) (pg_tup rfl (pgs_cons (pg_name (i := 3) sc_Walk_story_of.nd rfl (by first | exact Or.inl rfl | exact Or.inr rfl)) (pgs_cons (pg_name (i := 4) sc_Walk_story_of.nd rfl (by first | exact Or.inl rfl | exact Or.inr rfl)) pgs_nil)))))
      (ms_cons (ms_set (i := 2) sc_Walk_story_of.nd rfl (by first | exact Or.inl rfl | exact Or.inr rfl) (me_lstM (ma_cons (me_var 3 (pv 3)) ma_nil)))
      (ms_cons (ms_while 16000000 (passes_of rfl) (mt_cu (cu_isNot) (me_var 4 (pv 4)) me_non) (ms_cons (ms_setT (t := (.tup [.name 3, .name 4])) (me_dget hr (me_fld (ownL_cons ⟨T.K_Walk.t.cl, T.n_Walk_came_by⟩ ownL_nil) (me_var 0 (pv 0))) (me_var 4 (pv 4)) (fun _ _ => rfl)) (pg_tup rfl (pgs_cons (pg_name (i := 3) sc_Walk_story_of.nd rfl (by first | exact Or.inl rfl | exact Or.inr rfl)) (pgs_cons (pg_name (i := 4) sc_Walk_story_of.nd rfl (by first | exact Or.inl rfl | exact Or.inr rfl)) pgs_nil))) (ps_asg (me_dget hr (me_fld (ownL_cons ⟨T.K_Walk.t.cl, T.n_Walk_came_by⟩ ownL_nil) (me_var 0 (pv 0))) (me_var 4 (pv 4)) (fun _ _ => rfl)) (pg_tup rfl (pgs_cons (pg_name (i := 3) sc_Walk_story_of.nd rfl (by first | exact Or.inl rfl | exact Or.inr rfl)) (pgs_cons (pg_name (i := 4) sc_Walk_story_of.nd rfl (by first | exact Or.inl rfl | exact Or.inr rfl)) pgs_nil)))))
      (ms_one (ms_expr (me_append (ma := stuck) (me_var 2 (pv 2)) (ma_cons (me_var 3 (pv 3)) ma_nil) (pe_bm PySem.F.plainAttrs_list PySem.F.slot_list_append PySem.F.type_list_append mt_append (me_var 2 (pv 2)) (ma_cons (me_var 3 (pv 3)) ma_nil)))))))
      (ms_one (ms_ret (me_callP (ok_told_story T) (hr.mono (by decide)) (by rfl) T.g_told_story T.F_told_story.kp T.b_told_story .nil (fun _ _ => rl_nil) tk (ma_cons (me_rev (me_var 2 (pv 2))) (ma_cons (me_fld (ownL_cons ⟨T.K_Walk.t.cl, T.n_Walk_reach⟩ ownL_nil) (me_var 0 (pv 0))) ma_nil)))))))))
theorem ok_story (T : Tx P k mg a) : FnOk P k.w k.K mg base (L2.CX P k.w) 9 a.f_story a.d_story ["voice", "fault", "leg"] (spM k 3 c_story) :=
  ok_defD (j := 8) (s := s_story) T.F_story sc_story (show c_story = callS 3 s_story from rfl) rfl rfl fun cdv A outer s0 H E hr => by
    have tk : Takes (cxOf (L2.CX P k.w) P k.w k.K mg base ["voice", "fault", "leg"] "story" (defScope st_story) a.f_story cdv A outer s0 H E) (fun c d _ H' => E c d H') := takes_of rfl rfl rfl rfl
    exact (ms_cons (ms_expr (me_callP (ok_need_fault T) (hr.mono (by decide)) (by rfl) T.g_need_fault T.F_need_fault.kp T.b_need_fault .nil (fun _ _ => rl_nil) tk (ma_cons (me_var 1 (pv 1)) ma_nil)))
      (ms_one (ms_ret (me_methM (c := "Walk") (me_makeM (c := "Walk") T.M_Walk (ok_Walk_init T) (hr.mono (by decide)) (by rfl) T.g_Walk T.b_Walk_init .nil (fun _ _ => rl_nil) tk (ma_cons (me_var 0 (pv 0)) (ma_cons (me_var 2 (pv 2)) ma_nil))) T.K_Walk.t.cl T.mt_Walk_story_of (ok_Walk_story_of T) (hr.mono (by decide)) T.b_Walk_story_of .nil (fun _ _ => rl_nil) tk (ma_cons (me_var 1 (pv 1)) ma_nil)))))
theorem law_body (T : Tx P k mg a) (base : Heap) (cdv : Value) (A : Around) (outer : List PySem.Env) (s0 : Shared) (H : Hp) (E : XK) (hA : A.guards = some []) (hr : Room 10 (A.deeper (envOfC "law" (defScope st_law) s0.heap.objs.size a.f_law cdv))) :
    PSs (cxOf (L2.CX P k.w) P k.w k.K mg base ["_law_script", "_law_zsome", "_law_zturn", "_law_zmade", "_law_zsize", "_law_zword", "_law_zdue"] "law" (defScope st_law) a.f_law cdv A outer s0 H E) (defBody st_law) (tS k (fun c d _ H' => E c d H') s_law) := by
    have tk : Takes (cxOf (L2.CX P k.w) P k.w k.K mg base ["_law_script", "_law_zsome", "_law_zturn", "_law_zmade", "_law_zsize", "_law_zword", "_law_zdue"] "law" (defScope st_law) a.f_law cdv A outer s0 H E) (fun c d _ H' => E c d H') := takes_of rfl rfl rfl rfl
    have hG : (cxOf (L2.CX P k.w) P k.w k.K mg base ["_law_script", "_law_zsome", "_law_zturn", "_law_zmade", "_law_zsize", "_law_zword", "_law_zdue"] "law" (defScope st_law) a.f_law cdv A outer s0 H E).A.guards = some [] := hA
    exact (ms_cons (ms_set (i := 1) sc_law.nd rfl (by first | exact Or.inl rfl | exact Or.inr rfl) (me_lst (ma_cons me_str (ma_cons me_str (ma_cons me_str (ma_cons me_str (ma_cons me_str ma_nil)))))))
      (ms_cons (ms_for (t := (.name 2)) (passes_of rfl) rfl (mi_range1 (pi_range1 (by rfl) T.z_range (ma_cons me_int ma_nil))) (pg_name (i := 2) sc_law.nd rfl (by first | exact Or.inl rfl | exact Or.inr rfl)) (ms_cons (ms_set (i := 3) sc_law.nd rfl (by first | exact Or.inl rfl | exact Or.inr rfl) (T.cm_Voice_read |> fun ⟨_, _, hcr, hcm⟩ => me_cmthP (c := "Voice") (by rfl) T.g_Voice hcr hcm (ok_Voice_read T) (hr.mono (by decide)) T.b_Voice_read tk (ma_cons (me_idx (me_var 1 (pv 1)) (me_call (ok_l_number T) (hr.mono (by decide)) (by rfl) T.g_l_number T.F_l_number.kp T.b_l_number .nil (fun _ _ => rl_nil) tk (ma_cons (me_var 0 (pv 0)) (ma_cons (me_var 2 (pv 2)) ma_nil))) (fun _ _ => rfl)) ma_nil)))
      (ms_cons (ms_set (i := 4) sc_law.nd rfl (by first | exact Or.inl rfl | exact Or.inr rfl) (me_add me_int (me_call (ok_l_number T) (hr.mono (by decide)) (by rfl) T.g_l_number T.F_l_number.kp T.b_l_number .nil (fun _ _ => rl_nil) tk (ma_cons (me_var 0 (pv 0)) (ma_cons (me_add (me_var 2 (pv 2)) me_int) ma_nil)))))
      (ms_cons (ms_set (i := 5) sc_law.nd rfl (by first | exact Or.inl rfl | exact Or.inr rfl) (me_idx (me_lst (ma_cons me_str (ma_cons me_str (ma_cons me_str (ma_cons me_str (ma_cons me_str ma_nil)))))) (me_call (ok_l_number T) (hr.mono (by decide)) (by rfl) T.g_l_number T.F_l_number.kp T.b_l_number .nil (fun _ _ => rl_nil) tk (ma_cons (me_var 0 (pv 0)) (ma_cons (me_add (me_var 2 (pv 2)) me_int) ma_nil))) (fun _ _ => rfl)))
      (ms_cons (ms_set (i := 6) sc_law.nd rfl (by first | exact Or.inl rfl | exact Or.inr rfl) (T.b3_happens |> fun ⟨_, hv3, hb3⟩ => (me_callP (ok_happens T) (hr.mono (by decide)) (by rfl) T.g_happens T.F_happens.kp hb3 hv3 (fun _ _ => rl_nil) tk (ma_cons (me_var 3 (pv 3)) (ma_cons (me_var 5 (pv 5)) (ma_cons (me_var 4 (pv 4)) ma_nil))))))
      (ms_cons (ms_if (mt_cu (cu_ne hr) (T.kb0_happens |> fun ⟨_, hvk, hbk⟩ => (me_callPK0 (ok_happens T) (hr.mono (by decide)) (by rfl) T.g_happens T.F_happens.kp hbk hvk (fun _ _ => (rl_int rl_nil)) tk  (mk_cons (me_var 4 (pv 4)) (mk_cons (me_var 5 (pv 5)) (mk_cons (me_var 3 (pv 3)) mk_nil))))) (me_var 6 (pv 6))) (ms_one (ms_ret me_bl)) ms_nil)
      (ms_cons (ms_if (mt_cu (cu_ne hr) (T.kb0_faults |> fun ⟨_, hvk, hbk⟩ => (me_callPK0 (ok_faults T) (hr.mono (by decide)) (by rfl) T.g_faults T.F_faults.kp hbk hvk (fun _ _ => (rl_int rl_nil)) tk  (mk_cons (me_var 4 (pv 4)) (mk_cons (me_var 3 (pv 3)) mk_nil)))) (T.b2_faults |> fun ⟨_, hv2, hb2⟩ => (me_callP (ok_faults T) (hr.mono (by decide)) (by rfl) T.g_faults T.F_faults.kp hb2 hv2 (fun _ _ => rl_nil) tk (ma_cons (me_var 3 (pv 3)) (ma_cons (me_var 4 (pv 4)) ma_nil))))) (ms_one (ms_ret me_bl)) ms_nil)
      (ms_cons (ms_if (mt_cu (cu_ne hr) (T.kb1_faults |> fun ⟨_, hvk, hbk⟩ => (me_callPK0 (ok_faults T) (hr.mono (by decide)) (by rfl) T.g_faults T.F_faults.kp hbk hvk (fun _ _ => (rl_int rl_nil)) tk  (mk_cons (me_var 3 (pv 3)) mk_nil))) (T.b2_faults |> fun ⟨_, hv2, hb2⟩ => (me_callP (ok_faults T) (hr.mono (by decide)) (by rfl) T.g_faults T.F_faults.kp hb2 hv2 (fun _ _ => rl_nil) tk (ma_cons (me_var 3 (pv 3)) (ma_cons me_int ma_nil))))) (ms_one (ms_ret me_bl)) ms_nil)
      (ms_cons (ms_if (mt_cu (cu_eq hr) (me_cu (cu_is) (T.kb0_story |> fun ⟨_, hvk, hbk⟩ => (me_callPK0 (ok_story T) (hr.mono (by decide)) (by rfl) T.g_story T.F_story.kp hbk hvk (fun _ _ => (rl_int rl_nil)) tk  (mk_cons (me_var 5 (pv 5)) (mk_cons (me_var 3 (pv 3)) (mk_cons (me_var 4 (pv 4)) mk_nil))))) me_non) (me_var 6 (pv 6))) (ms_one (ms_ret me_bl)) ms_nil)
      (ms_one (ms_if (mt_cu (cu_ne hr) (T.kb0_least_leg |> fun ⟨_, hvk, hbk⟩ => (me_callPK0 (ok_least_leg T) (hr.mono (by decide)) (by rfl) T.g_least_leg T.F_least_leg.kp hbk hvk (fun _ _ => rl_nil) tk  (mk_cons (me_var 5 (pv 5)) (mk_cons (me_var 3 (pv 3)) mk_nil)))) (me_callP (ok_least_leg T) (hr.mono (by decide)) (by rfl) T.g_least_leg T.F_least_leg.kp T.b_least_leg .nil (fun _ _ => rl_nil) tk (ma_cons (me_var 3 (pv 3)) (ma_cons (me_var 5 (pv 5)) ma_nil)))) (ms_one (ms_ret me_bl)) ms_nil)))))))))))
      (ms_one (ms_ret me_bl))))
end
end K29
namespace Pg
open PySem Mi
open L2 (atI atI_last ixN)
/-- a name that a call may have -/
structure Nm (t : Str) : Prop where
  name : c_is_name [.str t] [] = some (.ok (.bl true), [])
  len : t.length ≤ 4
  sp : 32 ∉ TL.tl t
  nl : 10 ∉ TL.tl t
  ok : PyData.strOk t = true
structure One where
  t : Str
  d : Int
  l : Int
  m : Str
  e : Int
  j : Int
def manners : List Str := ["wait", "drop", "cut"]
structure One.Ok (o : One) : Prop where
  t : Nm o.t
  d : 1 ≤ o.d ∧ o.d ≤ 4
  l : 1 ≤ o.l ∧ o.l ≤ 3
  m : o.m ∈ manners
  e : 1 ≤ o.e ∧ o.e ≤ 4
  j : 0 ≤ o.j ∧ o.j ≤ 3
def callV (o : One) : Val := .ins "Call" ["name", "distance", "length", "busy", "least", "joins"] [.str o.t, .int o.d, .int o.l, .str o.m, .int o.e, .int o.j]
def tx (i : Int) : Str := (toString i : String)
end Pg
namespace Pg
open PySem Mi
open L2 (atI atI_last ixN)
def maxD (os : List One) : Int := (maxL (os.map (·.d))).getD 0
def voiceV (os : List One) : Val := .ins "Voice" ["calls", "names", "reach"] [.tup (os.map callV), .tup (os.map fun o => .str o.t), .int (maxD os)]
theorem callV_nr (o : One) : noRef (callV o) = true := rfl
theorem calls_nr (os : List One) : noRefs (os.map callV) = true := noRefs_map callV_nr os
theorem voiceV_nr (os : List One) : noRef (voiceV os) = true := by
  show (noRefs (os.map callV) && (noRefs (os.map fun o => Val.str o.t) && true)) = true
  rw [calls_nr, noRefs_map (fun _ => rfl)]
  rfl
def Hands (v : Val) (os : List One) : Prop := v = .lst (os.map callV) ∨ v = .tup (os.map callV)
theorem Hands.seq {v : Val} {os : List One} {st : Sto} (h : Hands v os) : seqOf st v = some (os.map callV) := by rcases h with rfl | rfl <;> rfl
theorem f_calls {os : List One} {st : Sto} : fldV (ownL ["Voice"]) "calls" st (voiceV os) = some (.tup (os.map callV)) := rfl
end Pg
namespace Pg
open PySem Mi
open L2 (atI atI_last ixN)
theorem number_ok {i : Int} {st : Sto} (h0 : 0 ≤ i) (h1 : i ≤ 4) : c_number_in [.str (tx i)] st = some (.ok (.int i), st) := by
  have : i = 0 ∨ i = 1 ∨ i = 2 ∨ i = 3 ∨ i = 4 := by omega
  rcases this with rfl | rfl | rfl | rfl | rfl <;> kernel_rfl
@[simp] theorem x_sTryN {own : Str → Option Bool} {b suite : S} {env : Mi.Env} {st : Sto} {v : Val} {e : Mi.Env} {s : Sto} (h : b env st = some (.ret v, e, s)) : sTryN own b suite env st = some (.ret v, e, s) := by
  unfold sTryN
  rw [h]
end Pg
namespace Pg
open PySem Mi
open L2 (atI atI_last ixN)
/-! ### ticks, plainly -/
structure Turn where
  d : Int
  op : Bool
  left : List Nat
  told : Bool
structure Sp where
  turn : Int
  num : Nat
  ticks : Int
  jn : Bool
structure Stt where
  turns : List Turn
  sp : Option Sp
  wait : List (Nat × Nat)
structure Co where
  turns : List Turn
  sp : Option Sp
  wait : List (Nat × Nat)
  met : List Str
  now : Int
def turnL (t : Turn) : List Val := [.int t.d, .bl t.op, .tup (t.left.map fun n : Nat => Val.int (n : Int)), .bl t.told]
def spV : Option Sp → Val
  | none => .non
  | some s => .tup [.int s.turn, .int (s.num : Int), .int s.ticks, .bl s.jn]
def pairV (p : Nat × Nat) : Val := .tup [.int (p.1 : Int), .int (p.2 : Int)]
def sttV (s : Stt) : Val := .tup [.tup (s.turns.map fun t => .tup (turnL t)), spV s.sp, .tup (s.wait.map pairV)]
def Turn.noLeft (t : Turn) : Turn := { t with left := [] }
def Turn.less (n : Nat) (t : Turn) : Turn := { t with left := t.left.filter fun x => x != n }
def Turn.tell (t : Turn) : Turn := { t with told := true }
def Turn.near (t : Turn) : Turn := { t with d := t.d - 1 }
def joinsAt (ts : List Turn) (i : Nat) (o : One) : Bool := match ts[i + 1]?, ts[i]? with
  | some u, some t => !u.op && decide (u.d - t.d ≤ o.j)
  | _, _ => false
def Co.begin (c : Co) (i n : Nat) (o : One) : Co :=
  { turns := if joinsAt c.turns i o then c.turns.modify (i + 1) Turn.noLeft else c.turns,
    sp := some ⟨i, n, o.l + (if joinsAt c.turns i o then 1 else 0), joinsAt c.turns i o⟩,
    wait := if joinsAt c.turns i o then c.wait.filter fun p => p.1 != i + 1 else c.wait,
    met := if (c.turns.take i).all Turn.told then c.met else c.met ++ [("ahead" : Str)],
    now := c.now }
def Co.due (c : Co) (i n : Nat) (o : One) : Co := match c.sp with
  | none => c.begin i n o
  | some _ => if o.m = "wait" then { c with wait := c.wait ++ [(i, n)] } else if o.m = "cut" then Co.begin { c with met := c.met ++ [("cut" : Str)] } i n o else c
/-- one number of the turn i -/
def due1 (os : List One) (i : Nat) (c : Co) (n : Nat) : Co := match c.turns[i]?, os[n]? with
  | some t, some o => if n ∈ t.left ∧ t.d ≤ o.d then Co.due { c with turns := c.turns.modify i (Turn.less n) } i n o else c
  | _, _ => c
def dueTurn (os : List One) (c : Co) (i : Nat) : Co := match c.turns[i]? with
  | some t => t.left.foldl (due1 os i) c
  | none => c
def allDue (os : List One) (c : Co) : Co := (List.range c.turns.length).foldl (dueTurn os) c
/-- turns from lo on, n of them, are told -/
def tellFrom (ts : List Turn) (lo n : Nat) : List Turn := (List.range n).foldl (fun ts k => ts.modify (lo + k) Turn.tell) ts
def Co.speak (c : Co) : Co × Option (Int × Nat) := match c.sp with
  | none => (c, none)
  | some s =>
    let c1 : Co := { c with sp := if 1 < s.ticks then some { s with ticks := s.ticks - 1 } else none }
    if s.ticks = 1 then
      let k : Int := if s.jn then 2 else 1
      ({ c1 with now := k, turns := tellFrom c.turns (max s.turn 0).toNat (s.turn + k - max s.turn 0).toNat }, some (s.turn, s.num))
    else (c1, some (s.turn, s.num))
def tellsNearest (c : Co) : Bool := match c.sp with
  | none => false
  | some s => s.turn == 0 || (s.turn == -1 && s.jn)
def Co.step (c : Co) : Co × Int :=
  let ts := c.turns.map Turn.near
  match ts with
  | [] => ({ c with turns := [] }, 0)
  | t :: rest => if 0 < t.d then ({ c with turns := ts }, 0) else
    let m1 := if tellsNearest c then c.met ++ [("behind" : Str)] else c.met
    let m2 := if t.told then m1 else m1 ++ [("untold" : Str)]
    ({ turns := rest, sp := c.sp.map fun s => { s with turn := max (if s.jn then -2 else -1) (s.turn - 1) },
       wait := (c.wait.filter fun p => 0 < p.1).map fun p => (p.1 - 1, p.2), met := m2, now := c.now }, 1)
def Stt.co (s : Stt) : Co := ⟨s.turns, s.sp, s.wait, [], 0⟩
def Co.stt (c : Co) : Stt := ⟨c.turns, c.sp, c.wait⟩
/-- the first part of a tick -/
def Co.first (os : List One) (c : Co) : Co := match c.sp, c.wait with
  | none, (i, n) :: w => match os[n]? with
    | some o => Co.begin { c with wait := w } i n o
    | none => c
  | _, _ => c
def crowd (c : Co) : Co := if 1 < c.wait.length then { c with met := c.met ++ [("crowd" : Str)] } else c
def tick (os : List One) (s : Stt) : Co × Option (Int × Nat) := (crowd (allDue os (s.co.first os))).speak
/-! ### what is well formed -/
structure Co.Ok (os : List One) (c : Co) : Prop where
  left : ∀ t ∈ c.turns, ∀ n ∈ t.left, n < os.length
  wait : ∀ p ∈ c.wait, p.1 < c.turns.length ∧ p.2 < os.length
  sp : ∀ s, c.sp = some s → s.num < os.length ∧ 1 ≤ s.ticks ∧ s.turn + (if s.jn then 2 else 1) ≤ c.turns.length ∧ -2 ≤ s.turn
/-! ### a course in the store -/
structure Lay where
  ti : Nat
  wi : Nat
  mi : Nat
  us : List Nat
abbrev coK : List Str := ["speaker", "turns", "speech", "waiting", "met", "told_now"]
abbrev coX (os : List One) (c : Co) (a : Lay) : List Val := [voiceV os, .ref a.ti, spV c.sp, .ref a.wi, .ref a.mi, .int c.now]
structure CAt (os : List One) (st : Sto) (i : Nat) (c : Co) (a : Lay) : Prop where
  ins : st[i]? = some (.ins "Course" coK (coX os c a))
  tur : st[a.ti]? = some (.lst (a.us.map .ref))
  len : a.us.length = c.turns.length
  each : ∀ (k : Nat) u t, a.us[k]? = some u → c.turns[k]? = some t → st[u]? = some (.lst (turnL t))
  wai : st[a.wi]? = some (.lst (c.wait.map pairV))
  met : st[a.mi]? = some (.lst (c.met.map .str))
  n1 : a.ti ≠ a.wi
  n2 : a.ti ≠ a.mi
  n3 : a.wi ≠ a.mi
  n4 : ∀ u ∈ a.us, u ≠ a.ti ∧ u ≠ a.wi ∧ u ≠ a.mi
  nd : a.us.Nodup
  lo : i ≤ a.ti ∧ i ≤ a.wi ∧ i ≤ a.mi ∧ ∀ u ∈ a.us, i ≤ u
/-- what lies below stays, nothing goes -/
def Fb (b : Nat) (st st' : Sto) : Prop := st.length ≤ st'.length ∧ ∀ j, j < b → st'[j]? = st[j]?
theorem Fb.refl {b : Nat} {st : Sto} : Fb b st st := ⟨Nat.le_refl _, fun _ _ => rfl⟩
theorem Fb.trans {b : Nat} {st s1 s2 : Sto} (h : Fb b st s1) (g : Fb b s1 s2) : Fb b st s2 := ⟨Nat.le_trans h.1 g.1, fun j hj => (g.2 j hj).trans (h.2 j hj)⟩
theorem Fb.set {b i : Nat} {st : Sto} {o : SO} (h : b ≤ i) : Fb b st (st.set i o) := ⟨by simp, fun j hj => List.getElem?_set_ne (by omega)⟩
theorem Fb.app {b : Nat} {st g : Sto} (h : b ≤ st.length) : Fb b st (st ++ g) := ⟨by simp, fun j hj => List.getElem?_append_left (by omega)⟩
theorem at_lt {st : Sto} {i : Nat} {o : SO} (h : st[i]? = some o) : i < st.length := (List.getElem?_eq_some_iff.mp h).1
theorem ne_io {st : Sto} {i j : Nat} {c : Str} {ks : List Str} {xs ys : List Val} (h : st[i]? = some (.ins c ks xs)) (g : st[j]? = some (.lst ys)) : i ≠ j := fun e => by
  subst e
  rw [h] at g
  cases g
section
variable {os : List One} {st : Sto} {i : Nat} {c : Co} {a : Lay}
theorem CAt.us_lst (h : CAt os st i c a) {u : Nat} (hu : u ∈ a.us) : ∃ xs, st[u]? = some (.lst xs) := by
  obtain ⟨k, hk, e⟩ := List.getElem_of_mem hu
  have hk2 : k < c.turns.length := by
    rw [← h.len]
    exact hk
  exact ⟨_, h.each k u c.turns[k] (by rw [List.getElem?_eq_getElem hk, e]) (List.getElem?_eq_getElem hk2)⟩
theorem CAt.iu (h : CAt os st i c a) {u : Nat} (hu : u ∈ a.us) : i ≠ u := by
  obtain ⟨xs, e⟩ := h.us_lst hu
  exact ne_io h.ins e
theorem CAt.it (h : CAt os st i c a) : i ≠ a.ti := ne_io h.ins h.tur
theorem CAt.iw (h : CAt os st i c a) : i ≠ a.wi := ne_io h.ins h.wai
theorem CAt.im (h : CAt os st i c a) : i ≠ a.mi := ne_io h.ins h.met
/-- fields -/
theorem CAt.fS (h : CAt os st i c a) : fldV (ownL ["Course"]) "speaker" st (.ref i) = some (voiceV os) := by rw [fld_ref h.ins (by decide)]; rfl
theorem CAt.fT (h : CAt os st i c a) : fldV (ownL ["Course"]) "turns" st (.ref i) = some (.ref a.ti) := by rw [fld_ref h.ins (by decide)]; rfl
theorem CAt.fP (h : CAt os st i c a) : fldV (ownL ["Course"]) "speech" st (.ref i) = some (spV c.sp) := by rw [fld_ref h.ins (by decide)]; rfl
theorem CAt.fW (h : CAt os st i c a) : fldV (ownL ["Course"]) "waiting" st (.ref i) = some (.ref a.wi) := by rw [fld_ref h.ins (by decide)]; rfl
theorem CAt.fM (h : CAt os st i c a) : fldV (ownL ["Course"]) "met" st (.ref i) = some (.ref a.mi) := by rw [fld_ref h.ins (by decide)]; rfl
theorem CAt.fN (h : CAt os st i c a) : fldV (ownL ["Course"]) "told_now" st (.ref i) = some (.int c.now) := by rw [fld_ref h.ins (by decide)]; rfl
theorem CAt.isC (h : CAt os st i c a) {m : Str} (hm : coK.contains m = false) : isOf "Course" m st (.ref i) = true := isOf_ref h.ins hm
/-- the store is changed -/
theorem CAt.putSp (h : CAt os st i c a) (s : Option Sp) : CAt os (st.set i (.ins "Course" coK [voiceV os, .ref a.ti, spV s, .ref a.wi, .ref a.mi, .int c.now])) i { c with sp := s } a := by
  refine ⟨?_, ?_, h.len, fun k u t hu ht => ?_, ?_, ?_, h.n1, h.n2, h.n3, h.n4, h.nd, h.lo⟩
  · rw [List.getElem?_set_self (at_lt h.ins)]
  · rw [List.getElem?_set_ne h.it]; exact h.tur
  · rw [List.getElem?_set_ne (h.iu (List.mem_of_getElem? hu))]; exact h.each k u t hu ht
  · rw [List.getElem?_set_ne h.iw]; exact h.wai
  · rw [List.getElem?_set_ne h.im]; exact h.met
theorem CAt.putNow (h : CAt os st i c a) (n : Int) : CAt os (st.set i (.ins "Course" coK [voiceV os, .ref a.ti, spV c.sp, .ref a.wi, .ref a.mi, .int n])) i { c with now := n } a := by
  refine ⟨?_, ?_, h.len, fun k u t hu ht => ?_, ?_, ?_, h.n1, h.n2, h.n3, h.n4, h.nd, h.lo⟩
  · rw [List.getElem?_set_self (at_lt h.ins)]
  · rw [List.getElem?_set_ne h.it]; exact h.tur
  · rw [List.getElem?_set_ne (h.iu (List.mem_of_getElem? hu))]; exact h.each k u t hu ht
  · rw [List.getElem?_set_ne h.iw]; exact h.wai
  · rw [List.getElem?_set_ne h.im]; exact h.met
theorem CAt.putMet (h : CAt os st i c a) (ms : List Str) : CAt os (st.set a.mi (.lst (ms.map .str))) i { c with met := ms } a := by
  refine ⟨?_, ?_, h.len, fun k u t hu ht => ?_, ?_, ?_, h.n1, h.n2, h.n3, h.n4, h.nd, h.lo⟩
  · rw [List.getElem?_set_ne (Ne.symm h.im)]; exact h.ins
  · rw [List.getElem?_set_ne (Ne.symm h.n2)]; exact h.tur
  · rw [List.getElem?_set_ne (Ne.symm (h.n4 u (List.mem_of_getElem? hu)).2.2)]; exact h.each k u t hu ht
  · rw [List.getElem?_set_ne (Ne.symm h.n3)]; exact h.wai
  · rw [List.getElem?_set_self (at_lt h.met)]
theorem CAt.putWait (h : CAt os st i c a) (ws : List (Nat × Nat)) : CAt os (st.set a.wi (.lst (ws.map pairV))) i { c with wait := ws } a := by
  refine ⟨?_, ?_, h.len, fun k u t hu ht => ?_, ?_, ?_, h.n1, h.n2, h.n3, h.n4, h.nd, h.lo⟩
  · rw [List.getElem?_set_ne (Ne.symm h.iw)]; exact h.ins
  · rw [List.getElem?_set_ne (Ne.symm h.n1)]; exact h.tur
  · rw [List.getElem?_set_ne (Ne.symm (h.n4 u (List.mem_of_getElem? hu)).2.1)]; exact h.each k u t hu ht
  · rw [List.getElem?_set_self (at_lt h.wai)]
  · rw [List.getElem?_set_ne h.n3]; exact h.met
/-- a turn is changed -/
theorem CAt.putTurn (h : CAt os st i c a) {k u : Nat} (f : Turn → Turn) {t : Turn} (hu : a.us[k]? = some u) (ht : c.turns[k]? = some t) : CAt os (st.set u (.lst (turnL (f t)))) i { c with turns := c.turns.modify k f } a := by
  have hm := List.mem_of_getElem? hu
  have n := h.n4 u hm
  refine ⟨?_, ?_, by simp [h.len], fun k' u' t' hu' ht' => ?_, ?_, ?_, h.n1, h.n2, h.n3, h.n4, h.nd, h.lo⟩
  · rw [List.getElem?_set_ne (Ne.symm (h.iu hm))]; exact h.ins
  · rw [List.getElem?_set_ne n.1]; exact h.tur
  · rw [List.getElem?_modify] at ht'
    by_cases e : k = k'
    · subst e
      rw [hu] at hu'
      cases hu'
      rw [ht] at ht'
      simp at ht'
      subst ht'
      rw [List.getElem?_set_self (at_lt (h.each k u t hu ht))]
    · have ne : u ≠ u' := fun z => by
        subst z
        obtain ⟨h1, e1⟩ := List.getElem?_eq_some_iff.mp hu
        obtain ⟨h2, e2⟩ := List.getElem?_eq_some_iff.mp hu'
        exact e ((List.getElem_inj h.nd).mp (e1.trans e2.symm))
      rw [List.getElem?_set_ne ne]
      exact h.each k' u' t' hu' (by simpa [e] using ht')
  · rw [List.getElem?_set_ne n.2.1]; exact h.wai
  · rw [List.getElem?_set_ne n.2.2]; exact h.met
/-- things laid behind -/
theorem CAt.app (h : CAt os st i c a) (g : Sto) : CAt os (st ++ g) i c a := by
  have up : ∀ {j : Nat} {o : SO}, st[j]? = some o → (st ++ g)[j]? = some o := fun {j o} e => by
    rw [List.getElem?_append_left (at_lt e)]
    exact e
  exact ⟨up h.ins, up h.tur, h.len, fun k u t hu ht => up (h.each k u t hu ht), up h.wai, up h.met, h.n1, h.n2, h.n3, h.n4, h.nd, h.lo⟩
/-- a new list of what waits -/
theorem CAt.newWait (h : CAt os st i c a) (ws : List (Nat × Nat)) : CAt os ((st ++ [SO.lst (ws.map pairV)]).set i (.ins "Course" coK [voiceV os, .ref a.ti, spV c.sp, .ref st.length, .ref a.mi, .int c.now])) i { c with wait := ws } { a with wi := st.length } := by
  have hi := at_lt h.ins
  have ht := at_lt h.tur
  have hm := at_lt h.met
  have hu : ∀ u ∈ a.us, u < st.length := fun u hu => by
    obtain ⟨xs, e⟩ := h.us_lst hu
    exact at_lt e
  have h' := h.app [SO.lst (ws.map pairV)]
  refine ⟨?_, ?_, h.len, fun k u t hu' ht' => ?_, ?_, ?_, Nat.ne_of_lt ht, h.n2, Nat.ne_of_gt hm, fun u hu' => ⟨(h.n4 u hu').1, Nat.ne_of_lt (hu u hu'), (h.n4 u hu').2.2⟩, h.nd, ⟨h.lo.1, Nat.le_of_lt hi, h.lo.2.2⟩⟩
  · rw [List.getElem?_set_self (at_lt h'.ins)]
  · rw [List.getElem?_set_ne h.it]; exact h'.tur
  · rw [List.getElem?_set_ne (h.iu (List.mem_of_getElem? hu'))]; exact h'.each k u t hu' ht'
  · show ((st ++ [SO.lst (ws.map pairV)]).set i _)[st.length]? = _
    rw [List.getElem?_set_ne (Nat.ne_of_lt hi)]
    simp
  · rw [List.getElem?_set_ne h.im]; exact h'.met
/-- a new list of turns, the first one gone -/
theorem CAt.newTurns (h : CAt os st i c a) : CAt os ((st ++ [SO.lst ((a.us.drop 1).map .ref)]).set i (.ins "Course" coK [voiceV os, .ref st.length, spV c.sp, .ref a.wi, .ref a.mi, .int c.now])) i { c with turns := c.turns.drop 1 } { a with ti := st.length, us := a.us.drop 1 } := by
  have hi := at_lt h.ins
  have hw := at_lt h.wai
  have hm := at_lt h.met
  have dm : ∀ u ∈ a.us.drop 1, u ∈ a.us := fun u hu => List.mem_of_mem_drop hu
  have hu : ∀ u ∈ a.us.drop 1, u < st.length := fun u hu => by
    obtain ⟨xs, e⟩ := h.us_lst (dm u hu)
    exact at_lt e
  have h' := h.app [SO.lst ((a.us.drop 1).map .ref)]
  refine ⟨?_, ?_, by simp [h.len], fun k u t hu' ht' => ?_, ?_, ?_, Nat.ne_of_gt hw, Nat.ne_of_gt hm, h.n3, fun u hu' => ⟨Nat.ne_of_lt (hu u hu'), (h.n4 u (dm u hu')).2⟩, h.nd.sublist (List.drop_sublist _ _), ⟨Nat.le_of_lt hi, h.lo.2.1, h.lo.2.2.1, fun u hu' => h.lo.2.2.2 u (dm u hu')⟩⟩
  · rw [List.getElem?_set_self (at_lt h'.ins)]
  · show ((st ++ [SO.lst ((a.us.drop 1).map .ref)]).set i _)[st.length]? = _
    rw [List.getElem?_set_ne (Nat.ne_of_lt hi)]
    simp
  · have hu2 : (a.us.drop 1)[k]? = some u := hu'
    have ht2 : (c.turns.drop 1)[k]? = some t := ht'
    rw [List.getElem?_drop] at hu2 ht2
    rw [List.getElem?_set_ne (h.iu (List.mem_of_getElem? hu2))]
    exact h'.each (1 + k) u t hu2 ht2
  · rw [List.getElem?_set_ne h.iw]; exact h'.wai
  · rw [List.getElem?_set_ne h.im]; exact h'.met
end
end Pg
namespace Pg
open PySem Mi
open L2 (atI atI_last ixN)
/-! ### a course, seen as it stands -/
theorem pureD_ok {c : CF} {us ws : List Val} {st s' : Sto} {v : Val} (h1 : allOf (snapD st 9) us = some ws) (h2 : c ws [] = some (.ok v, s')) (h3 : plain v = true) : pureD c us st = some (.ok v, st) := by
  unfold pureD
  rw [h1]
  dsimp only
  rw [h2]
  show (if plain v = true then some (Except.ok v, st) else none) = _
  rw [if_pos h3]
theorem snapD_nr {st : Sto} {v : Val} (h : noRef v = true) : ∀ n : Nat, snapD st n v = some v
  | 0 => by unfold snapD; rw [if_pos h]
  | n + 1 => by unfold snapD; rw [if_pos h]
theorem allOf_nr {st : Sto} {n : Nat} : ∀ {xs : List Val}, noRefs xs = true → allOf (snapD st n) xs = some xs
  | [], _ => rfl
  | x :: xs, h => by
    have h' := Bool.and_eq_true_iff.mp h
    unfold allOf
    rw [snapD_nr h'.1, allOf_nr h'.2]
theorem snapD_lst {st : Sto} {j n : Nat} {xs : List Val} (h : st[j]? = some (.lst xs)) (hn : noRefs xs = true) : snapD st (n + 1) (.ref j) = some (.lst xs) := by
  unfold snapD
  rw [if_neg (by simp [noRef])]
  dsimp only
  rw [h]
  dsimp only
  rw [allOf_nr hn]
  rfl
theorem pairs_nr (ws : List (Nat × Nat)) : noRefs (ws.map pairV) = true := noRefs_map (fun _ => rfl) ws
theorem strs_nr (ws : List Str) : noRefs (ws.map Val.str) = true := noRefs_map (fun _ => rfl) ws
theorem nats_nr (ws : List Nat) : noRefs (ws.map fun n : Nat => Val.int (n : Int)) = true := noRefs_map (fun _ => rfl) ws
theorem turnL_nr (t : Turn) : noRefs (turnL t) = true := by
  show (true && (true && (noRefs (t.left.map fun n : Nat => Val.int (n : Int)) && (true && true)))) = true
  rw [nats_nr]
  rfl
theorem spV_nr : ∀ s : Option Sp, noRef (spV s) = true
  | none => rfl
  | some _ => rfl
def turnsV (ts : List Turn) : List Val := ts.map fun t => .lst (turnL t)
def coSnap (os : List One) (c : Co) : Val := .ins "Course" coK [voiceV os, .lst (turnsV c.turns), spV c.sp, .lst (c.wait.map pairV), .lst (c.met.map .str), .int c.now]
theorem allOf_us {st : Sto} {n : Nat} : ∀ {us : List Nat} {ts : List Turn}, us.length = ts.length → (∀ (k : Nat) u t, us[k]? = some u → ts[k]? = some t → st[u]? = some (.lst (turnL t))) → allOf (snapD st (n + 1)) (us.map .ref) = some (turnsV ts)
  | [], [], _, _ => rfl
  | [], _ :: _, h, _ => by cases h
  | _ :: _, [], h, _ => by cases h
  | u :: us, t :: ts, h, g => by
    have ih := allOf_us (n := n) (us := us) (ts := ts) (Nat.succ.inj h) fun k u' t' hu ht => g (k + 1) u' t' (by simpa using hu) (by simpa using ht)
    rw [List.map_cons]
    unfold allOf
    rw [snapD_lst (g 0 u t rfl rfl) (turnL_nr t), ih]
    rfl
section
variable {os : List One} {st : Sto} {i : Nat} {c : Co} {a : Lay}
theorem CAt.snap (h : CAt os st i c a) : snapD st 9 (.ref i) = some (coSnap os c) := by
  unfold snapD
  rw [if_neg (by simp [noRef])]
  dsimp only
  rw [h.ins]
  dsimp only
  have e1 : snapD st 8 (.ref a.ti) = some (.lst (turnsV c.turns)) := by
    unfold snapD
    rw [if_neg (by simp [noRef])]
    dsimp only
    rw [h.tur]
    dsimp only
    rw [allOf_us h.len h.each]
    rfl
  have e2 : snapD st 8 (.ref a.wi) = some (.lst (c.wait.map pairV)) := snapD_lst h.wai (pairs_nr _)
  have e3 : snapD st 8 (.ref a.mi) = some (.lst (c.met.map .str)) := snapD_lst h.met (strs_nr _)
  simp only [allOf, snapD_nr (voiceV_nr os), e1, snapD_nr (spV_nr c.sp), e2, e3, snapD_nr (show noRef (.int c.now) = true from rfl)]
  rfl
theorem get_turns {ts : List Turn} {k : Nat} {t : Turn} (h : ts[k]? = some t) : atI (turnsV ts) (k : Int) = some (.lst (turnL t)) := by
  rw [atI_nat]
  unfold turnsV
  rw [List.getElem?_map, h]
  rfl
@[simp] theorem at_t0 {t : Turn} : atI (turnL t) 0 = some (.int t.d) := rfl
@[simp] theorem at_t1 {t : Turn} : atI (turnL t) 1 = some (.bl t.op) := rfl
@[simp] theorem at_t2 {t : Turn} : atI (turnL t) 2 = some (.tup (t.left.map fun n : Nat => Val.int (n : Int))) := rfl
@[simp] theorem at_t3 {t : Turn} : atI (turnL t) 3 = some (.bl t.told) := rfl
@[simp] theorem at4_0 {x y z w : Val} : atI [x, y, z, w] 0 = some x := rfl
@[simp] theorem at4_1 {x y z w : Val} : atI [x, y, z, w] 1 = some y := rfl
@[simp] theorem at4_2 {x y z w : Val} : atI [x, y, z, w] 2 = some z := rfl
@[simp] theorem at4_3 {x y z w : Val} : atI [x, y, z, w] 3 = some w := rfl
@[simp] theorem at2_0 {x y : Val} : atI [x, y] 0 = some x := rfl
@[simp] theorem at2_1 {x y : Val} : atI [x, y] 1 = some y := rfl
@[simp] theorem idx_t0 {st : Sto} {t : Turn} : idxV st (.lst (turnL t)) (.int 0) = some (.int t.d) := rfl
@[simp] theorem idx_t1 {st : Sto} {t : Turn} : idxV st (.lst (turnL t)) (.int 1) = some (.bl t.op) := rfl
@[simp] theorem idx_t2 {st : Sto} {t : Turn} : idxV st (.lst (turnL t)) (.int 2) = some (.tup (t.left.map fun n : Nat => Val.int (n : Int))) := rfl
@[simp] theorem idx_t3 {st : Sto} {t : Turn} : idxV st (.lst (turnL t)) (.int 3) = some (.bl t.told) := rfl
theorem sn_turns {st : Sto} : fldV (ownL ["Course"]) "turns" st (coSnap os c) = some (.lst (turnsV c.turns)) := rfl
theorem sn_speech {st : Sto} : fldV (ownL ["Course"]) "speech" st (coSnap os c) = some (spV c.sp) := rfl
theorem sn_waiting {st : Sto} : fldV (ownL ["Course"]) "waiting" st (coSnap os c) = some (.lst (c.wait.map pairV)) := rfl
theorem f_joins {o : One} {st : Sto} : fldV (ownL ["Call"]) "joins" st (callV o) = some (.int o.j) := rfl
theorem f_length {o : One} {st : Sto} : fldV (ownL ["Call"]) "length" st (callV o) = some (.int o.l) := rfl
theorem f_busy {o : One} {st : Sto} : fldV (ownL ["Call"]) "busy" st (callV o) = some (.str o.m) := rfl
theorem f_least {o : One} {st : Sto} : fldV (ownL ["Call"]) "least" st (callV o) = some (.int o.e) := rfl
theorem f_distance {o : One} {st : Sto} : fldV (ownL ["Call"]) "distance" st (callV o) = some (.int o.d) := rfl
theorem len_lst {xs : List Val} {st : Sto} : lenV st [.lst xs] = some (.int xs.length) := rfl
theorem idx_lst {xs : List Val} {st : Sto} {k : Int} : idxV st (.lst xs) (.int k) = atI xs k := rfl
theorem turnsV_len (ts : List Turn) : (turnsV ts).length = ts.length := by simp [turnsV]
theorem is_joined_ok (h : CAt os st i c a) {k : Nat} {o : One} (hk : k < c.turns.length) : c_Course_is_joined [.ref i, .int (k : Int), callV o] st = some (.ok (.bl (joinsAt c.turns k o)), st) := by
  refine pureD_ok (ws := [coSnap os c, .int (k : Int), callV o]) (s' := []) ?_ ?_ rfl
  · simp only [allOf, h.snap, snapD_nr (callV_nr o), snapD_nr (show noRef (.int (k : Int)) = true from rfl)]
  · rw [x_callS]
    unfold s_Course_is_joined
    have ht : c.turns[k]? = some c.turns[k] := List.getElem?_eq_getElem hk
    have g0 : atI (turnsV c.turns) (k : Int) = some (.lst (turnL c.turns[k])) := get_turns ht
    by_cases h1 : k + 1 < c.turns.length
    · have ht1 : c.turns[k + 1]? = some c.turns[k + 1] := List.getElem?_eq_getElem h1
      have g1 : atI (turnsV c.turns) ((k : Int) + 1) = some (.lst (turnL c.turns[k + 1])) := get_turns ht1
      have nl : ¬ ((c.turns.length : Int) ≤ (k : Int) + 1) := by omega
      unfold joinsAt
      rw [ht, ht1]
      dsimp only
      cases ho : c.turns[k + 1].op <;> simp [env0, sn_turns, len_lst, idx_lst, turnsV_len, g0, g1, nl, ho, f_joins]
    · have ht1 : c.turns[k + 1]? = none := List.getElem?_eq_none (by omega)
      have nl : ((c.turns.length : Int) ≤ (k : Int) + 1) := by omega
      unfold joinsAt
      rw [ht1]
      dsimp only
      simp [env0, sn_turns, len_lst, idx_lst, turnsV_len, nl]
theorem tells_ok (h : CAt os st i c a) : c_Course_tells_nearest [.ref i] st = some (.ok (.bl (tellsNearest c)), st) := by
  refine pureD_ok (ws := [coSnap os c]) (s' := []) ?_ ?_ rfl
  · simp only [allOf, h.snap]
  · rw [x_callS]
    unfold s_Course_tells_nearest tellsNearest
    cases e : c.sp with
    | none => simp [env0, sn_speech, e, spV]
    | some s =>
      by_cases h0 : s.turn = 0
      · simp [env0, sn_speech, e, spV, idx_tup, h0]
      · by_cases h1 : s.turn = -1
        · simp [env0, sn_speech, e, spV, idx_tup, h0, h1]
        · simp [env0, sn_speech, e, spV, idx_tup, h0, h1]
theorem plain_nats (ws : List Nat) : plains (ws.map fun n : Nat => Val.int (n : Int)) = true := by
  induction ws with
  | nil => rfl
  | cons n ws ih => exact ih
theorem plain_pairs (ws : List (Nat × Nat)) : plains (ws.map pairV) = true := by
  induction ws with
  | nil => rfl
  | cons n ws ih => exact ih
theorem plain_turns (ts : List Turn) : plains (ts.map fun t => .tup (turnL t)) = true := by
  induction ts with
  | nil => rfl
  | cons t ts ih =>
    rw [List.map_cons]
    show (plains (turnL t) && plains (ts.map fun t => .tup (turnL t))) = true
    rw [ih]
    show ((true && (true && (plains (t.left.map fun n : Nat => Val.int (n : Int)) && (true && true)))) && true) = true
    rw [plain_nats]
    rfl
theorem plain_sttV (s : Stt) : plain (sttV s) = true := by
  show (plains (s.turns.map fun t => .tup (turnL t)) && (plain (spV s.sp) && (plains (s.wait.map pairV) && true))) = true
  rw [plain_turns, plain_pairs]
  cases s.sp <;> rfl
theorem noRef_sttV (s : Stt) : noRef (sttV s) = true := by
  show (noRefs (s.turns.map fun t => .tup (turnL t)) && (noRef (spV s.sp) && (noRefs (s.wait.map pairV) && true))) = true
  rw [noRefs_map (enc := fun t => Val.tup (turnL t)) (fun t => turnL_nr t), spV_nr, pairs_nr]
  rfl
theorem state_ok (h : CAt os st i c a) (hl : c.turns.length ≤ 16000000) : c_Course_state [.ref i] st = some (.ok (sttV c.stt), st) := by
  refine pureD_ok (ws := [coSnap os c]) (s' := []) ?_ ?_ (plain_sttV _)
  · simp only [allOf, h.snap]
  · rw [x_callS]
    unfold s_Course_state
    have cm : comp (itS (un (fldV (ownL ["Course"]) "turns") (var 0))) (.name 1) [1] yes (app tupleV (consM (var 1) nilM)) [some (coSnap os c), none] [] = some (.ok (.lst (c.turns.map fun t => .tup (turnL t))), []) :=
      comp_gen (enc := fun t => .lst (turnL t)) (itS_ok (v := .lst (turnsV c.turns)) (un_ok (x := coSnap os c) rfl sn_turns) rfl) hl fun t ht => ⟨[some (coSnap os c), some (.lst (turnL t))], rfl, rfl⟩
    have t1 : ∀ xs : List Val, ∀ st, tupleV st [.lst xs] = some (.tup xs) := fun _ _ => rfl
    simp (decide := true) [env0, cm, t1, sn_speech, sn_waiting, sttV, Co.stt]
end
end Pg
namespace Pg
open PySem Mi
open L2 (atI atI_last ixN)
/-! ### a call begins, becomes due -/
def Co.mu (c : Co) : Nat := c.wait.length + (c.turns.map fun t => t.left.length).sum
/-- not too much -/
structure Co.Sz (c : Co) (n : Nat) : Prop where
  met : c.met.length + 2 * c.mu ≤ n
  turns : c.turns.length ≤ 1000
theorem allOf_bools : ∀ bs : List Bool, allOf asBool (bs.map Val.bl) = some bs
  | [] => rfl
  | b :: bs => by
    rw [List.map_cons]
    unfold allOf
    rw [allOf_bools bs]
    rfl
section
variable {os : List One} {st : Sto} {i : Nat} {c : Co} {a : Lay}
theorem spk_call {n : Nat} {o : One} {st : Sto} (hn : os[n]? = some o) : idxV st (.tup (os.map callV)) (.int (n : Int)) = some (callV o) := by
  rw [idx_tup, atI_nat, List.getElem?_map, hn]
  rfl
theorem near_ok (h : CAt os st i c a) {k : Nat} {env : Mi.Env} (hk : k ≤ c.turns.length) (hs : c.turns.length ≤ 1000) (h0 : env[0]? = some (some (.ref i))) (h1 : env[1]? = some (some (.int (k : Int)))) (hl : env.length = 7) :
    asB (app allV (consM (comp (itS (sliceM (un (fldV (ownL ["Course"]) "turns") (var 0)) nopart (part (var 1)))) (.name 6) [6] yes (bin idxV (var 6) (ret (.int 3)))) nilM)) env st = some (.ok ((c.turns.take k).all Turn.told), st) := by
  have cut : cutVal st (.ref a.ti) none (some (k : Int)) = some (.lst ((a.us.take k).map .ref)) := by
    show (match lstOf st (.ref a.ti) with | some xs => some (Val.lst (cutL xs none (some (k : Int)))) | none => none) = _
    rw [lst_ref h.tur]
    show some (Val.lst (cutL (a.us.map Val.ref) none (some (k : Int)))) = _
    rw [cut_lo, List.map_take]
  have sl : itS (sliceM (un (fldV (ownL ["Course"]) "turns") (var 0)) nopart (part (var 1))) env st = some (.ok (((a.us.take k).zip (c.turns.take k)).map fun p => .ref p.1), st) := by
    have e : ((a.us.take k).zip (c.turns.take k)).map (fun p : Nat × Turn => Val.ref p.1) = (a.us.take k).map .ref := by
      have : ((a.us.take k).zip (c.turns.take k)).map Prod.fst = a.us.take k := List.map_fst_zip (by rw [List.length_take, List.length_take, h.len]; exact Nat.le_refl _)
      calc _ = (((a.us.take k).zip (c.turns.take k)).map Prod.fst).map Val.ref := by rw [List.map_map]; rfl
        _ = _ := by rw [this]
    rw [e]
    simp [h0, h1, h.fT, cut]
    rfl
  have cm : comp (itS (sliceM (un (fldV (ownL ["Course"]) "turns") (var 0)) nopart (part (var 1)))) (.name 6) [6] yes (bin idxV (var 6) (ret (.int 3))) env st = some (.ok (.lst (((a.us.take k).zip (c.turns.take k)).map fun p => .bl p.2.told)), st) := by
    refine comp_gen (enc := fun p : Nat × Turn => Val.ref p.1) (g := fun p => Val.bl p.2.told) sl (by rw [List.length_zip, List.length_take]; omega) fun p hp => ?_
    obtain ⟨q, hq, e⟩ := List.getElem_of_mem hp
    have e' : ((a.us.take k).zip (c.turns.take k))[q]? = some p := by rw [List.getElem?_eq_getElem hq, e]
    obtain ⟨e1, e2⟩ := List.getElem?_zip_eq_some.mp e'
    have hqk : q < k := by
      have := (List.getElem?_eq_some_iff.mp e1).1
      rw [List.length_take] at this
      omega
    rw [List.getElem?_take_of_lt hqk] at e1 e2
    have hat := h.each q p.1 p.2 e1 e2
    refine ⟨(env.set 6 none).set 6 (some (.ref p.1)), rfl, ?_⟩
    have v6 : (env.set 6 (some (.ref p.1)))[6]? = some (some (.ref p.1)) := by
      rw [List.getElem?_set_self (by simp [hl])]
    simp [v6, idx_ref hat]
  have al : allV st [.lst (((a.us.take k).zip (c.turns.take k)).map fun p => .bl p.2.told)] = some (.bl ((c.turns.take k).all Turn.told)) := by
    show (allOf asBool (((a.us.take k).zip (c.turns.take k)).map fun p : Nat × Turn => Val.bl p.2.told)).map _ = _
    have e : ((a.us.take k).zip (c.turns.take k)).map (fun p : Nat × Turn => Val.bl p.2.told) = ((c.turns.take k).map Turn.told).map Val.bl := by
      have : ((a.us.take k).zip (c.turns.take k)).map Prod.snd = c.turns.take k := List.map_snd_zip (by rw [List.length_take, List.length_take, h.len]; exact Nat.le_refl _)
      calc _ = ((((a.us.take k).zip (c.turns.take k)).map Prod.snd).map Turn.told).map Val.bl := by rw [List.map_map, List.map_map]; rfl
        _ = _ := by rw [this]
    rw [e, allOf_bools]
    show some (Val.bl (((c.turns.take k).map Turn.told).all id)) = _
    rw [List.all_map]
    rfl
  simp [cm, al]
/-- what waits is sifted, over a snapshot -/
theorem snapED_get {st : Sto} : ∀ {env : Mi.Env} {j : Nat} {v w : Val}, env[j]? = some (some v) → snapD st 9 v = some w → (snapED st env)[j]? = some (some w)
  | [], j, v, w, h, _ => by simp at h
  | e :: es, 0, v, w, h, g => by
    have h' : e = some v := by simpa using h
    subst h'
    show some ((some v).bind (snapD st 9)) = _
    rw [Option.bind_some, g]
  | e :: es, j + 1, v, w, h, g => by
    show (snapED st es)[j]? = _
    exact snapED_get (by simpa using h) g
theorem snapED_len {st : Sto} : ∀ {env : Mi.Env}, (snapED st env).length = env.length
  | [] => rfl
  | e :: es => by
    show (snapED st es).length + 1 = _
    rw [snapED_len]
    rfl
theorem borS_ok {m : M Val} {env : Mi.Env} {st : Sto} {ys : List Val} {j : Nat} {s' : Sto} (h : m (snapED st env) [] = some (.ok (.ref j), s')) (hj : s'[j]? = some (.lst ys)) (hp : plains ys = true) : borS m env st = some (.ok (.ref st.length), st ++ [.lst ys]) := by
  unfold borS
  rw [h]
  dsimp only
  rw [hj]
  dsimp only
  rw [if_pos hp]
theorem compLoop_flt {α : Type} {enc : α → Val} {g : α → Val} {P : α → Bool} {t : Tg} {own : List Nat} {cond : M Bool} {elt : M Val} {env : Mi.Env} {st : Sto} : ∀ {as : List α}, (∀ a ∈ as, ∃ env1, bindT t (enc a) (wipeE env own) = some env1 ∧ cond env1 st = some (.ok (P a), st) ∧ (P a = true → elt env1 st = some (.ok (g a), st))) →
    compLoop t own cond elt (as.map enc) env st = some (.ok ((as.filter P).map g), st)
  | [], _ => rfl
  | x :: as, h => by
    obtain ⟨e1, h1, h2, h3⟩ := h x List.mem_cons_self
    have ih := compLoop_flt (t := t) (own := own) (cond := cond) (elt := elt) (env := env) (st := st) (g := g) (P := P) (as := as) fun b hb => h b (List.mem_cons_of_mem _ hb)
    rw [List.map_cons]
    unfold compLoop
    rw [h1]
    dsimp only
    rw [h2]
    cases hp : P x with
    | false =>
      dsimp only
      rw [ih, List.filter_cons_of_neg (by rw [hp]; decide)]
    | true =>
      dsimp only
      rw [h3 hp]
      dsimp only
      rw [ih, List.filter_cons_of_pos hp]
      rfl
theorem compS_flt {α : Type} {enc : α → Val} {g : α → Val} {P : α → Bool} {as : List α} {mi : M (List Val)} {t : Tg} {own : List Nat} {cond : M Bool} {elt : M Val} {env : Mi.Env} {st s1 : Sto} (hm : mi env st = some (.ok (as.map enc), s1)) (hl : as.length ≤ 16000000)
    (h : ∀ a ∈ as, ∃ env1, bindT t (enc a) (wipeE env own) = some env1 ∧ cond env1 s1 = some (.ok (P a), s1) ∧ (P a = true → elt env1 s1 = some (.ok (g a), s1))) : compS mi t own cond elt env st = some (.ok (.ref s1.length), s1 ++ [.lst ((as.filter P).map g)]) := by
  unfold compS compM
  rw [x_bnd, x_bnd, hm, bK_ok, if_pos (by rw [List.length_map]; exact hl), compLoop_flt h]
  rfl
theorem comp_flt {α : Type} {enc : α → Val} {g : α → Val} {P : α → Bool} {as : List α} {mi : M (List Val)} {t : Tg} {own : List Nat} {cond : M Bool} {elt : M Val} {env : Mi.Env} {st s1 : Sto} (hm : mi env st = some (.ok (as.map enc), s1)) (hl : as.length ≤ 16000000)
    (h : ∀ a ∈ as, ∃ env1, bindT t (enc a) (wipeE env own) = some env1 ∧ cond env1 s1 = some (.ok (P a), s1) ∧ (P a = true → elt env1 s1 = some (.ok (g a), s1))) : comp mi t own cond elt env st = some (.ok (.lst ((as.filter P).map g)), s1) := by
  unfold comp compM
  rw [x_bnd, x_bnd, hm, bK_ok, if_pos (by rw [List.length_map]; exact hl), compLoop_flt h]
  rfl
theorem sift_ok (h : CAt os st i c a) {k : Nat} {env : Mi.Env} (hs : c.wait.length ≤ 16000000) (h0 : env[0]? = some (some (.ref i))) (h1 : env[1]? = some (some (.int (k : Int)))) (hl : env.length = 7) :
    borS (compS (itS (un (fldV (ownL ["Course"]) "waiting") (var 0))) (.name 5) [5] (asB (bin neV (bin idxV (var 5) (ret (.int 0))) (bin addV (var 1) (ret (.int 1))))) (var 5)) env st = some (.ok (.ref st.length), st ++ [.lst ((c.wait.filter fun p => p.1 != k + 1).map pairV)]) := by
  have g0 := snapED_get h0 h.snap
  have g1 := snapED_get (st := st) h1 (snapD_nr rfl 9)
  have gl : (snapED st env).length = 7 := by rw [snapED_len]; exact hl
  refine borS_ok (j := 0) (s' := [.lst ((c.wait.filter fun p => p.1 != k + 1).map pairV)]) (compS_flt (enc := pairV) (as := c.wait) (s1 := []) (P := fun p => p.1 != k + 1) (g := pairV) ?_ hs fun p hp => ⟨((snapED st env).set 5 none).set 5 (some (pairV p)), rfl, ?_, fun _ => ?_⟩) rfl (plain_pairs _)
  · simp [g0, sn_waiting]
    rfl
  · have v5 : ((snapED st env).set 5 (some (pairV p)))[5]? = some (some (pairV p)) := by rw [List.getElem?_set_self (by simp [gl])]
    have v1 : ((snapED st env).set 5 (some (pairV p)))[1]? = some (some (.int (k : Int))) := by rw [List.getElem?_set_ne (by decide)]; exact g1
    have e : (!((p.1 : Int) == (k : Int) + 1)) = (p.1 != k + 1) := by
      by_cases z : p.1 = k + 1
      · simp [z]
      · have w : ¬ (p.1 : Int) = (k : Int) + 1 := by omega
        rw [bne_iff_ne.mpr z, beq_eq_false_iff_ne.mpr w]
        rfl
    have ix : ∀ st, idxV st (pairV p) (.int 0) = some (.int (p.1 : Int)) := fun _ => rfl
    simp [v5, v1, ix, ← e]
  · have v5 : ((snapED st env).set 5 (some (pairV p)))[5]? = some (some (pairV p)) := by rw [List.getElem?_set_self (by simp [gl])]
    simp [v5]
end
end Pg
namespace Pg
open PySem Mi
open L2 (atI atI_last ixN)
theorem fld_set {own : Str → Bool} {f c : Str} {mo mv : M Val} {env : Mi.Env} {st s1 : Sto} {i : Nat} {ks : List Str} {xs : List Val} {y : Val} (hv : mv env st = some (.ok y, s1)) (ho : mo env s1 = some (.ok (.ref i), s1)) (hi : s1[i]? = some (.ins c ks xs)) (hown : own c = true) (hk : ks.length < 900) :
    sFldV own f mo mv env st = some (.next, env, s1.set i (.ins c (putK f ks) (putX f y ks xs))) := by
  rw [x_sFldV, hv, eK_ok, x_sBnd, ho, eK_ok]
  dsimp only
  rw [hi]
  dsimp only
  rw [if_pos ⟨hown, hk⟩]
theorem sub_set {me mo mi : M Val} {env : Mi.Env} {st s1 : Sto} {i l : Nat} {xs : List Val} {y : Val} {n : Int} (hv : me env st = some (.ok y, s1)) (ho : mo env s1 = some (.ok (.ref i), s1)) (hn : mi env s1 = some (.ok (.int n), s1)) (hi : s1[i]? = some (.lst xs)) (hl : ixN xs.length n = some l) :
    sSub me mo mi env st = some (.next, env, s1.set i (.lst (xs.set l y))) := by
  rw [x_sSub, hv, eK_ok, x_sBnd, ho, eK_ok, x_sBnd, hn, eK_ok]
  dsimp only
  rw [hi]
  dsimp only
  rw [hl]
section
variable {os : List One} {st : Sto} {i : Nat} {c : Co} {a : Lay}
/-- the speech is set -/
theorem CAt.setSp (h : CAt os st i c a) {s : Option Sp} {mv : M Val} {env : Mi.Env} {v : Nat} (hv : mv env st = some (.ok (spV s), st)) (h0 : env[v]? = some (some (.ref i))) :
    ∃ st', sFldV (ownL ["Course"]) "speech" (var v) mv env st = some (.next, env, st') ∧ CAt os st' i { c with sp := s } a ∧ Fb i st st' :=
  ⟨_, fld_set hv (by simp [h0]) h.ins (by decide) (by decide), h.putSp s, Fb.set (Nat.le_refl _)⟩
theorem CAt.addMet (h : CAt os st i c a) {w : Str} {env : Mi.Env} {v : Nat} (hm : c.met.length < 16000000) (h0 : env[v]? = some (some (.ref i))) :
    ∃ st', sExpr (lm appendV (un (fldV (ownL ["Course"]) "met") (var v)) (consM (ret (.str w)) nilM)) env st = some (.next, env, st') ∧ CAt os st' i { c with met := c.met ++ [w] } a ∧ Fb i st st' := by
  refine ⟨_, ?_, h.putMet (c.met ++ [w]), Fb.set h.lo.2.2.1⟩
  have e : appendV st (.ref a.mi) [.str w] = some (.non, st.set a.mi (.lst ((c.met ++ [w]).map .str))) := by
    rw [app_ref h.met (by rw [List.length_map]; exact hm), List.map_append]
    rfl
  simp [h0, h.fM, isLst_ref h.met, e]
theorem CAt.setWait (h : CAt os st i c a) {ws : List (Nat × Nat)} {mv : M Val} {env : Mi.Env} {v : Nat} (hv : mv env st = some (.ok (.ref st.length), st ++ [.lst (ws.map pairV)])) (h0 : env[v]? = some (some (.ref i))) :
    ∃ st' a', sFldV (ownL ["Course"]) "waiting" (var v) mv env st = some (.next, env, st') ∧ CAt os st' i { c with wait := ws } a' ∧ Fb i st st' ∧ a'.us = a.us ∧ a'.ti = a.ti :=
  ⟨_, _, fld_set hv (by simp [h0]) (h.app [SO.lst (ws.map pairV)]).ins (by decide) (by decide), h.newWait ws, (Fb.app (g := [SO.lst (ws.map pairV)]) (Nat.le_of_lt (at_lt h.ins))).trans (Fb.set (Nat.le_refl _)), rfl, rfl⟩
theorem CAt.subTurn (h : CAt os st i c a) {me mo mi : M Val} {env : Mi.Env} {k u l : Nat} {t : Turn} {y : Val} {n : Int} (f : Turn → Turn) (hu : a.us[k]? = some u) (ht : c.turns[k]? = some t) (hv : me env st = some (.ok y, st)) (ho : mo env st = some (.ok (.ref u), st)) (hn : mi env st = some (.ok (.int n), st))
    (hl : ixN 4 n = some l) (hf : (turnL t).set l y = turnL (f t)) : ∃ st', sSub me mo mi env st = some (.next, env, st') ∧ CAt os st' i { c with turns := c.turns.modify k f } a ∧ Fb i st st' := by
  refine ⟨_, ?_, h.putTurn f hu ht, Fb.set (h.lo.2.2.2 u (List.mem_of_getElem? hu))⟩
  rw [sub_set hv ho hn (h.each k u t hu ht) hl, hf]
theorem CAt.at_turn (h : CAt os st i c a) {k : Nat} {t : Turn} (ht : c.turns[k]? = some t) : ∃ u, a.us[k]? = some u ∧ idxV st (.ref a.ti) (.int (k : Int)) = some (.ref u) ∧ st[u]? = some (.lst (turnL t)) := by
  have hk : k < a.us.length := by
    rw [h.len]
    exact (List.getElem?_eq_some_iff.mp ht).1
  have hu : a.us[k]? = some a.us[k] := List.getElem?_eq_getElem hk
  refine ⟨_, hu, ?_, h.each _ _ _ hu ht⟩
  rw [idx_ref h.tur, atI_nat, List.getElem?_map, hu]
  rfl
theorem bool_int (b : Bool) (st : Sto) : intV st [.bl b] = some (.int (if b then 1 else 0)) := by cases b <;> rfl
theorem begin_ok (h : CAt os st i c a) {k n : Nat} {o : One} (hn : os[n]? = some o) (hk : k < c.turns.length) (hs : c.turns.length ≤ 1000) (hm : c.met.length < 16000000) (hw : c.wait.length ≤ 16000000) :
    ∃ st' a', c_Course_begin [.ref i, .int (k : Int), .int (n : Int)] st = some (.ok .non, st') ∧ CAt os st' i (c.begin k n o) a' ∧ Fb i st st' ∧ a'.ti = a.ti ∧ a'.us = a.us := by
  generalize hj : joinsAt c.turns k o = j
  have ht : c.turns[k]? = some c.turns[k] := List.getElem?_eq_getElem hk
  let E : Mi.Env := [some (.ref i), some (.int (k : Int)), some (.int (n : Int)), some (callV o), some (.bl j), none, none]
  -- what is told ahead
  have s3 : ∃ st1, sIf (notB (asB (app allV (consM (comp (itS (sliceM (un (fldV (ownL ["Course"]) "turns") (var 0)) nopart (part (var 1)))) (.name 6) [6] yes (bin idxV (var 6) (ret (.int 3)))) nilM)))) (sExpr (lm appendV (un (fldV (ownL ["Course"]) "met") (var 0)) (consM (ret (.str "ahead")) nilM))) sNext E st = some (.next, E, st1) ∧ CAt os st1 i { c with met := if (c.turns.take k).all Turn.told then c.met else c.met ++ [("ahead" : Str)] } a ∧ Fb i st st1 := by
    have nr := near_ok h (env := E) (Nat.le_of_lt hk) hs rfl rfl rfl
    cases q : (c.turns.take k).all Turn.told with
    | true =>
      rw [q] at nr
      refine ⟨st, ?_, by simpa using h, Fb.refl⟩
      rw [x_sIf, x_notB, nr]
      rfl
    | false =>
      rw [q] at nr
      obtain ⟨st1, e1, h1, f1⟩ := h.addMet (w := "ahead") (env := E) (v := 0) hm rfl
      refine ⟨st1, ?_, by simpa using h1, f1⟩
      rw [x_sIf, x_notB, nr]
      exact e1
  obtain ⟨st1, e1, h1, f1⟩ := s3
  obtain ⟨st2, e2, h2, f2⟩ := h1.setSp (s := some ⟨k, n, o.l + (if j then 1 else 0), j⟩) (env := E) (v := 0) (mv := mkTup (consM (var 1) (consM (var 2) (consM (bin addV (un (fldV (ownL ["Call"]) "length") (var 3)) (app intV (consM (var 4) nilM))) (consM (var 4) nilM))))) (by
    simp (decide := true) [E, f_length, bool_int, spV]) rfl
  have e0 : s_Course_begin (env0 7 [.ref i, .int (k : Int), .int (n : Int)]) st = sIf (asB (var 4)) (sSeq (sSub (mkTup nilM) (bin idxV (un (fldV (ownL ["Course"]) "turns") (var 0)) (bin addV (var 1) (ret (.int 1)))) (ret (.int 2)))
    (sFldV (ownL ["Course"]) "waiting" (var 0) (borS (compS (itS (un (fldV (ownL ["Course"]) "waiting") (var 0))) (.name 5) [5] (asB (bin neV (bin idxV (var 5) (ret (.int 0))) (bin addV (var 1) (ret (.int 1))))) (var 5))))) sNext E st2 := by
    unfold s_Course_begin
    rw [sSeq_next (e1 := [some (.ref i), some (.int (k : Int)), some (.int (n : Int)), some (callV o), none, none, none]) (s1 := st) (by simp [env0, h.fS, f_calls, spk_call hn])]
    rw [sSeq_next (e1 := E) (s1 := st) (by simp [h.isC (m := "is_joined") (by decide), is_joined_ok h hk, hj, E])]
    rw [sSeq_next e1, sSeq_next e2]
  cases hb : j with
  | false =>
    subst hb
    refine ⟨st2, a, ?_, ?_, f1.trans f2, rfl, rfl⟩
    · unfold c_Course_begin
      rw [x_callS, e0]
      simp [E]
    · unfold Co.begin
      simpa [hj] using h2
  | true =>
    subst hb
    have hk1 : k + 1 < c.turns.length := by
      unfold joinsAt at hj
      cases q : c.turns[k + 1]? with
      | none => rw [q] at hj; cases hj
      | some u => exact (List.getElem?_eq_some_iff.mp q).1
    have ht1 : c.turns[k + 1]? = some c.turns[k + 1] := List.getElem?_eq_getElem hk1
    obtain ⟨u, hu, ix, _⟩ := h2.at_turn ht1
    have ek : ((k : Int) + 1) = ((k + 1 : Nat) : Int) := by omega
    obtain ⟨st3, e3, h3, f3⟩ := h2.subTurn (me := mkTup nilM) (mo := bin idxV (un (fldV (ownL ["Course"]) "turns") (var 0)) (bin addV (var 1) (ret (.int 1)))) (mi := ret (.int 2)) (env := E) (y := .tup []) (n := 2) (l := 2) Turn.noLeft hu ht1 (by simp (decide := true)) (by rw [← ek] at ix; simp [E, h2.fT, ix]) rfl rfl rfl
    have e4 := sift_ok h3 (k := k) (env := E) hw rfl rfl rfl
    obtain ⟨st5, a5, e5, h5, f5, q1, q2⟩ := h3.setWait (v := 0) e4 rfl
    refine ⟨st5, a5, ?_, ?_, ((f1.trans f2).trans f3).trans f5, q2, q1⟩
    · unfold c_Course_begin
      rw [x_callS, e0, x_sIf, show asB (var 4) E st2 = some (.ok true, st2) from rfl, eK_ok, if_pos rfl, sSeq_next e3, e5]
      rfl
    · unfold Co.begin
      rw [hj]
      exact h5
end
end Pg
namespace Pg
open PySem Mi
open L2 (atI atI_last ixN)
@[simp] theorem eqV_strs {st : Sto} {x y : Str} : eqV st (.str x) (.str y) = some (.bl (x == y)) := rfl
@[simp] theorem neV_strs {st : Sto} {x y : Str} : neV st (.str x) (.str y) = some (.bl (!(x == y))) := rfl
section
variable {os : List One} {st : Sto} {i : Nat} {c : Co} {a : Lay}
theorem due_ok (h : CAt os st i c a) {k n : Nat} {o : One} (hn : os[n]? = some o) (hk : k < c.turns.length) (hs : c.turns.length ≤ 1000) (hm : c.met.length < 900000) (hw : c.wait.length < 900000) :
    ∃ st' a', c_Course_become_due [.ref i, .int (k : Int), .int (n : Int)] st = some (.ok .non, st') ∧ CAt os st' i (c.due k n o) a' ∧ Fb i st st' ∧ a'.ti = a.ti ∧ a'.us = a.us := by
  have isb : ∀ {st : Sto} {c : Co} {a : Lay}, CAt os st i c a → isOf "Course" "begin" st (.ref i) = true := fun h => h.isC (by decide)
  unfold c_Course_become_due Co.due
  rw [x_callS]
  unfold s_Course_become_due
  rw [sSeq_next (e1 := [some (.ref i), some (.int (k : Int)), some (.int (n : Int)), some (.str o.m)]) (s1 := st) (by simp [env0, h.fS, f_calls, spk_call hn, f_busy])]
  cases e : c.sp with
  | none =>
    obtain ⟨st', a', e1, h1, f1, q1, q2⟩ := begin_ok h hn hk hs (by omega) (by omega)
    refine ⟨st', a', ?_, h1, f1, q1, q2⟩
    simp [h.fP, e, spV, isb h, e1]
  | some s =>
    dsimp only
    by_cases m1 : o.m = "wait"
    · rw [if_pos m1]
      have ap : appendV st (.ref a.wi) [.tup [.int (k : Int), .int (n : Int)]] = some (.non, st.set a.wi (.lst ((c.wait ++ [(k, n)]).map pairV))) := by
        rw [app_ref h.wai (by rw [List.length_map]; omega), List.map_append]
        rfl
      have q := h.putWait (c.wait ++ [(k, n)])
      rw [e] at q
      refine ⟨_, a, ?_, q, Fb.set h.lo.2.1, rfl, rfl⟩
      simp (decide := true) [h.fP, e, spV, m1, h.fW, isLst_ref h.wai, ap]
    · rw [if_neg m1]
      by_cases m2 : o.m = "cut"
      · rw [if_pos m2]
        obtain ⟨st1, e1, h1, f1⟩ := h.addMet (w := "cut") (env := [some (.ref i), some (.int (k : Int)), some (.int (n : Int)), some (.str o.m)]) (v := 0) (by omega) rfl
        obtain ⟨st', a', e2, h2, f2, q1, q2⟩ := begin_ok h1 hn hk hs (by simp; omega) (by show c.wait.length ≤ _; omega)
        refine ⟨st', a', ?_, h2, f1.trans f2, q1, q2⟩
        rw [x_sIf, show asB (bin isNV (un (fldV (ownL ["Course"]) "speech") (var 0)) (ret .non)) [some (.ref i), some (.int (k : Int)), some (.int (n : Int)), some (.str o.m)] st = some (.ok false, st) by simp [h.fP, e, spV], eK_ok, if_neg (by decide)]
        rw [x_sIf, show asB (bin eqV (var 3) (ret (.str "wait"))) [some (.ref i), some (.int (k : Int)), some (.int (n : Int)), some (.str o.m)] st = some (.ok false, st) by simp [m2]; decide, eK_ok, if_neg (by decide)]
        rw [x_sIf, show asB (bin eqV (var 3) (ret (.str "cut"))) [some (.ref i), some (.int (k : Int)), some (.int (n : Int)), some (.str o.m)] st = some (.ok true, st) by simp [m2], eK_ok, if_pos rfl]
        rw [sSeq_next e1]
        simp [isb h1, e2]
      · rw [if_neg m2]
        refine ⟨st, a, ?_, h, Fb.refl, rfl, rfl⟩
        simp [h.fP, e, spV, m1, m2]
end
/-! ### what stays true -/
section
variable {os : List One} {c : Co}
theorem joins_lt {ts : List Turn} {k : Nat} {o : One} (h : joinsAt ts k o = true) : k + 1 < ts.length := by
  unfold joinsAt at h
  cases q : ts[k + 1]? with
  | none => rw [q] at h; cases h
  | some u => exact (List.getElem?_eq_some_iff.mp q).1
@[simp] theorem begin_len {k n : Nat} {o : One} : (c.begin k n o).turns.length = c.turns.length := by
  unfold Co.begin
  dsimp only
  split <;> simp
@[simp] theorem due_len {k n : Nat} {o : One} : (c.due k n o).turns.length = c.turns.length := by
  unfold Co.due
  split
  · simp
  · split
    · rfl
    · split
      · simp
      · rfl
@[simp] theorem due1_len {i n : Nat} : (due1 os i c n).turns.length = c.turns.length := by
  unfold due1
  split
  · split
    · simp
    · rfl
  · rfl
theorem fold1_len {i : Nat} : ∀ {l : List Nat} {c : Co}, (l.foldl (due1 os i) c).turns.length = c.turns.length
  | [], c => rfl
  | n :: l, c => by
    rw [List.foldl_cons, fold1_len, due1_len]
@[simp] theorem dueTurn_len {i : Nat} : (dueTurn os c i).turns.length = c.turns.length := by
  unfold dueTurn
  split
  · exact fold1_len
  · rfl
theorem foldT_len : ∀ {l : List Nat} {c : Co}, (l.foldl (dueTurn os) c).turns.length = c.turns.length
  | [], c => rfl
  | n :: l, c => by
    rw [List.foldl_cons, foldT_len, dueTurn_len]
@[simp] theorem allDue_len : (allDue os c).turns.length = c.turns.length := foldT_len
theorem mem_mod {ts : List Turn} {k : Nat} {f : Turn → Turn} {t : Turn} (h : t ∈ ts.modify k f) : t ∈ ts ∨ ∃ u ∈ ts, t = f u := by
  obtain ⟨j, hj, e⟩ := List.getElem_of_mem h
  have e' : (ts.modify k f)[j]? = some t := by rw [List.getElem?_eq_getElem hj, e]
  rw [List.getElem?_modify] at e'
  cases q : ts[j]? with
  | none => rw [q] at e'; cases e'
  | some u =>
    rw [q] at e'
    have hu := List.mem_of_getElem? q
    by_cases hk : k = j
    · simp [hk] at e'
      exact .inr ⟨u, hu, e'.symm⟩
    · simp [hk] at e'
      exact .inl (e' ▸ hu)
/-- the calls are in order -/
def Good (os : List One) : Prop := ∀ o ∈ os, 1 ≤ o.l
theorem begin_wf {k n : Nat} {o : One} (g : Good os) (h : c.Ok os) (hn : os[n]? = some o) (hk : k < c.turns.length) : (c.begin k n o).Ok os := by
  have hnl := (List.getElem?_eq_some_iff.mp hn).1
  refine ⟨fun t ht m hm => ?_, fun p hp => ?_, fun s hs => ?_⟩
  · unfold Co.begin at ht
    dsimp only at ht
    split at ht
    · rcases mem_mod ht with z | ⟨u, hu, rfl⟩
      · exact h.left t z m hm
      · cases hm
    · exact h.left t ht m hm
  · rw [begin_len]
    unfold Co.begin at hp
    dsimp only at hp
    split at hp
    · exact h.wait p (List.mem_filter.mp hp).1
    · exact h.wait p hp
  · rw [begin_len]
    unfold Co.begin at hs
    cases hs
    have gl := g o (List.mem_of_getElem? hn)
    refine ⟨hnl, ?_, ?_, ?_⟩
    · dsimp only
      split <;> omega
    · dsimp only
      split
      · rename_i hj
        have := joins_lt hj
        omega
      · omega
    · dsimp only
      omega
theorem due_wf {k n : Nat} {o : One} (g : Good os) (h : c.Ok os) (hn : os[n]? = some o) (hk : k < c.turns.length) : (c.due k n o).Ok os := by
  have hnl := (List.getElem?_eq_some_iff.mp hn).1
  unfold Co.due
  split
  · exact begin_wf g h hn hk
  · rename_i s hs
    split
    · refine ⟨h.left, fun p hp => ?_, h.sp⟩
      rcases List.mem_append.mp hp with z | z
      · exact h.wait p z
      · rw [List.mem_singleton.mp z]
        exact ⟨hk, hnl⟩
    · split
      · exact begin_wf g (c := { c with met := c.met ++ [("cut" : Str)] }) ⟨h.left, h.wait, h.sp⟩ hn hk
      · exact h
theorem less_wf {i n : Nat} (h : c.Ok os) : ({ c with turns := c.turns.modify i (Turn.less n) } : Co).Ok os := by
  refine ⟨fun t ht m hm => ?_, fun p hp => ?_, fun s hs => ?_⟩
  · rcases mem_mod ht with z | ⟨u, hu, rfl⟩
    · exact h.left t z m hm
    · exact h.left u hu m (List.mem_filter.mp hm).1
  · have := h.wait p hp
    simpa using this
  · have := h.sp s hs
    simpa using this
theorem due1_wf {i n : Nat} (g : Good os) (h : c.Ok os) : (due1 os i c n).Ok os := by
  unfold due1
  split
  · rename_i t o ht ho
    split
    · exact due_wf g (less_wf h) ho (by simpa using (List.getElem?_eq_some_iff.mp ht).1)
    · exact h
  · exact h
theorem fold1_wf {i : Nat} (g : Good os) : ∀ {l : List Nat} {c : Co}, c.Ok os → (l.foldl (due1 os i) c).Ok os
  | [], c, h => h
  | n :: l, c, h => by
    rw [List.foldl_cons]
    exact fold1_wf g (due1_wf g h)
theorem dueTurn_wf {i : Nat} (g : Good os) (h : c.Ok os) : (dueTurn os c i).Ok os := by
  unfold dueTurn
  split
  · exact fold1_wf g h
  · exact h
theorem foldT_wf (g : Good os) : ∀ {l : List Nat} {c : Co}, c.Ok os → (l.foldl (dueTurn os) c).Ok os
  | [], c, h => h
  | n :: l, c, h => by
    rw [List.foldl_cons]
    exact foldT_wf g (dueTurn_wf g h)
theorem allDue_wf (g : Good os) (h : c.Ok os) : (allDue os c).Ok os := foldT_wf g h
/-! sizes -/
def lefts (ts : List Turn) : Nat := (ts.map fun t => t.left.length).sum
theorem mu_eq : c.mu = c.wait.length + lefts c.turns := rfl
theorem lefts_mod {f : Turn → Turn} (hf : ∀ t : Turn, (f t).left.length ≤ t.left.length) : ∀ {ts : List Turn} {k : Nat}, lefts (ts.modify k f) ≤ lefts ts
  | [], k => by simp
  | t :: ts, 0 => by
    show lefts (f t :: ts) ≤ _
    unfold lefts
    simp only [List.map_cons, List.sum_cons]
    have := hf t
    omega
  | t :: ts, k + 1 => by
    show lefts (t :: ts.modify k f) ≤ _
    have := lefts_mod hf (ts := ts) (k := k)
    unfold lefts at this ⊢
    simp only [List.map_cons, List.sum_cons]
    omega
theorem lefts_less {n : Nat} : ∀ {ts : List Turn} {k : Nat} {t : Turn}, ts[k]? = some t → n ∈ t.left → lefts (ts.modify k (Turn.less n)) + 1 ≤ lefts ts
  | [], k, t, h, _ => by simp at h
  | u :: ts, 0, t, h, hn => by
    have e : u = t := by simpa using h
    subst e
    show lefts (Turn.less n u :: ts) + 1 ≤ _
    unfold lefts Turn.less
    simp only [List.map_cons, List.sum_cons]
    have : (u.left.filter fun x => x != n).length + 1 ≤ u.left.length := by
      have h1 : (u.left.filter fun x => x != n).length < u.left.length := List.length_filter_lt_length_iff_exists.mpr ⟨n, hn, by simp⟩
      omega
    omega
  | u :: ts, k + 1, t, h, hn => by
    show lefts (u :: ts.modify k (Turn.less n)) + 1 ≤ _
    have := lefts_less (ts := ts) (k := k) (t := t) (by simpa using h) hn
    unfold lefts at this ⊢
    simp only [List.map_cons, List.sum_cons]
    omega
theorem begin_sz {k n : Nat} {o : One} {m : Nat} (h : c.Sz m) : (c.begin k n o).Sz (m + 1) := by
  refine ⟨?_, by rw [begin_len]; exact h.turns⟩
  have h1 := h.met
  rw [mu_eq] at h1 ⊢
  have a1 : (c.begin k n o).met.length ≤ c.met.length + 1 := by
    unfold Co.begin
    dsimp only
    split <;> simp
  have a2 : (c.begin k n o).wait.length ≤ c.wait.length := by
    unfold Co.begin
    dsimp only
    split
    · exact List.length_filter_le _ _
    · exact Nat.le_refl _
  have a3 : lefts (c.begin k n o).turns ≤ lefts c.turns := by
    unfold Co.begin
    dsimp only
    split
    · exact lefts_mod (f := Turn.noLeft) fun t => Nat.zero_le _
    · exact Nat.le_refl _
  omega
theorem Co.Sz.mono {m m' : Nat} (h : c.Sz m) (e : m ≤ m') : c.Sz m' := ⟨Nat.le_trans h.met e, h.turns⟩
theorem due_sz {k n : Nat} {o : One} {m : Nat} (h : c.Sz m) : (c.due k n o).Sz (m + 2) := by
  unfold Co.due
  split
  · exact (begin_sz h).mono (Nat.le_succ _)
  · split
    · refine ⟨?_, h.turns⟩
      have h1 := h.met
      rw [mu_eq] at h1 ⊢
      simp only [List.length_append, List.length_cons, List.length_nil]
      omega
    · split
      · refine begin_sz (m := m + 1) ⟨?_, h.turns⟩
        have h1 := h.met
        rw [mu_eq] at h1 ⊢
        simp only [List.length_append, List.length_cons, List.length_nil]
        omega
      · exact h.mono (by omega)
theorem less_sz {k n m : Nat} {t : Turn} (h : c.Sz (m + 2)) (ht : c.turns[k]? = some t) (hn : n ∈ t.left) : ({ c with turns := c.turns.modify k (Turn.less n) } : Co).Sz m := by
  refine ⟨?_, by simpa using h.turns⟩
  have h1 := h.met
  have h2 := lefts_less ht hn
  rw [mu_eq] at h1 ⊢
  dsimp only
  omega
theorem due1_sz {k n m : Nat} (h : c.Sz m) : (due1 os k c n).Sz m := by
  unfold due1
  split
  · rename_i t o ht ho
    split
    · rename_i hc
      obtain ⟨h1, h2⟩ := hc
      have hm : 2 ≤ m := by
        have a := h.met
        have b := lefts_less ht h1
        rw [mu_eq] at a
        omega
      have hs : c.Sz (m - 2 + 2) := h.mono (by omega)
      have z := due_sz (k := k) (n := n) (o := o) (less_sz (m := m - 2) hs ht h1)
      exact z.mono (by omega)
    · exact h
  · exact h
theorem fold1_sz {k m : Nat} : ∀ {l : List Nat} {c : Co}, c.Sz m → (l.foldl (due1 os k) c).Sz m
  | [], c, h => h
  | n :: l, c, h => by
    rw [List.foldl_cons]
    exact fold1_sz (due1_sz h)
theorem dueTurn_sz {k m : Nat} (h : c.Sz m) : (dueTurn os c k).Sz m := by
  unfold dueTurn
  split
  · exact fold1_sz h
  · exact h
theorem foldT_sz {m : Nat} : ∀ {l : List Nat} {c : Co}, c.Sz m → (l.foldl (dueTurn os) c).Sz m
  | [], c, h => h
  | n :: l, c, h => by
    rw [List.foldl_cons]
    exact foldT_sz (dueTurn_sz h)
end
end Pg
namespace Pg
open PySem Mi
open L2 (atI atI_last ixN)
/-! ### all that is due -/
theorem flat_nats : ∀ ws : List Nat, allOf flat (ws.map fun n : Nat => Val.int (n : Int)) = some (ws.map fun n : Nat => L2.V.int (n : Int))
  | [] => rfl
  | n :: ws => by
    rw [List.map_cons]
    unfold allOf
    rw [flat_nats ws]
    rfl
theorem in_nats {st : Sto} {n : Nat} {ws : List Nat} : inVal st (.int (n : Int)) (.tup (ws.map fun n : Nat => Val.int (n : Int))) = some (.bl (decide (n ∈ ws))) := by
  show (match allOf flat (ws.map fun n : Nat => Val.int (n : Int)) with | some us => some (L2.inV (.int (n : Int)) us) | none => none).map Val.bl = _
  rw [flat_nats]
  show some (Val.bl (L2.inV (.int (n : Int)) (ws.map fun n : Nat => L2.V.int (n : Int)))) = _
  congr 2
  induction ws with
  | nil => rfl
  | cons m ws ih =>
    rw [List.map_cons]
    unfold L2.inV at ih ⊢
    rw [List.any_cons, ih]
    have e : L2.eqV (.int (m : Int)) (.int (n : Int)) = decide (m = n) := by
      show ((m : Int) == (n : Int)) = _
      by_cases z : m = n
      · simp [z]
      · have : ¬ (m : Int) = (n : Int) := by omega
        simp [z, this]
    rw [e]
    by_cases z : m = n
    · simp [z]
    · have z' : ¬ n = m := fun q => z q.symm
      simp [z, z']
theorem le_lefts : ∀ {ts : List Turn} {t : Turn}, t ∈ ts → t.left.length ≤ lefts ts
  | [], t, h => by cases h
  | u :: ts, t, h => by
    unfold lefts
    rw [List.map_cons, List.sum_cons]
    rcases List.mem_cons.mp h with rfl | h
    · omega
    · have := le_lefts h
      unfold lefts at this
      omega
abbrev dueBody : S := (sIf (andB (asB (bin inVal (var 3) (bin idxV (var 2) (ret (.int 2))))) (asB (bin (cmpV fun i j => decide (j ≤ i)) (un (fldV (ownL ["Call"]) "distance") (bin idxV (un (fldV (ownL ["Voice"]) "calls") (un (fldV (ownL ["Course"]) "speaker") (var 0))) (var 3))) (bin idxV (var 2) (ret (.int 0)))))) (sSeq (sSub (app tupleV (consM (comp (itS (bin idxV (var 2) (ret (.int 2)))) (.name 4) [4] (asB (bin neV (var 4) (var 3))) (var 4)) nilM)) (var 2) (ret (.int 2)))
    (sExpr (methM "Course" "become_due" 3 c_Course_become_due [] (var 0) (consM (var 1) (consM (var 3) nilM))))) sNext)
theorem all_due_eq : s_Course_all_due = sForE (consM (un (fldV (ownL ["Course"]) "turns") (var 0)) nilM) (.tup [.name 1, .name 2]) (sFor (itS (app listV (consM (bin idxV (var 2) (ret (.int 2))) nilM))) (.name 3) dueBody) := rfl
section
variable {os : List One} {st : Sto} {i : Nat} {c : Co} {a : Lay}
theorem less_ok (h : CAt os st i c a) {k u n : Nat} {t : Turn} {b4 : Option Val} (hu : a.us[k]? = some u) (ht : c.turns[k]? = some t) (hl : t.left.length ≤ 16000000) :
    ∃ st', sSub (app tupleV (consM (comp (itS (bin idxV (var 2) (ret (.int 2)))) (.name 4) [4] (asB (bin neV (var 4) (var 3))) (var 4)) nilM)) (var 2) (ret (.int 2)) [some (.ref i), some (.int (k : Int)), some (.ref u), some (.int (n : Int)), b4] st
      = some (.next, [some (.ref i), some (.int (k : Int)), some (.ref u), some (.int (n : Int)), b4], st') ∧ CAt os st' i { c with turns := c.turns.modify k (Turn.less n) } a ∧ Fb i st st' := by
  have hat := h.each k u t hu ht
  have cm : comp (itS (bin idxV (var 2) (ret (.int 2)))) (.name 4) [4] (asB (bin neV (var 4) (var 3))) (var 4) [some (.ref i), some (.int (k : Int)), some (.ref u), some (.int (n : Int)), b4] st = some (.ok (.lst ((t.left.filter fun x => x != n).map fun n : Nat => Val.int (n : Int))), st) := by
    refine comp_flt (enc := fun n : Nat => Val.int (n : Int)) (g := fun n : Nat => Val.int (n : Int)) (P := fun x => x != n) (s1 := st) ?_ hl fun x hx => ⟨[some (.ref i), some (.int (k : Int)), some (.ref u), some (.int (n : Int)), some (.int (x : Int))], rfl, ?_, fun _ => rfl⟩
    · simp [idx_ref hat]
      rfl
    · have e : (!((x : Int) == (n : Int))) = (x != n) := by
        by_cases z : x = n
        · simp [z]
        · have w : ¬ (x : Int) = (n : Int) := by omega
          rw [bne_iff_ne.mpr z, beq_eq_false_iff_ne.mpr w]
          rfl
      simp [← e]
  refine h.subTurn (Turn.less n) hu ht (y := .tup ((t.left.filter fun x => x != n).map fun n : Nat => Val.int (n : Int))) (n := 2) (l := 2) ?_ rfl rfl rfl rfl
  have tv : ∀ xs : List Val, ∀ st, tupleV st [.lst xs] = some (.tup xs) := fun _ _ => rfl
  simp [cm, tv]
theorem due1_ok (g : Good os) (h : CAt os st i c a) (wf : c.Ok os) (sz : c.Sz 800000) {k u n : Nat} {b4 : Option Val} (hu : a.us[k]? = some u) (hk : k < c.turns.length) (hn : n < os.length) :
    ∃ st' a', dueBody [some (.ref i), some (.int (k : Int)), some (.ref u), some (.int (n : Int)), b4] st = some (.next, [some (.ref i), some (.int (k : Int)), some (.ref u), some (.int (n : Int)), b4], st') ∧ CAt os st' i (due1 os k c n) a' ∧ Fb i st st' ∧ a'.ti = a.ti ∧ a'.us = a.us := by
  have ht : c.turns[k]? = some c.turns[k] := List.getElem?_eq_getElem hk
  have ho : os[n]? = some os[n] := List.getElem?_eq_getElem hn
  generalize c.turns[k] = t at ht
  generalize os[n] = o at ho
  have hat := h.each k u t hu ht
  have ix2 : idxV st (.ref u) (.int 2) = some (.tup (t.left.map fun n : Nat => Val.int (n : Int))) := by rw [idx_ref hat]; rfl
  have ix0 : idxV st (.ref u) (.int 0) = some (.int t.d) := by rw [idx_ref hat]; rfl
  have test : andB (asB (bin inVal (var 3) (bin idxV (var 2) (ret (.int 2))))) (asB (bin (cmpV fun i j => decide (j ≤ i)) (un (fldV (ownL ["Call"]) "distance") (bin idxV (un (fldV (ownL ["Voice"]) "calls") (un (fldV (ownL ["Course"]) "speaker") (var 0))) (var 3))) (bin idxV (var 2) (ret (.int 0))))) [some (.ref i), some (.int (k : Int)), some (.ref u), some (.int (n : Int)), b4] st = some (.ok (decide (n ∈ t.left ∧ t.d ≤ o.d)), st) := by
    by_cases h1 : n ∈ t.left
    · simp [ix2, ix0, in_nats, h1, h.fS, f_calls, spk_call ho, f_distance]
    · simp [ix2, ix0, in_nats, h1]
  have hlen : t.left.length ≤ 16000000 := by
    have h1 := sz.met
    have h2 : t.left.length ≤ lefts c.turns := by
      have hm := List.mem_of_getElem? ht
      exact le_lefts hm
    rw [mu_eq] at h1
    omega
  unfold due1
  rw [ht, ho]
  dsimp only
  unfold dueBody
  rw [x_sIf, test, eK_ok]
  by_cases hc : n ∈ t.left ∧ t.d ≤ o.d
  · rw [if_pos (by simpa using hc), if_pos hc]
    obtain ⟨st1, e1, h1, f1⟩ := less_ok h (n := n) (b4 := b4) hu ht hlen
    have z := sz.met
    rw [mu_eq] at z
    obtain ⟨st2, a2, e2, h2, f2, q1, q2⟩ := due_ok h1 ho (by simpa using hk) (by simpa using Nat.le_trans sz.turns (by decide)) (by show c.met.length < _; omega) (by show c.wait.length < _; omega)
    refine ⟨st2, a2, ?_, h2, f1.trans f2, q1, q2⟩
    rw [sSeq_next e1]
    simp [h1.isC (m := "become_due") (by decide), e2]
  · rw [if_neg (by simpa using hc), if_neg hc]
    exact ⟨st, a, rfl, h, Fb.refl, rfl, rfl⟩
/-- the numbers of one turn -/
theorem dueTurn_ok (g : Good os) (h : CAt os st i c a) (wf : c.Ok os) (sz : c.Sz 800000) {k u : Nat} {b3 b4 : Option Val} (hu : a.us[k]? = some u) (hk : k < c.turns.length) :
    ∃ st' a' d3, sFor (itS (app listV (consM (bin idxV (var 2) (ret (.int 2))) nilM))) (.name 3) dueBody [some (.ref i), some (.int (k : Int)), some (.ref u), b3, b4] st = some (.next, [some (.ref i), some (.int (k : Int)), some (.ref u), d3, b4], st') ∧ CAt os st' i (dueTurn os c k) a' ∧ Fb i st st' ∧ a'.ti = a.ti ∧ a'.us = a.us := by
  have ht : c.turns[k]? = some c.turns[k] := List.getElem?_eq_getElem hk
  have hlt : ∀ n ∈ c.turns[k].left, n < os.length := wf.left _ (List.getElem_mem hk)
  generalize c.turns[k] = t at ht hlt
  have hat := h.each k u t hu ht
  have it : itS (app listV (consM (bin idxV (var 2) (ret (.int 2))) nilM)) [some (.ref i), some (.int (k : Int)), some (.ref u), b3, b4] st = some (.ok (t.left.map fun n : Nat => Val.int (n : Int)), st) := by
    have lv : ∀ xs : List Val, ∀ st, listV st [.tup xs] = some (.lst xs) := fun _ _ => rfl
    simp [idx_ref hat, lv]
    rfl
  obtain ⟨env', st', e, d3, a', h1, h2, h3, h4, h5⟩ := sFor_inv (t := .name 3) (body := dueBody) (fun m env s => ∃ d3 a', env = [some (.ref i), some (.int (k : Int)), some (.ref u), d3, b4] ∧ CAt os s i ((t.left.take m).foldl (due1 os k) c) a' ∧ Fb i st s ∧ a'.ti = a.ti ∧ a'.us = a.us) it ⟨b3, a, rfl, h, Fb.refl, rfl, rfl⟩ fun m x env s hx hI => by
    obtain ⟨d3, a1, rfl, h1, f1, q1, q2⟩ := hI
    rw [List.getElem?_map] at hx
    cases hm : t.left[m]? with
    | none => rw [hm] at hx; cases hx
    | some n =>
      rw [hm] at hx
      cases hx
      obtain ⟨s2, a2, e2, h2, f2, p1, p2⟩ := due1_ok g h1 (fold1_wf g wf) (fold1_sz sz) (b4 := b4) (u := u) (k := k) (n := n) (by rw [q2]; exact hu) (by rw [fold1_len]; exact hk) (hlt n (List.mem_of_getElem? hm))
      refine ⟨[some (.ref i), some (.int (k : Int)), some (.ref u), some (.int (n : Int)), b4], rfl, _, s2, .inl e2, some (.int (n : Int)), a2, rfl, ?_, f1.trans f2, p1.trans q1, p2.trans q2⟩
      have hml := (List.getElem?_eq_some_iff.mp hm).1
      rw [List.take_succ_eq_append_getElem hml, List.foldl_append]
      have : t.left[m] = n := (List.getElem?_eq_some_iff.mp hm).2
      rw [this]
      exact h2
  refine ⟨st', a', d3, by rw [e, h1], ?_, h3, h4, h5⟩
  rw [List.length_map, List.take_length] at h2
  unfold dueTurn
  rw [ht]
  exact h2
theorem all_due_ok (g : Good os) (h : CAt os st i c a) (wf : c.Ok os) (sz : c.Sz 800000) : ∃ st' a', c_Course_all_due [.ref i] st = some (.ok .non, st') ∧ CAt os st' i (allDue os c) a' ∧ Fb i st st' := by
  have lx : lstAt st a.ti = some (a.us.map .ref) := by
    unfold lstAt
    rw [h.tur]
  have key := sForE_inv (ms := consM (un (fldV (ownL ["Course"]) "turns") (var 0)) nilM) (t := .tup [.name 1, .name 2]) (body := sFor (itS (app listV (consM (bin idxV (var 2) (ret (.int 2))) nilM))) (.name 3) dueBody) (a := a.ti) (env := env0 5 [.ref i]) (st := st) (s1 := st)
    (fun m env s => ∃ d1 d2 d3 d4 a', env = [some (.ref i), d1, d2, d3, d4] ∧ CAt os s i ((List.range m).foldl (dueTurn os) c) a' ∧ Fb i st s ∧ a'.ti = a.ti ∧ a'.us = a.us) (by simp [env0, h.fT]) lx ⟨none, none, none, none, a, rfl, h, Fb.refl, rfl, rfl⟩
    (fun m env s hm hI => by
      obtain ⟨d1, d2, d3, d4, a1, rfl, h1, f1, q1, q2⟩ := hI
      rw [List.length_map] at hm
      have hm2 : m < c.turns.length := by rw [← h.len]; exact hm
      have hu : a.us[m]? = some a.us[m] := List.getElem?_eq_getElem hm
      obtain ⟨s2, a2, b3, e2, h2, f2, p1, p2⟩ := dueTurn_ok g h1 (foldT_wf g wf) (foldT_sz sz) (k := m) (u := a.us[m]) (b3 := d3) (b4 := d4) (by rw [q2]; exact hu) (by rw [foldT_len]; exact hm2)
      refine ⟨a.us.map .ref, .ref a.us[m], [some (.ref i), some (.int (m : Int)), some (.ref a.us[m]), d3, d4], ?_, rfl, by rw [List.getElem?_map, hu]; rfl, rfl, _, s2, .inl e2, _, _, _, _, a2, rfl, ?_, f1.trans f2, p1.trans q1, p2.trans q2⟩
      · unfold lstAt
        have := h1.tur
        rw [q1, q2] at this
        rw [this]
      · rw [List.range_succ, List.foldl_append]
        exact h2)
    (fun env s hI => by
      obtain ⟨d1, d2, d3, d4, a1, rfl, h1, f1, q1, q2⟩ := hI
      refine ⟨a.us.map .ref, ?_, rfl⟩
      unfold lstAt
      have := h1.tur
      rw [q1, q2] at this
      rw [this])
  obtain ⟨env', st', e, d1, d2, d3, d4, a', rfl, h1, f1, q1, q2⟩ := key
  refine ⟨st', a', ?_, ?_, f1⟩
  · unfold c_Course_all_due
    rw [x_callS, all_due_eq, e]
    rfl
  · rw [List.length_map, h.len] at h1
    exact h1
end
end Pg
namespace Pg
open PySem Mi
open L2 (atI atI_last ixN)
/-! ### speaking, stepping -/
section
variable {os : List One} {st : Sto} {i : Nat} {c : Co} {a : Lay}
theorem tellFrom_len {lo : Nat} : ∀ {n : Nat} {ts : List Turn}, (tellFrom ts lo n).length = ts.length
  | 0, ts => rfl
  | n + 1, ts => by
    unfold tellFrom
    rw [List.range_succ, List.foldl_append]
    show ((tellFrom ts lo n).modify (lo + n) Turn.tell).length = _
    rw [List.length_modify, tellFrom_len]
theorem tellFrom_succ {ts : List Turn} {lo n : Nat} : tellFrom ts lo (n + 1) = (tellFrom ts lo n).modify (lo + n) Turn.tell := by
  unfold tellFrom
  rw [List.range_succ, List.foldl_append]
  rfl
/-- the turns lo, lo + 1, .. (n of them) are told -/
theorem tell_ok (h : CAt os st i c a) {lo n : Nat} {x y : Int} {mi : M (List Val)} {e1 e2 e3 e4 e5 : Option Val} (hn : lo + n ≤ c.turns.length) (hm : mi [some (.ref i), e1, e2, e3, e4, e5] st = some (.ok ((List.range n).map fun (l : Nat) => Val.int ((lo : Int) + l)), st)) :
    ∃ st' d5, sFor mi (.name 5) (sSub (ret (.bl true)) (bin idxV (un (fldV (ownL ["Course"]) "turns") (var 0)) (var 5)) (ret (.int 3))) [some (.ref i), e1, e2, e3, e4, e5] st = some (.next, [some (.ref i), e1, e2, e3, e4, d5], st') ∧ CAt os st' i { c with turns := tellFrom c.turns lo n } a ∧ Fb i st st' := by
  obtain ⟨env', st', e, d5, h1, h2, h3⟩ := sFor_inv (t := .name 5) (body := sSub (ret (.bl true)) (bin idxV (un (fldV (ownL ["Course"]) "turns") (var 0)) (var 5)) (ret (.int 3))) (fun m env s => ∃ d5, env = [some (.ref i), e1, e2, e3, e4, d5] ∧ CAt os s i { c with turns := tellFrom c.turns lo m } a ∧ Fb i st s) hm ⟨e5, rfl, h, Fb.refl⟩ fun m z env s hx hI => by
    obtain ⟨d5, rfl, h1, f1⟩ := hI
    rw [List.getElem?_map] at hx
    cases hr : (List.range n)[m]? with
    | none => rw [hr] at hx; cases hx
    | some m' =>
      rw [hr] at hx
      cases hx
      obtain ⟨hm1, hm2⟩ := List.getElem?_eq_some_iff.mp hr
      rw [List.length_range] at hm1
      rw [List.getElem_range] at hm2
      subst hm2
      have hk : lo + m < (tellFrom c.turns lo m).length := by rw [tellFrom_len]; omega
      have ht : (tellFrom c.turns lo m)[lo + m]? = some (tellFrom c.turns lo m)[lo + m] := List.getElem?_eq_getElem hk
      obtain ⟨u, hu, ix, _⟩ := h1.at_turn ht
      have ec : ((lo + m : Nat) : Int) = (lo : Int) + (m : Int) := by omega
      rw [ec] at ix
      obtain ⟨s2, q1, q2, q3⟩ := h1.subTurn (me := ret (.bl true)) (mo := bin idxV (un (fldV (ownL ["Course"]) "turns") (var 0)) (var 5)) (mi := ret (.int 3)) (env := [some (.ref i), e1, e2, e3, e4, some (.int ((lo : Int) + (m : Int)))]) (y := .bl true) (n := 3) (l := 3) Turn.tell hu ht rfl (by simp [h1.fT, ix]) rfl rfl rfl
      refine ⟨[some (.ref i), e1, e2, e3, e4, some (.int ((lo : Int) + (m : Int)))], rfl, _, s2, .inl q1, _, rfl, ?_, f1.trans q3⟩
      rw [tellFrom_succ]
      exact q2
  refine ⟨st', d5, by rw [e, h1], ?_, h3⟩
  rw [List.length_map, List.length_range] at h2
  exact h2
theorem CAt.setNow (h : CAt os st i c a) {n : Int} {mv : M Val} {env : Mi.Env} {v : Nat} (hv : mv env st = some (.ok (.int n), st)) (h0 : env[v]? = some (some (.ref i))) :
    ∃ st', sFldV (ownL ["Course"]) "told_now" (var v) mv env st = some (.next, env, st') ∧ CAt os st' i { c with now := n } a ∧ Fb i st st' :=
  ⟨_, fld_set hv (by simp [h0]) h.ins (by decide) (by decide), h.putNow n, Fb.set (Nat.le_refl _)⟩
def saidV : Option (Int × Nat) → Val
  | none => .non
  | some p => .tup [.int p.1, .int (p.2 : Int)]
theorem max2_ints {x y : Int} {st : Sto} : max2V st [.int x, .int y] = some (.int (max x y)) := by
  show some (Val.int (if x < y then y else x)) = _
  congr 2
  rcases Int.lt_or_le x y with z | z
  · rw [if_pos z]; omega
  · rw [if_neg (by omega)]; omega
theorem speak_ok (h : CAt os st i c a) (wf : c.Ok os) (hs : c.turns.length ≤ 1000) : ∃ st' a', c_Course_speak [.ref i] st = some (.ok (saidV c.speak.2), st') ∧ CAt os st' i c.speak.1 a' ∧ Fb i st st' := by
  unfold c_Course_speak Co.speak
  rw [x_callS]
  unfold s_Course_speak
  cases e : c.sp with
  | none =>
    refine ⟨st, a, ?_, h, Fb.refl⟩
    simp [env0, h.fP, e, spV, saidV]
  | some s =>
    obtain ⟨w1, w2, w3, w4⟩ := wf.sp s e
    let E : Mi.Env := [some (.ref i), some (.int s.turn), some (.int (s.num : Int)), some (.int s.ticks), some (.bl s.jn), none]
    rw [sSeq_next (e1 := env0 6 [.ref i]) (s1 := st) (by simp [env0, h.fP, e, spV])]
    rw [sSeq_next (e1 := E) (s1 := st) (by simp [env0, h.fP, e, spV, bindT, bindTs, E])]
    dsimp only
    obtain ⟨st1, q1, h1, f1⟩ := h.setSp (s := if 1 < s.ticks then some { s with ticks := s.ticks - 1 } else none) (env := E) (v := 0) (mv := ifV (asB (bin (cmpV fun i j => decide (j < i)) (var 3) (ret (.int 1)))) (mkTup (consM (var 1) (consM (var 2) (consM (bin subV (var 3) (ret (.int 1))) (consM (var 4) nilM))))) (ret .non)) (by
      by_cases z : 1 < s.ticks
      · simp (decide := true) [E, z, spV]
      · simp (decide := true) [E, z, spV]) rfl
    rw [sSeq_next q1]
    by_cases h1t : s.ticks = 1
    · rw [if_pos h1t]
      obtain ⟨st2, q2, h2, f2⟩ := h1.setNow (n := if s.jn then 2 else 1) (mv := ifV (asB (var 4)) (ret (.int 2)) (ret (.int 1))) (env := E) (v := 0) (by cases hj : s.jn <;> simp [E, hj]) rfl
      have hmx : 0 ≤ max s.turn 0 := by omega
      have rg : rng2 (consM (app max2V (consM (var 1) (consM (ret (.int 0)) nilM))) (consM (bin addV (var 1) (un (fldV (ownL ["Course"]) "told_now") (var 0))) nilM)) E st2 = some (.ok ((List.range (s.turn + (if s.jn then 2 else 1) - max s.turn 0).toNat).map fun (l : Nat) => Val.int (((max s.turn 0).toNat : Int) + l)), st2) := by
        unfold rng2
        have ft := h2.fN
        simp [E, max2_ints, ft]
        rw [if_pos (by split <;> omega)]
        simp
        try (congr 1; funext l; omega)
      obtain ⟨st3, d5, q3, h3, f3⟩ := tell_ok h2 (lo := (max s.turn 0).toNat) (n := (s.turn + (if s.jn then 2 else 1) - max s.turn 0).toNat) (x := 0) (y := 0) (by show _ ≤ c.turns.length; cases hj : s.jn <;> simp [hj] at w3 ⊢ <;> omega) rg
      refine ⟨st3, a, ?_, ?_, (f1.trans f2).trans f3⟩
      · rw [sSeq_next (e1 := [some (.ref i), some (.int s.turn), some (.int (s.num : Int)), some (.int s.ticks), some (.bl s.jn), d5]) (s1 := st3) (by rw [x_sIf, show asB (bin eqV (var 3) (ret (.int 1))) E st1 = some (.ok true, st1) by simp [E, h1t], eK_ok, if_pos rfl, sSeq_next q2]; exact q3)]
        simp (decide := true) [saidV]
      · exact h3
    · rw [if_neg h1t]
      refine ⟨st1, a, ?_, h1, f1⟩
      rw [sSeq_next (e1 := E) (s1 := st1) (by simp [E, h1t])]
      simp (decide := true) [saidV, E]
end
end Pg
namespace Pg
open PySem Mi
open L2 (atI atI_last ixN)
theorem modify_at {α : Type} {f : α → α} {y : α} {zs : List α} : ∀ {xs : List α}, (xs ++ y :: zs).modify xs.length f = xs ++ f y :: zs
  | [] => rfl
  | x :: xs => by
    show x :: (xs ++ y :: zs).modify xs.length f = _
    rw [modify_at]
    rfl
section
variable {os : List One} {st : Sto} {i : Nat} {c : Co} {a : Lay}
/-- all turns come nearer -/
theorem near_all (h : CAt os st i c a) {e1 e2 e3 e4 : Option Val} : ∃ st' d1, sForR (un (fldV (ownL ["Course"]) "turns") (var 0)) (.name 1) (sSub (bin subV (bin idxV (var 1) (ret (.int 0))) (ret (.int 1))) (var 1) (ret (.int 0))) [some (.ref i), e1, e2, e3, e4] st = some (.next, [some (.ref i), d1, e2, e3, e4], st') ∧
    CAt os st' i { c with turns := c.turns.map Turn.near } a ∧ Fb i st st' := by
  have lx : lstAt st a.ti = some (a.us.map .ref) := by
    unfold lstAt
    rw [h.tur]
  obtain ⟨env', st', e, d1, h1, h2, h3⟩ := sForR_inv (m := un (fldV (ownL ["Course"]) "turns") (var 0)) (t := .name 1) (body := sSub (bin subV (bin idxV (var 1) (ret (.int 0))) (ret (.int 1))) (var 1) (ret (.int 0))) (a := a.ti) (env := [some (.ref i), e1, e2, e3, e4]) (st := st) (s1 := st)
    (fun m env s => ∃ d1, env = [some (.ref i), d1, e2, e3, e4] ∧ CAt os s i { c with turns := (c.turns.take m).map Turn.near ++ c.turns.drop m } a ∧ Fb i st s) (by simp [h.fT]) lx ⟨e1, rfl, by simpa using h, Fb.refl⟩
    (fun m env s hm hI => by
      obtain ⟨d1, rfl, h1, f1⟩ := hI
      rw [List.length_map] at hm
      have hm2 : m < c.turns.length := by rw [← h.len]; exact hm
      have hu : a.us[m]? = some a.us[m] := List.getElem?_eq_getElem hm
      have hl : ((c.turns.take m).map Turn.near).length = m := by rw [List.length_map, List.length_take]; omega
      have ht : ((c.turns.take m).map Turn.near ++ c.turns.drop m)[m]? = some c.turns[m] := by
        rw [List.getElem?_append_right (by omega), hl, Nat.sub_self, List.getElem?_drop, Nat.add_zero]
        exact List.getElem?_eq_getElem hm2
      have hat := h1.each m _ _ hu ht
      obtain ⟨s2, q1, q2, q3⟩ := h1.subTurn (me := bin subV (bin idxV (var 1) (ret (.int 0))) (ret (.int 1))) (mo := var 1) (mi := ret (.int 0)) (env := [some (.ref i), some (.ref a.us[m]), e2, e3, e4]) (y := .int (c.turns[m].d - 1)) (n := 0) (l := 0) Turn.near hu ht (by simp [idx_ref hat]) (by simp) rfl rfl rfl
      refine ⟨a.us.map .ref, .ref a.us[m], [some (.ref i), some (.ref a.us[m]), e2, e3, e4], ?_, rfl, by rw [List.getElem?_map, hu]; rfl, rfl, _, s2, .inl q1, _, rfl, ?_, f1.trans q3⟩
      · unfold lstAt
        rw [h1.tur]
      · have e : (c.turns.take (m + 1)).map Turn.near ++ c.turns.drop (m + 1) = ((c.turns.take m).map Turn.near ++ c.turns.drop m).modify m Turn.near := by
          rw [List.drop_eq_getElem_cons hm2]
          have z := modify_at (f := Turn.near) (y := c.turns[m]) (zs := c.turns.drop (m + 1)) (xs := (c.turns.take m).map Turn.near)
          rw [hl] at z
          rw [z, List.take_succ_eq_append_getElem hm2, List.map_append, List.append_assoc]
          rfl
        rw [e]
        exact q2)
    (fun env s hI => by
      obtain ⟨d1, rfl, h1, f1⟩ := hI
      refine ⟨a.us.map .ref, ?_, rfl⟩
      unfold lstAt
      rw [h1.tur])
  refine ⟨st', d1, by rw [e, h1], ?_, h3⟩
  rw [List.length_map, h.len, List.take_length, List.drop_length, List.append_nil] at h2
  exact h2
theorem CAt.setTurns (h : CAt os st i c a) {env : Mi.Env} {v : Nat} (h0 : env[v]? = some (some (.ref i))) :
    ∃ st' a', sFldV (ownL ["Course"]) "turns" (var v) (sliceS (un (fldV (ownL ["Course"]) "turns") (var v)) (part (ret (.int 1))) nopart) env st = some (.next, env, st') ∧ CAt os st' i { c with turns := c.turns.drop 1 } a' ∧ Fb i st st' := by
  have hv : sliceS (un (fldV (ownL ["Course"]) "turns") (var v)) (part (ret (.int 1))) nopart env st = some (.ok (.ref st.length), st ++ [.lst ((a.us.drop 1).map .ref)]) := by
    have e : cutL (a.us.map Val.ref) (some 1) none = (a.us.drop 1).map .ref := by
      have := cut_hi (a.us.map Val.ref) (n := 1)
      rw [List.map_drop]
      exact this
    simp [h0, h.fT, lst_ref h.tur, e]
  exact ⟨_, _, fld_set hv (by simp [h0]) (h.app [SO.lst ((a.us.drop 1).map .ref)]).ins (by decide) (by decide), h.newTurns, (Fb.app (g := [SO.lst ((a.us.drop 1).map .ref)]) (Nat.le_of_lt (at_lt h.ins))).trans (Fb.set (Nat.le_refl _))⟩
theorem fewer_ok (h : CAt os st i c a) {env : Mi.Env} (hs : c.wait.length ≤ 16000000) (h0 : env[0]? = some (some (.ref i))) (hl : env.length = 5) :
    borS (compS (itS (un (fldV (ownL ["Course"]) "waiting") (var 0))) (.tup [.name 1, .name 2]) [1, 2] (asB (bin (cmpV fun i j => decide (j < i)) (var 1) (ret (.int 0)))) (mkTup (consM (bin subV (var 1) (ret (.int 1))) (consM (var 2) nilM)))) env st =
      some (.ok (.ref st.length), st ++ [.lst (((c.wait.filter fun p => decide (0 < p.1)).map fun p => (p.1 - 1, p.2)).map pairV)]) := by
  have g0 := snapED_get h0 h.snap
  have gl : (snapED st env).length = 5 := by rw [snapED_len]; exact hl
  have key : ∀ (e : Mi.Env) (x y : Val), e.length = 5 → ((((e.set 1 none).set 2 none).set 1 (some x)).set 2 (some y))[1]? = some (some x) ∧ ((((e.set 1 none).set 2 none).set 1 (some x)).set 2 (some y))[2]? = some (some y) := fun e x y he => by
    match e, he with
    | [a0, a1, a2, a3, a4], _ => exact ⟨rfl, rfl⟩
  rw [List.map_map]
  refine borS_ok (j := 0) (s' := [.lst ((c.wait.filter fun p => decide (0 < p.1)).map (pairV ∘ fun p => (p.1 - 1, p.2)))]) (compS_flt (enc := pairV) (as := c.wait) (s1 := []) (P := fun p => decide (0 < p.1)) (g := pairV ∘ fun p => (p.1 - 1, p.2)) ?_ hs fun p hp => ?_) rfl (by rw [← List.map_map]; exact plain_pairs _)
  · simp [g0, sn_waiting]
    rfl
  · have kk := key (snapED st env) (.int (p.1 : Int)) (.int (p.2 : Int)) gl
    have kk' : ∃ E, bindT (.tup [.name 1, .name 2]) (pairV p) (wipeE (snapED st env) [1, 2]) = some E ∧ E[1]? = some (some (.int (p.1 : Int))) ∧ E[2]? = some (some (.int (p.2 : Int))) := by
      generalize snapED st env = e at gl
      match e, gl with
      | [a0, a1, a2, a3, a4], _ => exact ⟨_, rfl, rfl, rfl⟩
    obtain ⟨E, b1, b2, b3⟩ := kk'
    refine ⟨E, b1, ?_, fun hp => ?_⟩
    · simp [b2]
    · have h1 : 0 < p.1 := by simpa using hp
      have e : ((p.1 : Int) - 1) = ((p.1 - 1 : Nat) : Int) := by omega
      simp (decide := true) [b2, b3, e, pairV]
theorem step_ok (h : CAt os st i c a) (hs : c.turns.length ≤ 1000) (hm : c.met.length < 900000) (hw : c.wait.length ≤ 16000000) :
    ∃ st' a', c_Course_step [.ref i] st = some (.ok (.int c.step.2), st') ∧ CAt os st' i c.step.1 a' ∧ Fb i st st' := by
  obtain ⟨st1, d1, q1, h1, f1⟩ := near_all h (e1 := none) (e2 := none) (e3 := none) (e4 := none)
  unfold c_Course_step
  rw [x_callS]
  unfold s_Course_step
  rw [show env0 5 [Val.ref i] = [some (.ref i), none, none, none, none] from rfl, sSeq_next q1]
  let E : Mi.Env := [some (.ref i), d1, none, none, none]
  have hl1 : lenV st1 [.ref a.ti] = some (.int c.turns.length) := by
    rw [len_ref h1.tur, List.length_map, h.len]
  cases et : c.turns.map Turn.near with
  | nil =>
    have e0 : c.turns = [] := List.map_eq_nil_iff.mp et
    refine ⟨st1, a, ?_, ?_, f1⟩
    · unfold Co.step
      rw [et]
      simp [h1.fT, hl1, e0]
    · unfold Co.step
      rw [et]
      rw [et] at h1
      exact h1
  | cons t rest =>
    rw [et] at h1
    have ht0 : ({ c with turns := t :: rest } : Co).turns[0]? = some t := rfl
    have hn0 : ¬ c.turns.length = 0 := by
      intro z
      have := List.length_eq_zero_iff.mp z
      rw [this] at et
      cases et
    have hn0' : ((c.turns.length : Int) == 0) = false := by
      rw [beq_eq_false_iff_ne]
      omega
    obtain ⟨u, hu, ix, hat⟩ := h1.at_turn ht0
    have ix0 : idxV st1 (.ref a.ti) (.int 0) = some (.ref u) := ix
    have test : ∀ {e1 : Option Val}, orB (asB (bin eqV (app lenV (consM (un (fldV (ownL ["Course"]) "turns") (var 0)) nilM)) (ret (.int 0)))) (asB (bin (cmpV fun i j => decide (j < i)) (bin idxV (bin idxV (un (fldV (ownL ["Course"]) "turns") (var 0)) (ret (.int 0))) (ret (.int 0))) (ret (.int 0)))) [some (.ref i), e1, none, none, none] st1 = some (.ok (decide (0 < t.d)), st1) := fun {e1} => by
      simp [h1.fT, hl1, hn0', hn0, ix0, idx_ref hat]
    by_cases hd : 0 < t.d
    · refine ⟨st1, a, ?_, ?_, f1⟩
      · unfold Co.step
        rw [et]
        simp only [if_pos hd]
        rw [x_sSeq, x_sIf, test, eK_ok]
        simp [hd]
      · unfold Co.step
        rw [et]
        simp only [if_pos hd]
        exact h1
    · rw [sSeq_next (e1 := E) (s1 := st1) (by rw [x_sIf, test, eK_ok]; simp [hd, E])]
      -- behind
      have s3 : ∃ st2, sIf (asB (methM "Course" "tells_nearest" 1 c_Course_tells_nearest [] (var 0) nilM)) (sExpr (lm appendV (un (fldV (ownL ["Course"]) "met") (var 0)) (consM (ret (.str "behind")) nilM))) sNext E st1 = some (.next, E, st2) ∧ CAt os st2 i { c with turns := t :: rest, met := if tellsNearest c then c.met ++ [("behind" : Str)] else c.met } a ∧ Fb i st1 st2 := by
        have tn := tells_ok h1
        have ts : asB (methM "Course" "tells_nearest" 1 c_Course_tells_nearest [] (var 0) nilM) E st1 = some (.ok (tellsNearest c), st1) := by
          have : tellsNearest ({ c with turns := t :: rest } : Co) = tellsNearest c := rfl
          rw [this] at tn
          simp [E, h1.isC (m := "tells_nearest") (by decide), tn]
        cases q : tellsNearest c with
        | false =>
          rw [q] at ts
          refine ⟨st1, ?_, by simpa using h1, Fb.refl⟩
          rw [x_sIf, ts]
          rfl
        | true =>
          rw [q] at ts
          obtain ⟨st2, p1, p2, p3⟩ := h1.addMet (w := "behind") (env := E) (v := 0) (by show c.met.length < _; omega) rfl
          refine ⟨st2, ?_, by simpa using p2, p3⟩
          rw [x_sIf, ts]
          exact p1
      obtain ⟨st2, q2, h2, f2⟩ := s3
      rw [sSeq_next q2]
      -- untold
      obtain ⟨u2, hu2, ix2, hat2⟩ := h2.at_turn (k := 0) (t := t) rfl
      have ix20 : idxV st2 (.ref a.ti) (.int 0) = some (.ref u2) := ix2
      have s4 : ∃ st3, sIf (notB (asB (bin idxV (bin idxV (un (fldV (ownL ["Course"]) "turns") (var 0)) (ret (.int 0))) (ret (.int 3))))) (sExpr (lm appendV (un (fldV (ownL ["Course"]) "met") (var 0)) (consM (ret (.str "untold")) nilM))) sNext E st2 = some (.next, E, st3) ∧ CAt os st3 i { c with turns := t :: rest, met := if t.told then (if tellsNearest c then c.met ++ [("behind" : Str)] else c.met) else (if tellsNearest c then c.met ++ [("behind" : Str)] else c.met) ++ [("untold" : Str)] } a ∧ Fb i st2 st3 := by
        have ts : notB (asB (bin idxV (bin idxV (un (fldV (ownL ["Course"]) "turns") (var 0)) (ret (.int 0))) (ret (.int 3)))) E st2 = some (.ok (!t.told), st2) := by
          simp [E, h2.fT, ix20, idx_ref hat2]
        cases q : t.told with
        | true =>
          rw [q] at ts
          refine ⟨st2, ?_, by simpa using h2, Fb.refl⟩
          rw [x_sIf, ts]
          rfl
        | false =>
          rw [q] at ts
          obtain ⟨st3, p1, p2, p3⟩ := h2.addMet (w := "untold") (env := E) (v := 0) (by dsimp only; split <;> (try rw [List.length_append]) <;> (try simp only [List.length_cons, List.length_nil]) <;> omega) rfl
          refine ⟨st3, ?_, by simpa using p2, p3⟩
          rw [x_sIf, ts]
          exact p1
      obtain ⟨st3, q3, h3, f3⟩ := s4
      rw [sSeq_next q3]
      obtain ⟨st4, a4, q4, h4, f4⟩ := h3.setTurns (env := E) (v := 0) rfl
      rw [sSeq_next q4]
      have w5 := fewer_ok h4 (env := E) hw rfl rfl
      obtain ⟨st5, a5, q5, h5, f5, _, _⟩ := h4.setWait (v := 0) w5 rfl
      rw [sSeq_next q5]
      have fr := (((f1.trans f2).trans f3).trans f4).trans f5
      have eq : c.step = ({ turns := rest, sp := c.sp.map fun s => { s with turn := max (if s.jn then -2 else -1) (s.turn - 1) }, wait := (c.wait.filter fun p => decide (0 < p.1)).map fun p => (p.1 - 1, p.2), met := if t.told then (if tellsNearest c then c.met ++ [("behind" : Str)] else c.met) else (if tellsNearest c then c.met ++ [("behind" : Str)] else c.met) ++ [("untold" : Str)], now := c.now }, 1) := by
        unfold Co.step
        rw [et]
        simp only [if_neg hd]
      rw [eq]
      have fp := h5.fP
      cases es : c.sp with
      | none =>
        refine ⟨st5, a5, ?_, ?_, fr⟩
        · have fp' : fldV (ownL ["Course"]) "speech" st5 (.ref i) = some .non := by rw [fp]; show some (spV c.sp) = _; rw [es]; rfl
          simp [E, fp']
        · rw [es] at h5
          exact h5
      | some s =>
        have fp' : fldV (ownL ["Course"]) "speech" st5 (.ref i) = some (.tup [.int s.turn, .int (s.num : Int), .int s.ticks, .bl s.jn]) := by rw [fp]; show some (spV c.sp) = _; rw [es]; rfl
        let E2 : Mi.Env := [some (.ref i), some (.int s.turn), some (.int (s.num : Int)), some (.int s.ticks), some (.bl s.jn)]
        obtain ⟨st6, q6, h6, f6⟩ := h5.setSp (s := some { s with turn := max (if s.jn then -2 else -1) (s.turn - 1) }) (env := E2) (v := 0) (mv := mkTup (consM (app max2V (consM (ifV (asB (var 4)) (un (fun _ a => (intOf a).map fun i => .int (-i)) (ret (.int 2))) (un (fun _ a => (intOf a).map fun i => .int (-i)) (ret (.int 1)))) (consM (bin subV (var 1) (ret (.int 1))) nilM))) (consM (var 2) (consM (var 3) (consM (var 4) nilM))))) (by
          cases hj : s.jn <;> simp (decide := true) [E2, hj, max2_ints, spV]) rfl
        refine ⟨st6, a5, ?_, h6, fr.trans f6⟩
        rw [sSeq_next (e1 := E2) (s1 := st6) (by
          rw [x_sIf, show asB (bin notNV (un (fldV (ownL ["Course"]) "speech") (var 0)) (ret .non)) E st5 = some (.ok true, st5) by simp [E, fp'], eK_ok, if_pos rfl, sSeq_next (e1 := E2) (s1 := st5) (by simp [E, E2, fp', bindT, bindTs])]
          exact q6)]
        simp
end
end Pg
namespace Pg
open PySem Mi
open L2 (atI atI_last ixN)
theorem set_mid {st r : Sto} {x y : SO} : (st ++ x :: r).set st.length y = st ++ y :: r := by
  rw [List.set_append, if_neg (by omega), Nat.sub_self]
  rfl
theorem get_mid {st r : Sto} {x : SO} : (st ++ x :: r)[st.length]? = some x := by simp
/-- lists made of tuples -/
theorem loop_lists {env : Mi.Env} (hl : env.length = 7) : ∀ {ts : List Turn} {st : Sto}, compLoop (.name 6) [6] yes (appS listVM (consM (var 6) nilM)) (ts.map fun t => .tup (turnL t)) env st = some (.ok ((List.range ts.length).map fun k => .ref (st.length + k)), st ++ ts.map fun t => .lst (turnL t))
  | [], st => by
    show some (Except.ok [], st) = _
    simp
  | t :: ts, st => by
    have ih := loop_lists hl (ts := ts) (st := st ++ [.lst (turnL t)])
    rw [List.map_cons]
    unfold compLoop
    have hb : bindT (.name 6) (.tup (turnL t)) (wipeE env [6]) = some (env.set 6 (some (.tup (turnL t)))) := by
      show some ((env.set 6 none).set 6 _) = _
      rw [List.set_set]
    rw [hb]
    dsimp only
    have hv : (env.set 6 (some (.tup (turnL t))))[6]? = some (some (.tup (turnL t))) := List.getElem?_set_self (by omega)
    have he : appS listVM (consM (var 6) nilM) (env.set 6 (some (.tup (turnL t)))) st = some (.ok (.ref st.length), st ++ [.lst (turnL t)]) := by
      have lv : listVM st [.tup (turnL t)] = some (.ref st.length, st ++ [.lst (turnL t)]) := rfl
      simp [hv, lv]
    rw [show yes (env.set 6 (some (.tup (turnL t)))) st = some (.ok true, st) from rfl]
    dsimp only
    rw [he]
    dsimp only
    rw [ih]
    dsimp only
    congr 2
    · rw [List.length_cons, List.range_succ_eq_map, List.map_cons, List.map_map]
      congr 2
      apply List.map_congr_left
      intro k _
      simp
      omega
    · simp
theorem fld_mid {own : Str → Bool} {f c : Str} {mv : M Val} {env : Mi.Env} {st r : Sto} {ks ks' : List Str} {xs xs' : List Val} {y : Val} {s0 : Sto} (hv : mv env s0 = some (.ok y, st ++ .ins c ks xs :: r)) (h0 : env[0]? = some (some (.ref st.length))) (hown : own c = true) (hk : ks.length < 900) (hks : putK f ks = ks') (hxs : putX f y ks xs = xs') :
    sFldV own f (var 0) mv env s0 = some (.next, env, st ++ .ins c ks' xs' :: r) := by
  rw [fld_set hv (by simp [h0]) get_mid hown hk, set_mid, hks, hxs]
def layOf (b n : Nat) : Lay := ⟨b + 1 + n, b + 2 + n, b + 3 + n, (List.range n).map fun k => b + 1 + k⟩
theorem init_ok' {os : List One} {s : Stt} {st : Sto} (hl : s.turns.length ≤ 1000) :
    c_Course_init [.ref st.length, voiceV os, sttV s] (st ++ [.ins "Course" [] []]) = some (.ok .non, st ++ .ins "Course" coK (coX os s.co (layOf st.length s.turns.length)) :: (s.turns.map (fun t => .lst (turnL t)) ++ [.lst ((layOf st.length s.turns.length).us.map .ref), .lst (s.wait.map pairV), .lst []])) := by
  let E : Mi.Env := [some (.ref st.length), some (voiceV os), some (sttV s), some (.tup (s.turns.map fun t => .tup (turnL t))), some (spV s.sp), some (.tup (s.wait.map pairV)), none]
  have us : ((List.range s.turns.length).map fun k => Val.ref ((st ++ [SO.ins "Course" ["speaker"] [voiceV os]]).length + k)) = (layOf st.length s.turns.length).us.map .ref := by
    show _ = ((List.range s.turns.length).map fun k => st.length + 1 + k).map Val.ref
    rw [List.map_map]
    simp
  have e1 : sFldV (ownL ["Course"]) "speaker" (var 0) (var 1) E (st ++ SO.ins "Course" [] [] :: ([])) = some (.next, E, st ++ SO.ins "Course" ["speaker"] [voiceV os] :: ([])) :=
    fld_mid (ks := []) (xs := []) (y := voiceV os) rfl rfl (by decide) (by decide) (by kernel_rfl) (by kernel_rfl)
  have cmp : compS (itS (var 3)) (.name 6) [6] yes (appS listVM (consM (var 6) nilM)) E (st ++ SO.ins "Course" ["speaker"] [voiceV os] :: ([])) = some (.ok (.ref (st.length + 1 + s.turns.length)), st ++ SO.ins "Course" ["speaker"] [voiceV os] :: (s.turns.map (fun t => SO.lst (turnL t)) ++ [.lst ((layOf st.length s.turns.length).us.map .ref)])) := by
    unfold compS compM
    rw [x_bnd, x_bnd, show itS (var 3) E (st ++ SO.ins "Course" ["speaker"] [voiceV os] :: ([])) = some (.ok (s.turns.map fun t => .tup (turnL t)), st ++ SO.ins "Course" ["speaker"] [voiceV os] :: ([])) by simp [E]; rfl, bK_ok, if_pos (by rw [List.length_map]; show _ ≤ 16000000; omega), loop_lists rfl, bK_ok, x_liftS]
    rw [us]
    simp
    omega
  have e2 : sFldV (ownL ["Course"]) "turns" (var 0) (compS (itS (var 3)) (.name 6) [6] yes (appS listVM (consM (var 6) nilM))) E (st ++ SO.ins "Course" ["speaker"] [voiceV os] :: ([])) = some (.next, E, st ++ SO.ins "Course" ["speaker", "turns"] [voiceV os, .ref (st.length + 1 + s.turns.length)] :: (s.turns.map (fun t => SO.lst (turnL t)) ++ [.lst ((layOf st.length s.turns.length).us.map .ref)])) :=
    fld_mid (ks := ["speaker"]) (xs := [voiceV os]) cmp rfl (by decide) (by decide) (by kernel_rfl) (by kernel_rfl)
  have e3 : sFldV (ownL ["Course"]) "speech" (var 0) (var 4) E (st ++ SO.ins "Course" ["speaker", "turns"] [voiceV os, .ref (st.length + 1 + s.turns.length)] :: (s.turns.map (fun t => SO.lst (turnL t)) ++ [.lst ((layOf st.length s.turns.length).us.map .ref)])) = some (.next, E, st ++ SO.ins "Course" ["speaker", "turns", "speech"] [voiceV os, .ref (st.length + 1 + s.turns.length), spV s.sp] :: (s.turns.map (fun t => SO.lst (turnL t)) ++ [.lst ((layOf st.length s.turns.length).us.map .ref)])) :=
    fld_mid (ks := ["speaker", "turns"]) (xs := [voiceV os, .ref (st.length + 1 + s.turns.length)]) (y := spV s.sp) rfl rfl (by decide) (by decide) (by kernel_rfl) (by kernel_rfl)
  have w4 : appS listVM (consM (var 5) nilM) E (st ++ SO.ins "Course" ["speaker", "turns", "speech"] [voiceV os, .ref (st.length + 1 + s.turns.length), spV s.sp] :: (s.turns.map (fun t => SO.lst (turnL t)) ++ [.lst ((layOf st.length s.turns.length).us.map .ref)])) = some (.ok (.ref (st.length + 2 + s.turns.length)), st ++ SO.ins "Course" ["speaker", "turns", "speech"] [voiceV os, .ref (st.length + 1 + s.turns.length), spV s.sp] :: (s.turns.map (fun t => SO.lst (turnL t)) ++ [.lst ((layOf st.length s.turns.length).us.map .ref), .lst (s.wait.map pairV)])) := by
    have lv : ∀ (st : Sto) xs, listVM st [.tup xs] = some (.ref st.length, st ++ [.lst xs]) := fun _ _ => rfl
    simp [E, lv]
    omega
  have e4 : sFldV (ownL ["Course"]) "waiting" (var 0) (appS listVM (consM (var 5) nilM)) E (st ++ SO.ins "Course" ["speaker", "turns", "speech"] [voiceV os, .ref (st.length + 1 + s.turns.length), spV s.sp] :: (s.turns.map (fun t => SO.lst (turnL t)) ++ [.lst ((layOf st.length s.turns.length).us.map .ref)])) = some (.next, E, st ++ SO.ins "Course" ["speaker", "turns", "speech", "waiting"] [voiceV os, .ref (st.length + 1 + s.turns.length), spV s.sp, .ref (st.length + 2 + s.turns.length)] :: (s.turns.map (fun t => SO.lst (turnL t)) ++ [.lst ((layOf st.length s.turns.length).us.map .ref), .lst (s.wait.map pairV)])) :=
    fld_mid (ks := ["speaker", "turns", "speech"]) (xs := [voiceV os, .ref (st.length + 1 + s.turns.length), spV s.sp]) w4 rfl (by decide) (by decide) (by kernel_rfl) (by kernel_rfl)
  have m5 : mkLstM nilM E (st ++ SO.ins "Course" ["speaker", "turns", "speech", "waiting"] [voiceV os, .ref (st.length + 1 + s.turns.length), spV s.sp, .ref (st.length + 2 + s.turns.length)] :: (s.turns.map (fun t => SO.lst (turnL t)) ++ [.lst ((layOf st.length s.turns.length).us.map .ref), .lst (s.wait.map pairV)])) = some (.ok (.ref (st.length + 3 + s.turns.length)), st ++ SO.ins "Course" ["speaker", "turns", "speech", "waiting"] [voiceV os, .ref (st.length + 1 + s.turns.length), spV s.sp, .ref (st.length + 2 + s.turns.length)] :: (s.turns.map (fun t => SO.lst (turnL t)) ++ [.lst ((layOf st.length s.turns.length).us.map .ref), .lst (s.wait.map pairV), .lst []])) := by
    simp (decide := true)
    omega
  have e5 : sFldV (ownL ["Course"]) "met" (var 0) (mkLstM nilM) E (st ++ SO.ins "Course" ["speaker", "turns", "speech", "waiting"] [voiceV os, .ref (st.length + 1 + s.turns.length), spV s.sp, .ref (st.length + 2 + s.turns.length)] :: (s.turns.map (fun t => SO.lst (turnL t)) ++ [.lst ((layOf st.length s.turns.length).us.map .ref), .lst (s.wait.map pairV)])) = some (.next, E, st ++ SO.ins "Course" ["speaker", "turns", "speech", "waiting", "met"] [voiceV os, .ref (st.length + 1 + s.turns.length), spV s.sp, .ref (st.length + 2 + s.turns.length), .ref (st.length + 3 + s.turns.length)] :: (s.turns.map (fun t => SO.lst (turnL t)) ++ [.lst ((layOf st.length s.turns.length).us.map .ref), .lst (s.wait.map pairV), .lst []])) :=
    fld_mid (ks := ["speaker", "turns", "speech", "waiting"]) (xs := [voiceV os, .ref (st.length + 1 + s.turns.length), spV s.sp, .ref (st.length + 2 + s.turns.length)]) m5 rfl (by decide) (by decide) (by kernel_rfl) (by kernel_rfl)
  have e6 : sFldV (ownL ["Course"]) "told_now" (var 0) (ret (.int 0)) E (st ++ SO.ins "Course" ["speaker", "turns", "speech", "waiting", "met"] [voiceV os, .ref (st.length + 1 + s.turns.length), spV s.sp, .ref (st.length + 2 + s.turns.length), .ref (st.length + 3 + s.turns.length)] :: (s.turns.map (fun t => SO.lst (turnL t)) ++ [.lst ((layOf st.length s.turns.length).us.map .ref), .lst (s.wait.map pairV), .lst []])) = some (.next, E, st ++ SO.ins "Course" ["speaker", "turns", "speech", "waiting", "met", "told_now"] [voiceV os, .ref (st.length + 1 + s.turns.length), spV s.sp, .ref (st.length + 2 + s.turns.length), .ref (st.length + 3 + s.turns.length), .int 0] :: (s.turns.map (fun t => SO.lst (turnL t)) ++ [.lst ((layOf st.length s.turns.length).us.map .ref), .lst (s.wait.map pairV), .lst []])) :=
    fld_mid (ks := ["speaker", "turns", "speech", "waiting", "met"]) (xs := [voiceV os, .ref (st.length + 1 + s.turns.length), spV s.sp, .ref (st.length + 2 + s.turns.length), .ref (st.length + 3 + s.turns.length)]) (y := .int 0) rfl rfl (by decide) (by decide) (by kernel_rfl) (by kernel_rfl)
  unfold c_Course_init
  rw [x_callS]
  unfold s_Course_init
  rw [sSeq_next (e1 := E) (s1 := st ++ [.ins "Course" [] []]) (by simp [env0, sttV, bindT, bindTs, E])]
  rw [sSeq_next e1, sSeq_next e2, sSeq_next e3, sSeq_next e4, sSeq_next e5, e6]
  rfl
theorem new_at {os : List One} {s : Stt} {st : Sto} : CAt os (st ++ .ins "Course" coK (coX os s.co (layOf st.length s.turns.length)) :: (s.turns.map (fun t => .lst (turnL t)) ++ [.lst ((layOf st.length s.turns.length).us.map .ref), .lst (s.wait.map pairV), .lst []])) st.length s.co (layOf st.length s.turns.length) := by
  have hlen : (layOf st.length s.turns.length).us.length = s.turns.length := by simp [layOf]
  have gt : ∀ (k : Nat) (o : SO), (s.turns.map (fun t => SO.lst (turnL t)) ++ [SO.lst ((layOf st.length s.turns.length).us.map .ref), SO.lst (s.wait.map pairV), SO.lst []])[k]? = some o → (st ++ SO.ins "Course" coK (coX os s.co (layOf st.length s.turns.length)) :: (s.turns.map (fun t => .lst (turnL t)) ++ [.lst ((layOf st.length s.turns.length).us.map .ref), .lst (s.wait.map pairV), .lst []]))[st.length + 1 + k]? = some o := fun k o e => by
    rw [List.getElem?_append_right (by omega)]
    have : st.length + 1 + k - st.length = k + 1 := by omega
    rw [this, List.getElem?_cons_succ]
    exact e
  have mm : ∀ u ∈ (layOf st.length s.turns.length).us, st.length + 1 ≤ u ∧ u < st.length + 1 + s.turns.length := fun u hu => by
    obtain ⟨k, hk, rfl⟩ := List.mem_map.mp hu
    have := List.mem_range.mp hk
    omega
  refine ⟨get_mid, gt s.turns.length _ (by rw [List.getElem?_append_right (by simp)]; simp), hlen, fun k u t hu ht => ?_, ?_, ?_, ?_, ?_, ?_, fun u hu => ?_, ?_, ?_⟩
  · have hu' : ((List.range s.turns.length).map fun k => st.length + 1 + k)[k]? = some u := hu
    have hk : k < s.turns.length := (List.getElem?_eq_some_iff.mp ht).1
    rw [List.getElem?_map, List.getElem?_range hk] at hu'
    cases hu'
    refine gt k _ ?_
    rw [List.getElem?_append_left (by simpa using hk), List.getElem?_map]
    have ht' : s.turns[k]? = some t := ht
    rw [ht']
    rfl
  · have := gt (s.turns.length + 1) (SO.lst (s.wait.map pairV)) (by rw [List.getElem?_append_right (by simp)]; simp)
    rw [show (layOf st.length s.turns.length).wi = st.length + 1 + (s.turns.length + 1) by show st.length + 2 + _ = _; omega]
    exact this
  · have := gt (s.turns.length + 2) (SO.lst []) (by rw [List.getElem?_append_right (by simp)]; simp)
    rw [show (layOf st.length s.turns.length).mi = st.length + 1 + (s.turns.length + 2) by show st.length + 3 + _ = _; omega]
    exact this
  · show st.length + 1 + _ ≠ st.length + 2 + _
    omega
  · show st.length + 1 + _ ≠ st.length + 3 + _
    omega
  · show st.length + 2 + _ ≠ st.length + 3 + _
    omega
  · have := mm u hu
    show u ≠ st.length + 1 + _ ∧ u ≠ st.length + 2 + _ ∧ u ≠ st.length + 3 + _
    omega
  · show ((List.range s.turns.length).map fun k => st.length + 1 + k).Nodup
    exact List.Pairwise.map _ (fun a b hab z => hab (by omega)) List.nodup_range
  · refine ⟨by show _ ≤ st.length + 1 + _; omega, by show _ ≤ st.length + 2 + _; omega, by show _ ≤ st.length + 3 + _; omega, fun u hu => by have := mm u hu; omega⟩
end Pg
namespace Pg
open PySem Mi
open L2 (atI atI_last ixN)
/-! ### a tick -/
theorem first_len {os : List One} {c : Co} : (c.first os).turns.length = c.turns.length := by
  unfold Co.first
  split
  · split
    · rw [begin_len]
    · rfl
  · rfl
theorem first_wf {os : List One} {c : Co} (g : Good os) (h : c.Ok os) : (c.first os).Ok os := by
  unfold Co.first
  split
  · rename_i i n w e1 e2
    split
    · rename_i o ho
      have hm := h.wait (i, n) (by rw [e2]; exact List.mem_cons_self)
      exact begin_wf g (c := { c with wait := w }) ⟨h.left, fun p hp => h.wait p (by rw [e2]; exact List.mem_cons_of_mem _ hp), h.sp⟩ ho hm.1
    · exact h
  · exact h
theorem first_sz {os : List One} {c : Co} {m : Nat} (h : c.Sz m) : (c.first os).Sz m := by
  unfold Co.first
  split
  · rename_i i n w e1 e2
    split
    · have h1 := h.met
      rw [mu_eq, e2, List.length_cons] at h1
      have hm : 2 ≤ m := by omega
      refine (begin_sz (m := m - 2) (c := { c with wait := w }) ⟨?_, h.turns⟩).mono (by omega)
      rw [mu_eq]
      dsimp only
      omega
    · exact h
  · exact h
theorem crowd_wf {os : List One} {c : Co} (h : c.Ok os) : (crowd c).Ok os := by
  unfold crowd
  split
  · exact ⟨h.left, h.wait, h.sp⟩
  · exact h
theorem crowd_sz {c : Co} {m : Nat} (h : c.Sz m) : (crowd c).Sz (m + 1) := by
  unfold crowd
  split
  · refine ⟨?_, h.turns⟩
    have := h.met
    rw [mu_eq] at this ⊢
    rw [List.length_append]
    simp only [List.length_cons, List.length_nil]
    omega
  · exact h.mono (by omega)
section
variable {os : List One} {st : Sto} {s : Stt}
theorem saidV_nr : ∀ o : Option (Int × Nat), noRef (saidV o) = true
  | none => rfl
  | some _ => rfl
theorem tick_ok (g : Good os) (wf : s.co.Ok os) (sz : s.co.Sz 700000) :
    ∃ st' a', c_spoken_tick [voiceV os, sttV s] st = some (.ok (.tup [.ref st.length, saidV (tick os s).2]), st') ∧ CAt os st' st.length (tick os s).1 a' ∧ Fb st.length st st' := by
  have hl : s.turns.length ≤ 1000 := sz.turns
  have h0 := new_at (os := os) (s := s) (st := st)
  have i0 := init_ok' (os := os) (s := s) (st := st) hl
  generalize hst0 : st ++ SO.ins "Course" coK (coX os s.co (layOf st.length s.turns.length)) :: (s.turns.map (fun t => .lst (turnL t)) ++ [.lst ((layOf st.length s.turns.length).us.map .ref), .lst (s.wait.map pairV), .lst []]) = st0 at h0 i0
  have f0 : Fb st.length st st0 := by
    rw [← hst0]
    exact Fb.app (Nat.le_refl _)
  clear hst0
  unfold c_spoken_tick
  rw [x_callS]
  unfold s_spoken_tick
  let E : Mi.Env := [some (voiceV os), some (sttV s), some (.ref st.length), none, none]
  rw [sSeq_next (e1 := E) (s1 := st0) (by simp [env0, i0, E])]
  -- what waits begins
  have p1 : ∃ st1 a1 d3 d4, sIf (andB (asB (bin isNV (un (fldV (ownL ["Course"]) "speech") (var 2)) (ret .non))) (asB (bin (cmpV fun i j => decide (j < i)) (app lenV (consM (un (fldV (ownL ["Course"]) "waiting") (var 2)) nilM)) (ret (.int 0))))) (sSeq (sSetT (.tup [.name 3, .name 4]) (bin idxV (un (fldV (ownL ["Course"]) "waiting") (var 2)) (ret (.int 0))))
      (sSeq (sFldV (ownL ["Course"]) "waiting" (var 2) (sliceS (un (fldV (ownL ["Course"]) "waiting") (var 2)) (part (ret (.int 1))) nopart))
      (sExpr (methM "Course" "begin" 3 c_Course_begin [] (var 2) (consM (var 3) (consM (var 4) nilM)))))) sNext E st0 = some (.next, [some (voiceV os), some (sttV s), some (.ref st.length), d3, d4], st1) ∧ CAt os st1 st.length (s.co.first os) a1 ∧ Fb st.length st0 st1 := by
    have lw : lenV st0 [.ref (layOf st.length s.turns.length).wi] = some (.int s.wait.length) := by
      rw [len_ref h0.wai, List.length_map]
      rfl
    have fp := h0.fP
    have fw := h0.fW
    unfold Co.first
    cases e1 : s.sp with
    | some x =>
      refine ⟨st0, layOf st.length s.turns.length, none, none, ?_, ?_, Fb.refl⟩
      · have fp' : fldV (ownL ["Course"]) "speech" st0 (.ref st.length) = some (.tup [.int x.turn, .int (x.num : Int), .int x.ticks, .bl x.jn]) := by rw [fp]; show some (spV s.sp) = _; rw [e1]; rfl
        simp [E, fp']
      · have e1' : s.co.sp = some x := e1
        rw [e1']
        exact h0
    | none =>
      have e1' : s.co.sp = none := e1
      have fp' : fldV (ownL ["Course"]) "speech" st0 (.ref st.length) = some .non := by rw [fp]; show some (spV s.sp) = _; rw [e1]; rfl
      rw [e1']
      cases e2 : s.wait with
      | nil =>
        have e2' : s.co.wait = [] := e2
        rw [e2']
        refine ⟨st0, layOf st.length s.turns.length, none, none, ?_, h0, Fb.refl⟩
        rw [e2] at lw
        simp [E, fp', fw, lw]
      | cons p w =>
        obtain ⟨k, n⟩ := p
        have e2' : s.co.wait = (k, n) :: w := e2
        rw [e2']
        dsimp only
        have hm := wf.wait (k, n) (by rw [e2']; exact List.mem_cons_self)
        have ho : os[n]? = some os[n] := List.getElem?_eq_getElem hm.2
        rw [ho]
        dsimp only
        let E2 : Mi.Env := [some (voiceV os), some (sttV s), some (.ref st.length), some (.int (k : Int)), some (.int (n : Int))]
        have wz : s.wait.length ≤ 350000 := by
          have := sz.met
          rw [mu_eq] at this
          have w' : s.co.wait.length = s.wait.length := rfl
          omega
        have hv : sliceS (un (fldV (ownL ["Course"]) "waiting") (var 2)) (part (ret (.int 1))) nopart E2 st0 = some (.ok (.ref st0.length), st0 ++ [.lst (w.map pairV)]) := by
          have e : cutL (s.wait.map pairV) (some 1) none = w.map pairV := by
            have := cut_hi (s.wait.map pairV) (n := 1)
            rw [e2] at this ⊢
            exact this
          have lo : lstOf st0 (.ref (layOf st.length s.turns.length).wi) = some (s.wait.map pairV) := lst_ref h0.wai
          simp [E2, fw, lo, e]
        obtain ⟨st2, a2, q2, h2, f2, _, _⟩ := h0.setWait (v := 2) hv rfl
        obtain ⟨st3, a3, q3, h3, f3, _, _⟩ := begin_ok h2 ho hm.1 hl (by show ([] : List Str).length < _; decide) (by show w.length ≤ _; rw [e2, List.length_cons] at wz; omega)
        refine ⟨st3, a3, some (.int (k : Int)), some (.int (n : Int)), ?_, h3, f2.trans f3⟩
        have ix : idxV st0 (.ref (layOf st.length s.turns.length).wi) (.int 0) = some (.tup [.int (k : Int), .int (n : Int)]) := by
          rw [idx_ref h0.wai]
          show atI (s.wait.map pairV) ((0 : Nat) : Int) = _
          rw [e2, atI_nat]
          rfl
        rw [x_sIf, show andB (asB (bin isNV (un (fldV (ownL ["Course"]) "speech") (var 2)) (ret .non))) (asB (bin (cmpV fun i j => decide (j < i)) (app lenV (consM (un (fldV (ownL ["Course"]) "waiting") (var 2)) nilM)) (ret (.int 0)))) E st0 = some (.ok true, st0) by simp [E, fp', fw, lw, e2], eK_ok, if_pos rfl]
        rw [sSeq_next (e1 := E2) (s1 := st0) (by simp [E, E2, fw, ix, bindT, bindTs]), sSeq_next q2]
        simp [E2, h2.isC (m := "begin") (by decide), q3]
  obtain ⟨st1, a1, d3, d4, q1, h1, f1⟩ := p1
  rw [sSeq_next q1]
  have wf1 := first_wf g wf
  have sz1 := first_sz (os := os) sz
  obtain ⟨st2, a2, q2, h2, f2⟩ := all_due_ok g h1 wf1 (sz1.mono (by decide))
  rw [sSeq_next (e1 := [some (voiceV os), some (sttV s), some (.ref st.length), d3, d4]) (s1 := st2) (by simp [h1.isC (m := "all_due") (by decide), q2])]
  have wf2 := allDue_wf g wf1
  have sz2 : (allDue os (s.co.first os)).Sz 700000 := foldT_sz sz1
  have p3 : ∃ st3, sIf (asB (bin (cmpV fun i j => decide (j < i)) (app lenV (consM (un (fldV (ownL ["Course"]) "waiting") (var 2)) nilM)) (ret (.int 1)))) (sExpr (lm appendV (un (fldV (ownL ["Course"]) "met") (var 2)) (consM (ret (.str "crowd")) nilM))) sNext [some (voiceV os), some (sttV s), some (.ref st.length), d3, d4] st2 = some (.next, [some (voiceV os), some (sttV s), some (.ref st.length), d3, d4], st3) ∧ CAt os st3 st.length (crowd (allDue os (s.co.first os))) a2 ∧ Fb st.length st2 st3 := by
    have lw : lenV st2 [.ref a2.wi] = some (.int (allDue os (s.co.first os)).wait.length) := by rw [len_ref h2.wai, List.length_map]
    unfold crowd
    by_cases hc : 1 < (allDue os (s.co.first os)).wait.length
    · rw [if_pos hc]
      obtain ⟨st3, r1, r2, r3⟩ := h2.addMet (w := "crowd") (env := [some (voiceV os), some (sttV s), some (.ref st.length), d3, d4]) (v := 2) (by have := sz2.met; omega) rfl
      refine ⟨st3, ?_, r2, r3⟩
      rw [x_sIf, show asB (bin (cmpV fun i j => decide (j < i)) (app lenV (consM (un (fldV (ownL ["Course"]) "waiting") (var 2)) nilM)) (ret (.int 1))) [some (voiceV os), some (sttV s), some (.ref st.length), d3, d4] st2 = some (.ok true, st2) by simp [h2.fW, lw]; omega, eK_ok, if_pos rfl]
      exact r1
    · rw [if_neg hc]
      refine ⟨st2, ?_, h2, Fb.refl⟩
      rw [x_sIf, show asB (bin (cmpV fun i j => decide (j < i)) (app lenV (consM (un (fldV (ownL ["Course"]) "waiting") (var 2)) nilM)) (ret (.int 1))) [some (voiceV os), some (sttV s), some (.ref st.length), d3, d4] st2 = some (.ok false, st2) by simp [h2.fW, lw]; omega, eK_ok]
      rfl
  obtain ⟨st3, q3, h3, f3⟩ := p3
  rw [sSeq_next q3]
  have wf3 := crowd_wf wf2
  obtain ⟨st4, a4, q4, h4, f4⟩ := speak_ok h3 wf3 (crowd_sz sz2).turns
  refine ⟨st4, a4, ?_, h4, (((f0.trans f1).trans f2).trans f3).trans f4⟩
  simp (decide := true) [h3.isC (m := "speak") (by decide), q4]
  rfl
end
end Pg
namespace Pg
open PySem Mi
open L2 (atI atI_last ixN)
/-! ### sets, sorted -/
def addD {α : Type} [DecidableEq α] (ks : List α) (k : α) : List α := if k ∈ ks then ks else ks ++ [k]
def dedA {α : Type} [DecidableEq α] (ks : List α) : List α → List α
  | [] => ks
  | k :: r => dedA (addD ks k) r
/-! ### journeys, plainly -/
def leftsOf (os : List One) (leg : Int) : List Nat := (os.zipIdx.filter fun p => decide (p.1.e ≤ leg)).map (·.2)
def turnAt (os : List One) (d : Int) (op : Bool) (leg : Int) : Turn := ⟨d, op, leftsOf os leg, false⟩
structure Jn where
  now : Stt
  gone : Int
  spoken : Int
  heard : List (Option (Int × Str))
  told : List Int
  met : List (Nat × Str)
def nameOf (os : List One) (n : Nat) : Str := match os[n]? with
  | some o => o.t
  | none => ""
def spokenNext (gone spoken : Int) : Option (Int × Nat) → Int
  | some (t, _) => if 0 ≤ t then gone + t else spoken
  | none => spoken
def faultsOf (ms : List Str) : List Str := sortS (dedA [] ms)
def Jn.go (os : List One) (j : Jn) (isStep : Bool) : Jn :=
  let ct := tick os j.now
  let sp := spokenNext j.gone j.spoken ct.2
  let cs : Co × Int := if isStep then ct.1.step else (ct.1, 0)
  { now := cs.1.stt, gone := j.gone + cs.2, spoken := sp, heard := j.heard ++ [ct.2.map fun p => (sp, nameOf os p.2)],
    told := j.told ++ (List.range ct.1.now.toNat).map fun (k : Nat) => sp + (k : Int), met := j.met ++ (faultsOf cs.1.met).map fun f => (j.heard.length, f) }
def heardV : Option (Int × Str) → Val
  | none => .non
  | some p => .tup [.int p.1, .str p.2]
def metV (p : Nat × Str) : Val := .tup [.int (p.1 : Int), .str p.2]
abbrev jK : List Str := ["speaker", "now", "gone_by", "turn_spoken", "heard_words", "told_turns", "met_faults"]
abbrev jX (os : List One) (b : Nat) (s : Stt) (g p : Int) : List Val := [voiceV os, sttV s, .int g, .int p, .ref (b + 1), .ref (b + 2), .ref (b + 3)]
structure JAt (os : List One) (st : Sto) (b : Nat) (j : Jn) : Prop where
  ins : st[b]? = some (.ins "Journey" jK (jX os b j.now j.gone j.spoken))
  hw : st[b + 1]? = some (.lst (j.heard.map heardV))
  tw : st[b + 2]? = some (.lst (j.told.map .int))
  mw : st[b + 3]? = some (.lst (j.met.map metV))
section
variable {os : List One} {st : Sto} {b : Nat} {j : Jn}
theorem JAt.fb (h : JAt os st b j) {k : Nat} {st' : Sto} (hk : b + 3 < k) (f : Fb k st st') : JAt os st' b j :=
  ⟨(f.2 b (by omega)).trans h.ins, (f.2 _ (by omega)).trans h.hw, (f.2 _ (by omega)).trans h.tw, (f.2 _ (by omega)).trans h.mw⟩
theorem JAt.lt (h : JAt os st b j) : b + 3 < st.length := at_lt h.mw
theorem JAt.fS (h : JAt os st b j) : fldV (ownL ["Journey"]) "speaker" st (.ref b) = some (voiceV os) := by rw [fld_ref h.ins (by decide)]; rfl
theorem JAt.fN (h : JAt os st b j) : fldV (ownL ["Journey"]) "now" st (.ref b) = some (sttV j.now) := by rw [fld_ref h.ins (by decide)]; rfl
theorem JAt.fP (h : JAt os st b j) : fldV (ownL ["Journey"]) "turn_spoken" st (.ref b) = some (.int j.spoken) := by rw [fld_ref h.ins (by decide)]; rfl
theorem JAt.fT (h : JAt os st b j) : fldV (ownL ["Journey"]) "told_turns" st (.ref b) = some (.ref (b + 2)) := by rw [fld_ref h.ins (by decide)]; rfl
theorem JAt.fM (h : JAt os st b j) : fldV (ownL ["Journey"]) "met_faults" st (.ref b) = some (.ref (b + 3)) := by rw [fld_ref h.ins (by decide)]; rfl
end
end Pg
namespace Pg
open PySem Mi
open L2 (atI atI_last ixN)
/-! ### a tick of a journey -/
theorem lefts_tell : ∀ (n : Nat) {ts : List Turn} {lo : Nat}, lefts (tellFrom ts lo n) ≤ lefts ts
  | 0, ts, lo => Nat.le_refl _
  | n + 1, ts, lo => by
    rw [tellFrom_succ]
    exact Nat.le_trans (lefts_mod (f := Turn.tell) fun t => Nat.le_refl _) (lefts_tell n)
theorem speak_sz {c : Co} {m : Nat} (h : c.Sz m) : c.speak.1.Sz m := by
  unfold Co.speak
  split
  · exact h
  · dsimp only
    split
    · refine ⟨?_, by dsimp only; rw [tellFrom_len]; exact h.turns⟩
      have a := h.met
      rename_i s e _
      have b := lefts_tell (s.turn + (if s.jn = true then 2 else 1) - max s.turn 0).toNat (ts := c.turns) (lo := (max s.turn 0).toNat)
      rw [mu_eq] at a ⊢
      dsimp only
      omega
    · exact ⟨h.met, h.turns⟩
theorem tick_sz {os : List One} {s : Stt} {m : Nat} (h : s.co.Sz m) : (tick os s).1.Sz (m + 1) := speak_sz (crowd_sz (foldT_sz (first_sz h)))
/-- how much there is of a state -/
structure Stt.Fine (os : List One) (s : Stt) : Prop where
  wf : s.co.Ok os
  mu : s.co.mu ≤ 1000
  turns : s.turns.length ≤ 1000
theorem Stt.Fine.sz {os : List One} {s : Stt} (h : s.Fine os) : s.co.Sz 2000 := ⟨by
  have := h.mu
  show 0 + 2 * s.co.mu ≤ 2000
  omega, h.turns⟩
theorem begin_mu {c : Co} {k n : Nat} {o : One} : (c.begin k n o).mu ≤ c.mu := by
  rw [mu_eq, mu_eq]
  have a2 : (c.begin k n o).wait.length ≤ c.wait.length := by
    unfold Co.begin
    dsimp only
    split
    · exact List.length_filter_le _ _
    · exact Nat.le_refl _
  have a3 : lefts (c.begin k n o).turns ≤ lefts c.turns := by
    unfold Co.begin
    dsimp only
    split
    · exact lefts_mod (f := Turn.noLeft) fun t => Nat.zero_le _
    · exact Nat.le_refl _
  omega
theorem due_mu {c : Co} {k n : Nat} {o : One} : (c.due k n o).mu ≤ c.mu + 1 := by
  unfold Co.due
  split
  · exact Nat.le_trans begin_mu (Nat.le_succ _)
  · split
    · rw [mu_eq, mu_eq]
      dsimp only
      rw [List.length_append]
      simp only [List.length_cons, List.length_nil]
      omega
    · split
      · exact Nat.le_trans begin_mu (Nat.le_succ _)
      · omega
theorem due1_mu {os : List One} {c : Co} {k n : Nat} : (due1 os k c n).mu ≤ c.mu := by
  unfold due1
  split
  · rename_i t o ht ho
    split
    · rename_i hc
      have a := lefts_less ht hc.1
      refine Nat.le_trans due_mu ?_
      rw [mu_eq, mu_eq]
      dsimp only
      omega
    · exact Nat.le_refl _
  · exact Nat.le_refl _
theorem fold1_mu {os : List One} {k : Nat} : ∀ {l : List Nat} {c : Co}, (l.foldl (due1 os k) c).mu ≤ c.mu
  | [], c => Nat.le_refl _
  | n :: l, c => by
    rw [List.foldl_cons]
    exact Nat.le_trans fold1_mu due1_mu
theorem foldT_mu {os : List One} : ∀ {l : List Nat} {c : Co}, (l.foldl (dueTurn os) c).mu ≤ c.mu
  | [], c => Nat.le_refl _
  | n :: l, c => by
    rw [List.foldl_cons]
    refine Nat.le_trans foldT_mu ?_
    unfold dueTurn
    split
    · exact fold1_mu
    · exact Nat.le_refl _
theorem first_mu {os : List One} {c : Co} : (c.first os).mu ≤ c.mu := by
  unfold Co.first
  split
  · rename_i i n w e1 e2
    split
    · refine Nat.le_trans begin_mu ?_
      rw [mu_eq, mu_eq, e2]
      dsimp only
      rw [List.length_cons]
      omega
    · exact Nat.le_refl _
  · exact Nat.le_refl _
theorem speak_mu {c : Co} : c.speak.1.mu ≤ c.mu := by
  unfold Co.speak
  split
  · exact Nat.le_refl _
  · rename_i s e
    dsimp only
    split
    · have b := lefts_tell (s.turn + (if s.jn = true then 2 else 1) - max s.turn 0).toNat (ts := c.turns) (lo := (max s.turn 0).toNat)
      rw [mu_eq, mu_eq]
      dsimp only
      omega
    · exact Nat.le_refl _
theorem crowd_mu {c : Co} : (crowd c).mu = c.mu := by
  unfold crowd
  split <;> rfl
theorem speak_len {c : Co} : c.speak.1.turns.length = c.turns.length := by
  unfold Co.speak
  split
  · rfl
  · dsimp only
    split
    · dsimp only
      rw [tellFrom_len]
    · rfl
theorem crowd_len {c : Co} : (crowd c).turns.length = c.turns.length := by
  unfold crowd
  split <;> rfl
theorem step_len {c : Co} : c.step.1.turns.length ≤ c.turns.length := by
  have hlen : (c.turns.map Turn.near).length = c.turns.length := List.length_map _
  unfold Co.step
  dsimp only
  split
  · exact Nat.zero_le _
  · rename_i t rest e
    split
    · exact Nat.le_of_eq hlen
    · rw [e] at hlen
      simp only [List.length_cons] at hlen
      dsimp only
      omega
theorem tick_mu {os : List One} {s : Stt} : (tick os s).1.mu ≤ s.co.mu := by
  unfold tick
  refine Nat.le_trans speak_mu ?_
  rw [crowd_mu]
  exact Nat.le_trans foldT_mu first_mu
theorem tick_len {os : List One} {s : Stt} : (tick os s).1.turns.length = s.turns.length := by
  unfold tick
  rw [speak_len, crowd_len, allDue_len, first_len]
  rfl
end Pg
namespace Pg
open PySem Mi
open L2 (atI atI_last ixN)
end Pg
namespace Pg
open PySem Mi
open L2 (atI atI_last ixN)
/-! ### the beginning of a road -/
theorem pairs_map {α : Type} {f : α → Val} (xs : List α) : pairs (xs.map f) = xs.zipIdx.map fun p => .tup [.int ((p.2 : Nat) : Int), f p.1] := by
  unfold pairs
  rw [List.zipIdx_map, List.map_map]
  rfl
section
variable {os : List One} {st : Sto}
theorem turn_at_ok {d leg : Int} {op : Bool} (hl : os.length ≤ 1000) : c_turn_at [voiceV os, .int d, .bl op, .int leg] st = some (.ok (.tup (turnL (turnAt os d op leg))), st) := by
  have cm : comp (enumM (consM (un (fldV (ownL ["Voice"]) "calls") (var 0)) nilM)) (.tup [.name 5, .name 6]) [5, 6] (asB (bin (cmpV fun i j => decide (i ≤ j)) (un (fldV (ownL ["Call"]) "least") (var 6)) (var 3))) (var 5) [some (voiceV os), some (.int d), some (.bl op), some (.int leg), none, none, none] st = some (.ok (.lst ((leftsOf os leg).map fun n : Nat => Val.int (n : Int))), st) := by
    have key := comp_flt (enc := fun p : One × Nat => Val.tup [.int ((p.2 : Nat) : Int), callV p.1]) (g := fun p : One × Nat => Val.int ((p.2 : Nat) : Int)) (P := fun p => decide (p.1.e ≤ leg)) (as := os.zipIdx) (mi := enumM (consM (un (fldV (ownL ["Voice"]) "calls") (var 0)) nilM)) (t := .tup [.name 5, .name 6]) (own := [5, 6]) (cond := asB (bin (cmpV fun i j => decide (i ≤ j)) (un (fldV (ownL ["Call"]) "least") (var 6)) (var 3))) (elt := var 5) (env := [some (voiceV os), some (.int d), some (.bl op), some (.int leg), none, none, none]) (st := st) (s1 := st) (by
        rw [← pairs_map]
        exact enumM_ok (v := .tup (os.map callV)) (consM_ok (un_ok (x := voiceV os) rfl f_calls) nilM_ok) rfl) (by rw [List.length_zipIdx]; omega) fun p hp => ⟨[some (voiceV os), some (.int d), some (.bl op), some (.int leg), none, some (.int ((p.2 : Nat) : Int)), some (callV p.1)], rfl, by simp [f_least], fun _ => rfl⟩
    rw [key]
    unfold leftsOf
    rw [List.map_map]
    rfl
  unfold c_turn_at s_turn_at
  rw [x_callS]
  have tv : ∀ xs : List Val, ∀ st, tupleV st [.lst xs] = some (.tup xs) := fun _ _ => rfl
  simp (decide := true) [env0, cm, tv, turnL, turnAt]
theorem turn_at_nr (t : Turn) : noRef (.tup (turnL t)) = true := turnL_nr t
end
end Pg
namespace Pg
open PySem Mi
open L2 (atI atI_last ixN)
/-! ### a play -/
end Pg
namespace Pg
open PySem Mi
open L2 (atI atI_last ixN)
/-- a list or a tuple that is read alone -/
def Sq (v : Val) (xs : List Val) : Prop := v = .lst xs ∨ v = .tup xs
theorem Sq.seq {v : Val} {xs : List Val} (h : Sq v xs) : seqStill v = some xs := by rcases h with rfl | rfl <;> rfl
theorem Sq.is {v : Val} {xs : List Val} (h : Sq v xs) {st : Sto} : c_is_sequence [v] st = some (.ok (.bl true), st) := by rcases h with rfl | rfl <;> rfl
/-! ### all of it -/
structure Jn.In (os : List One) (j : Jn) (n : Nat) : Prop where
  fine : j.now.Fine os
  heard : j.heard.length = n
  told : j.told.length ≤ 2 * n
  met : j.met.length ≤ 2003 * n
end Pg
namespace Pg
open PySem Mi
open L2 (atI atI_last ixN)
/-! ### what is told is data -/
def fWords : List Str := ["ahead", "behind", "crowd", "cut", "untold"]
end Pg
namespace Pg
open PySem Mi
/-! ### windows, plainly -/
structure Flw where
  word : Str
  chosen : List Int
  near : Bool
  later : Stt
  wrong : List Str
  said : Option (Int × Nat)
def openLeg (leg : Int) : Int := max 5 leg
def lastD (ts : List Turn) : Int := match ts.getLast? with
  | some t => t.d
  | none => 0
def Stt.behind (s : Stt) (t : Turn) : Stt := { s with turns := s.turns ++ [t] }
/-- from lo on, below hi -/
def rgI (lo hi : Int) : List Int := (List.range (hi - lo).toNat).map fun (l : Nat) => lo + l
def kids (os : List One) (leg : Int) (e : Stt × List Int) : List (Stt × List Int) :=
  (rgI leg 5).map (fun l => (e.1.behind (turnAt os (lastD e.1.turns + l) false l), e.2 ++ [l])) ++
    [(e.1.behind (turnAt os (lastD e.1.turns + openLeg leg) true (openLeg leg)), e.2 ++ [0])]
def extGo (os : List One) (leg reach : Int) : Nat → List (Stt × List Int) → List (Stt × List Int) → List (Stt × List Int)
  | 0, _, found => found
  | _ + 1, [], found => found
  | n + 1, e :: q, found => if reach < lastD e.1.turns then extGo os leg reach n q (found ++ [e]) else extGo os leg reach n (q ++ kids os leg e) found
def extended (os : List One) (s : Stt) (leg reach : Int) : List (Stt × List Int) := extGo os leg reach 1000 [(s, [])] []
def beginnings (os : List One) (leg reach : Int) : List Flw := (extended os ⟨[], none, []⟩ leg reach).map fun e => ⟨"", e.2, false, e.1, [], none⟩
def placed (ts : List Turn) (near : Bool) (reach : Int) : List Turn := match ts.getLast? with
  | none => ts
  | some t => if !t.op || decide (reach + 1 < t.d) then ts else ts.dropLast ++ [if near then { t with op := false } else { t with d := t.d + 1 }]
def canCome (ts : List Turn) (reach : Int) : Bool := match ts.getLast? with
  | some t => t.op && decide (t.d = reach + 1)
  | none => false
/-- the course behind a step, the open turn being there or not -/
def moved (os : List One) (s : Stt) (near : Bool) (reach : Int) : Co := Co.step { (tick os s).1 with turns := placed (tick os s).1.turns near reach } |>.1
def nears (os : List One) (s : Stt) (reach : Int) : List Bool := if canCome (tick os s).1.turns reach then [false, true] else [false]
def stepFlws (os : List One) (s : Stt) (leg reach : Int) (near : Bool) : List Flw :=
  (extended os (moved os s near reach).stt leg reach).map fun e => ⟨"step", e.2, near, e.1, (moved os s near reach).met, (tick os s).2⟩
def followed (os : List One) (s : Stt) (leg reach : Int) : List Flw :=
  ⟨"halt", [], false, (tick os s).1.stt, (tick os s).1.met, (tick os s).2⟩ :: (nears os s reach).flatMap (stepFlws os s leg reach)
/-- all windows so far, by what each came about; what was met first, by what -/
structure Wk where
  order : List Stt
  came : List (Flw × Option Stt)
  met : List (Str × Flw × Stt)
def nkT (t : Turn) : NestedKey := .tup [.num t.d, .num (if t.op then 1 else 0), .tup (t.left.map fun n : Nat => .num (n : Int)), .num (if t.told then 1 else 0)]
def nkSp : Option Sp → NestedKey
  | none => .none
  | some s => .tup [.num s.turn, .num (s.num : Int), .num s.ticks, .num (if s.jn then 1 else 0)]
def nkS (s : Stt) : NestedKey := .tup [.tup (s.turns.map nkT), nkSp s.sp, .tup (s.wait.map fun p => .tup [.num (p.1 : Int), .num (p.2 : Int)])]
instance : DecidableEq Turn := fun a b => if h : a.d = b.d ∧ a.op = b.op ∧ a.left = b.left ∧ a.told = b.told then .isTrue (by
  cases a
  cases b
  obtain ⟨h1, h2, h3, h4⟩ := h
  dsimp only at h1 h2 h3 h4
  subst h1 h2 h3 h4
  rfl) else .isFalse fun e => h (by subst e; exact ⟨rfl, rfl, rfl, rfl⟩)
instance : DecidableEq Sp := fun a b => if h : a.turn = b.turn ∧ a.num = b.num ∧ a.ticks = b.ticks ∧ a.jn = b.jn then .isTrue (by
  cases a
  cases b
  obtain ⟨h1, h2, h3, h4⟩ := h
  dsimp only at h1 h2 h3 h4
  subst h1 h2 h3 h4
  rfl) else .isFalse fun e => h (by subst e; exact ⟨rfl, rfl, rfl, rfl⟩)
instance : DecidableEq Stt := fun a b => if h : a.turns = b.turns ∧ a.sp = b.sp ∧ a.wait = b.wait then .isTrue (by
  cases a
  cases b
  obtain ⟨h1, h2, h3⟩ := h
  dsimp only at h1 h2 h3
  subst h1 h2 h3
  rfl) else .isFalse fun e => h (by subst e; exact ⟨rfl, rfl, rfl⟩)
theorem map_inj {α β : Type} {f : α → β} (h : ∀ a b, f a = f b → a = b) : ∀ {as bs : List α}, as.map f = bs.map f → as = bs
  | [], [], _ => rfl
  | [], _ :: _, e => by cases e
  | _ :: _, [], e => by cases e
  | a :: as, b :: bs, e => by
    simp only [List.map_cons, List.cons.injEq] at e
    rw [h _ _ e.1, map_inj h e.2]
theorem bool_num {a b : Bool} (h : (if a then (1 : Int) else 0) = if b then 1 else 0) : a = b := by cases a <;> cases b <;> first | rfl | cases h
theorem nkT_inj : ∀ a b : Turn, nkT a = nkT b → a = b
  | ⟨d, op, l, td⟩, ⟨d', op', l', td'⟩, h => by
    unfold nkT at h
    simp only [NestedKey.tup.injEq, List.cons.injEq, NestedKey.num.injEq, and_true] at h
    obtain ⟨h1, h2, h3, h4⟩ := h
    have e2 := bool_num h2
    have e4 := bool_num h4
    have e3 : l = l' := map_inj (f := fun n : Nat => NestedKey.num (n : Int)) (fun a b e => by have e' := NestedKey.num.inj e; omega) h3
    subst h1 e2 e3 e4
    rfl
theorem nkSp_inj : ∀ a b : Option Sp, nkSp a = nkSp b → a = b
  | none, none, _ => rfl
  | none, some _, h => by cases h
  | some _, none, h => by cases h
  | some ⟨t, n, k, j⟩, some ⟨t', n', k', j'⟩, h => by
    unfold nkSp at h
    simp only [NestedKey.tup.injEq, List.cons.injEq, NestedKey.num.injEq, and_true] at h
    obtain ⟨h1, h2, h3, h4⟩ := h
    have e4 := bool_num h4
    have e2 : n = n' := by omega
    subst h1 e2 h3 e4
    rfl
theorem nkS_inj : ∀ a b : Stt, nkS a = nkS b → a = b
  | ⟨ts, sp, w⟩, ⟨ts', sp', w'⟩, h => by
    unfold nkS at h
    simp only [NestedKey.tup.injEq, List.cons.injEq, and_true] at h
    obtain ⟨h1, h2, h3⟩ := h
    have e1 := map_inj nkT_inj h1
    have e2 := nkSp_inj _ _ h2
    have e3 : w = w' := map_inj (f := fun p : Nat × Nat => NestedKey.tup [.num (p.1 : Int), .num (p.2 : Int)]) (fun a b e => by
      obtain ⟨a1, a2⟩ := a
      obtain ⟨b1, b2⟩ := b
      simp only [NestedKey.tup.injEq, List.cons.injEq, NestedKey.num.injEq, and_true] at e
      obtain ⟨e1, e2⟩ := e
      have e1 : a1 = b1 := by omega
      have e2 : a2 = b2 := by omega
      rw [e1, e2]) h3
    rw [e1, e2, e3]
theorem nksOf_map {α : Type} {f : α → Val} {g : α → NestedKey} (h : ∀ a, nkOf (f a) = some (g a)) : ∀ l : List α, nksOf (l.map f) = some (l.map g)
  | [] => rfl
  | a :: l => by
    rw [List.map_cons]
    unfold nksOf
    rw [h, nksOf_map h l]
    rfl
theorem nkOf_tup {xs : List Val} {ks : List NestedKey} (h : nksOf xs = some ks) : nkOf (.tup xs) = some (.tup ks) := by
  unfold nkOf
  rw [h]
theorem nksOf_cons {x : Val} {xs : List Val} {k : NestedKey} {ks : List NestedKey} (h : nkOf x = some k) (g : nksOf xs = some ks) : nksOf (x :: xs) = some (k :: ks) := by
  unfold nksOf
  rw [h, g]
theorem nk_turn (t : Turn) : nkOf (.tup (turnL t)) = some (nkT t) :=
  nkOf_tup (nksOf_cons rfl (nksOf_cons rfl (nksOf_cons (nkOf_tup (nksOf_map (fun _ => rfl) _)) (nksOf_cons rfl rfl))))
theorem nk_sp (s : Option Sp) : nkOf (spV s) = some (nkSp s) := by
  cases s <;> rfl
theorem nk_stt (s : Stt) : nkOf (sttV s) = some (nkS s) :=
  nkOf_tup (nksOf_cons (nkOf_tup (nksOf_map nk_turn _)) (nksOf_cons (nk_sp _) (nksOf_cons (nkOf_tup (nksOf_map (f := pairV) (fun _ => rfl) _)) rfl)))
theorem depthAll_map {α : Type} {f : α → NestedKey} {n : Nat} (h : ∀ a, (f a).depth ≤ n) : ∀ l : List α, NestedKey.depthAll (l.map f) ≤ n
  | [] => Nat.zero_le _
  | a :: l => by
    rw [List.map_cons]
    unfold NestedKey.depthAll
    exact Nat.max_le.mpr ⟨h a, depthAll_map h l⟩
theorem depth_tup {ks : List NestedKey} : (NestedKey.tup ks).depth = NestedKey.depthAll ks + 1 := by
  rw [NestedKey.depth]
theorem depth_all_cons {k : NestedKey} {ks : List NestedKey} {n : Nat} (h : k.depth ≤ n) (g : NestedKey.depthAll ks ≤ n) : NestedKey.depthAll (k :: ks) ≤ n := by
  unfold NestedKey.depthAll
  exact Nat.max_le.mpr ⟨h, g⟩
theorem depth_num {i : Int} {n : Nat} : (NestedKey.num i).depth ≤ n := by
  rw [NestedKey.depth]
  exact Nat.zero_le _
theorem depth_nil {n : Nat} : NestedKey.depthAll [] ≤ n := by
  rw [NestedKey.depthAll]
  exact Nat.zero_le _
theorem nkS_depth (s : Stt) : (nkS s).depth ≤ 8 := by
  have ht : ∀ t, (nkT t).depth ≤ 2 := fun t => by
    unfold nkT
    rw [depth_tup]
    refine Nat.succ_le_succ (depth_all_cons depth_num (depth_all_cons depth_num (depth_all_cons ?_ (depth_all_cons depth_num depth_nil))))
    rw [depth_tup]
    exact Nat.succ_le_succ (depthAll_map (fun _ => depth_num) _)
  have hs : (nkSp s.sp).depth ≤ 7 := by
    cases s.sp with
    | none =>
      show NestedKey.none.depth ≤ 7
      rw [NestedKey.depth]
      decide
    | some p =>
      unfold nkSp
      rw [depth_tup]
      exact Nat.succ_le_succ (Nat.le_trans (depth_all_cons depth_num (depth_all_cons depth_num (depth_all_cons depth_num (depth_all_cons depth_num depth_nil)))) (Nat.zero_le 6))
  unfold nkS
  rw [depth_tup]
  refine Nat.succ_le_succ (depth_all_cons ?_ (depth_all_cons hs (depth_all_cons ?_ depth_nil)))
  · rw [depth_tup]
    exact Nat.le_trans (Nat.succ_le_succ (depthAll_map ht _)) (by decide)
  · rw [depth_tup]
    refine Nat.le_trans (Nat.succ_le_succ (depthAll_map (n := 1) (fun p => ?_) _)) (by decide)
    rw [depth_tup]
    exact Nat.succ_le_succ (depth_all_cons depth_num (depth_all_cons depth_num depth_nil))
theorem key_stt (s : Stt) : tupKey (sttV s) = some (nkS s) := by
  have h := nk_stt s
  unfold sttV at h ⊢
  unfold tupKey
  dsimp only
  rw [h]
  dsimp only
  rw [if_pos (nkS_depth s)]
end Pg
namespace Pg
open PySem Mi
open L2 (atI atI_last ixN)
/-! ### the queue of legs ends -/
def wtD (reach d : Int) : Nat := if reach < d then 1 else 5 * 2 ^ (reach - d).toNat + 1
def wtE (reach : Int) (e : Stt × List Int) : Nat := wtD reach (lastD e.1.turns)
theorem lastD_snoc (ts : List Turn) (t : Turn) : lastD (ts ++ [t]) = t.d := by
  unfold lastD
  rw [List.getLast?_append]
  rfl
theorem wtD_pos (reach d : Int) : 1 ≤ wtD reach d := by
  unfold wtD
  split <;> omega
theorem wtD_far {reach d : Int} (h : reach < d) : wtD reach d = 1 := if_pos h
theorem rgI_succ {lo hi : Int} (h : lo < hi) : rgI lo hi = lo :: rgI (lo + 1) hi := by
  unfold rgI
  rw [show (hi - lo).toNat = (hi - (lo + 1)).toNat + 1 by omega, List.range_succ_eq_map, List.map_cons, List.map_map]
  congr 1
  · simp
  · refine List.map_congr_left fun a _ => ?_
    show lo + ((a + 1 : Nat) : Int) = lo + 1 + (a : Int)
    omega
theorem rgI_nil {lo hi : Int} (h : hi ≤ lo) : rgI lo hi = [] := by
  unfold rgI
  rw [show (hi - lo).toNat = 0 by omega]
  rfl
theorem kids_wt {os : List One} {leg reach : Int} {e : Stt × List Int} (h1 : 1 ≤ leg) (h0 : 0 ≤ lastD e.1.turns) (hr : reach ≤ 4) (hn : ¬ reach < lastD e.1.turns) : ((kids os leg e).map (wtE reach)).sum + 1 ≤ wtE reach e := by
  have ho : ∀ l : Int, 5 ≤ l → wtD reach (lastD e.1.turns + l) = 1 := fun l hl => wtD_far (by omega)
  have hopen : 5 ≤ openLeg leg := by unfold openLeg; omega
  have hk : ((kids os leg e).map (wtE reach)).sum = ((rgI leg 5).map fun l => wtD reach (lastD e.1.turns + l)).sum + 1 := by
    unfold kids
    rw [List.map_append, List.sum_append, List.map_map]
    congr 1
    · congr 1
      refine List.map_congr_left fun l _ => ?_
      show wtD reach (lastD (e.1.turns ++ [_])) = _
      rw [lastD_snoc]
      rfl
    · show wtD reach (lastD (e.1.turns ++ [_])) + 0 = 1
      rw [lastD_snoc]
      show wtD reach (lastD e.1.turns + openLeg leg) + 0 = 1
      rw [ho _ hopen]
  rw [hk]
  unfold wtE
  generalize hd : lastD e.1.turns = d at *
  have hsum : ((rgI leg 5).map fun l => wtD reach (d + l)).sum ≤ wtD reach (d + 1) + wtD reach (d + 2) + wtD reach (d + 3) + wtD reach (d + 4) := by
    by_cases a5 : 5 ≤ leg
    · rw [rgI_nil a5]
      exact Nat.zero_le _
    · have : leg = 1 ∨ leg = 2 ∨ leg = 3 ∨ leg = 4 := by omega
      rcases this with h | h | h | h <;> subst h
      · rw [rgI_succ (by decide), rgI_succ (by decide), rgI_succ (by decide), rgI_succ (by decide), rgI_nil (by decide)]
        simp only [List.map_cons, List.map_nil, List.sum_cons, List.sum_nil]
        show wtD reach (d + 1) + (wtD reach (d + 2) + (wtD reach (d + 3) + (wtD reach (d + 4) + 0))) ≤ _
        omega
      · rw [rgI_succ (by decide), rgI_succ (by decide), rgI_succ (by decide), rgI_nil (by decide)]
        simp only [List.map_cons, List.map_nil, List.sum_cons, List.sum_nil]
        show wtD reach (d + 2) + (wtD reach (d + 3) + (wtD reach (d + 4) + 0)) ≤ _
        omega
      · rw [rgI_succ (by decide), rgI_succ (by decide), rgI_nil (by decide)]
        simp only [List.map_cons, List.map_nil, List.sum_cons, List.sum_nil]
        show wtD reach (d + 3) + (wtD reach (d + 4) + 0) ≤ _
        omega
      · rw [rgI_succ (by decide), rgI_nil (by decide)]
        simp only [List.map_cons, List.map_nil, List.sum_cons, List.sum_nil]
        show wtD reach (d + 4) + 0 ≤ _
        omega
  refine Nat.le_trans (Nat.add_le_add_right (Nat.add_le_add_right hsum 1) 1) ?_
  have hk : ∃ k : Nat, k ≤ 4 ∧ d = reach - k := ⟨(reach - d).toNat, by omega, by omega⟩
  obtain ⟨k, hk4, hde⟩ := hk
  have hcase : k = 0 ∨ k = 1 ∨ k = 2 ∨ k = 3 ∨ k = 4 := by omega
  have ev : ∀ j : Nat, j ≤ k → wtD reach (d + j) = 5 * 2 ^ (k - j) + 1 := fun j hj => by
    unfold wtD
    rw [if_neg (by omega), show (reach - (d + (j : Int))).toNat = k - j by omega]
  have ef : ∀ j : Int, (k : Int) < j → wtD reach (d + j) = 1 := fun j hj => wtD_far (by omega)
  have e0 := ev 0 (Nat.zero_le _)
  simp only [Int.natCast_zero, Int.add_zero] at e0
  rw [e0]
  rcases hcase with h | h | h | h | h <;> subst h
  · rw [ef 1 (by decide), ef 2 (by decide), ef 3 (by decide), ef 4 (by decide)]
    decide
  · rw [show wtD reach (d + 1) = _ from ev 1 (by decide), ef 2 (by decide), ef 3 (by decide), ef 4 (by decide)]
    decide
  · rw [show wtD reach (d + 1) = _ from ev 1 (by decide), show wtD reach (d + 2) = _ from ev 2 (by decide), ef 3 (by decide), ef 4 (by decide)]
    decide
  · rw [show wtD reach (d + 1) = _ from ev 1 (by decide), show wtD reach (d + 2) = _ from ev 2 (by decide), show wtD reach (d + 3) = _ from ev 3 (by decide), ef 4 (by decide)]
    decide
  · rw [show wtD reach (d + 1) = _ from ev 1 (by decide), show wtD reach (d + 2) = _ from ev 2 (by decide), show wtD reach (d + 3) = _ from ev 3 (by decide), show wtD reach (d + 4) = _ from ev 4 (by decide)]
    decide
theorem kids_last {os : List One} {leg : Int} {e x : Stt × List Int} (h1 : 1 ≤ leg) (h0 : 0 ≤ lastD e.1.turns) (hx : x ∈ kids os leg e) : 0 ≤ lastD x.1.turns := by
  unfold kids at hx
  rcases List.mem_append.mp hx with hx | hx
  · obtain ⟨l, hl, rfl⟩ := List.mem_map.mp hx
    show 0 ≤ lastD (e.1.turns ++ [_])
    rw [lastD_snoc]
    unfold rgI at hl
    obtain ⟨i, _, rfl⟩ := List.mem_map.mp hl
    show 0 ≤ lastD e.1.turns + (leg + (i : Int))
    omega
  · rw [List.mem_singleton.mp hx]
    show 0 ≤ lastD (e.1.turns ++ [_])
    rw [lastD_snoc]
    show 0 ≤ lastD e.1.turns + openLeg leg
    unfold openLeg
    omega
/-! ### the program's own -/
def extV (e : Stt × List Int) : Val := .tup [sttV e.1, .tup (e.2.map .int)]
theorem extV_nr (e : Stt × List Int) : noRef (extV e) = true := by
  show (noRef (sttV e.1) && (noRefs (e.2.map .int) && true)) = true
  rw [noRef_sttV, noRefs_map (fun _ => rfl)]
  rfl
theorem voice_nr (os : List One) : noRef (voiceV os) = true := voiceV_nr os
theorem open_leg_ok {leg : Int} {st : Sto} : runP c_open_leg [.int leg] st = some (.ok (.int (openLeg leg)), st) := by
  refine runP_ok rfl (st' := []) ?_ rfl
  unfold c_open_leg s_open_leg
  rw [x_callS]
  simp (decide := true) [env0, max2_ints, openLeg]
theorem idx_last {α : Type} {f : α → Val} {xs : List α} {t : α} (h : xs.getLast? = some t) : atI (xs.map f) (-1) = some (f t) := by
  have : xs = xs.dropLast ++ [t] := by
    cases xs with
    | nil => cases h
    | cons x xs =>
      rw [List.getLast?_eq_some_getLast (List.cons_ne_nil x xs)] at h
      cases h
      exact (List.dropLast_concat_getLast (List.cons_ne_nil x xs)).symm
  rw [this, List.map_append]
  exact atI_last _ _
@[simp] theorem x_starM {m : M Val} {ms : M (List Val)} {env : Mi.Env} {st : Sto} : starM m ms env st = bK (m env st) (fun a => Mi.bnd (lift fun st => seqOf st a) fun xs => Mi.bnd ms fun ys => ret (xs ++ ys)) env := x_bnd
theorem seq_tup {xs : List Val} {st : Sto} : seqOf st (.tup xs) = some xs := rfl
abbrev tsV (ts : List Turn) : List Val := ts.map fun t => .tup (turnL t)
section
variable {os : List One} {leg reach : Int}
theorem turn_r {d leg : Int} {op : Bool} {st : Sto} (hl : os.length ≤ 1000) : runP c_turn_at [voiceV os, .int d, .bl op, .int leg] st = some (.ok (.tup (turnL (turnAt os d op leg))), st) :=
  runP_ok (by show (noRef (voiceV os) && (true && (true && (true && true)))) = true; rw [voice_nr]; rfl) (turn_at_ok hl) (turn_at_nr _)
abbrev extC : M Bool := asB (bin (cmpV fun i j => decide (j < i)) (app lenV (consM (var 4) nilM)) (ret (.int 0)))
abbrev extFor : S := (sFor (rng2 (consM (var 2) (consM (bin addV (ret (.int 4)) (ret (.int 1))) nilM))) (.name 7) (sSeq (sSet 8 (callP 4 c_turn_at [] (consM (var 0) (consM (bin addV (var 6) (var 7)) (consM (ret (.bl false)) (consM (var 7) nilM))))))
    (sExpr (lm appendV (var 4) (consM (mkTup (consM (mkTup (consM (mkTup (starM (var 10) (consM (var 8) nilM))) (consM (var 11) (consM (var 12) nilM)))) (consM (mkTup (starM (var 9) (consM (var 7) nilM))) nilM))) nilM)))))
abbrev extB : S := (sSeq (sSetT (.tup [.tup [.name 10, .name 11, .name 12], .name 9]) (lm popAtV (var 4) (consM (ret (.int 0)) nilM)))
    (sSeq (sSet 6 (ifV (asB (bin (cmpV fun i j => decide (j < i)) (app lenV (consM (var 10) nilM)) (ret (.int 0)))) (bin idxV (bin idxV (var 10) (un (fun _ a => (intOf a).map fun i => .int (-i)) (ret (.int 1)))) (ret (.int 0))) (ret (.int 0))))
    (sSeq (sIf (asB (bin (cmpV fun i j => decide (j < i)) (var 6) (var 3))) (sSeq (sExpr (lm appendV (var 5) (consM (mkTup (consM (mkTup (consM (var 10) (consM (var 11) (consM (var 12) nilM)))) (consM (var 9) nilM))) nilM)))
    sCont) sNext)
    (sSeq extFor
    (sSeq (sSet 8 (callP 4 c_turn_at [] (consM (var 0) (consM (bin addV (var 6) (callP 1 c_open_leg [] (consM (var 2) nilM))) (consM (ret (.bl true)) (consM (callP 1 c_open_leg [] (consM (var 2) nilM)) nilM))))))
    (sExpr (lm appendV (var 4) (consM (mkTup (consM (mkTup (consM (mkTup (starM (var 10) (consM (var 8) nilM))) (consM (var 11) (consM (var 12) nilM)))) (consM (mkTup (starM (var 9) (consM (ret (.int 0)) nilM))) nilM))) nilM))))))))
/-- the slots -/
abbrev extE (os : List One) (leg reach : Int) (d6 d7 d8 d9 d10 d11 d12 : Option Val) (s : Val) : Mi.Env := [some (voiceV os), some s, some (.int leg), some (.int reach), some (.ref 0), some (.ref 1), d6, d7, d8, d9, d10, d11, d12]
abbrev extS (q found : List (Stt × List Int)) : Sto := [.lst (q.map extV), .lst (found.map extV)]
def kidC (os : List One) (e : Stt × List Int) (l : Int) : Stt × List Int := (e.1.behind (turnAt os (lastD e.1.turns + l) false l), e.2 ++ [l])
theorem ext_for {e : Stt × List Int} {q found : List (Stt × List Int)} {s : Val} {d7 d8 : Option Val} (hl : os.length ≤ 1000) (h1 : 1 ≤ leg) (h2 : leg ≤ 1000) (hq : q.length ≤ 10000) (ht : e.1.turns.length ≤ 3000) (hc : e.2.length ≤ 3000) :
    ∃ d7' d8', extFor (extE os leg reach (some (.int (lastD e.1.turns))) d7 d8 (some (.tup (e.2.map .int))) (some (.tup (tsV e.1.turns))) (some (spV e.1.sp)) (some (.tup (e.1.wait.map pairV))) s) (extS q found) =
      some (.next, extE os leg reach (some (.int (lastD e.1.turns))) d7' d8' (some (.tup (e.2.map .int))) (some (.tup (tsV e.1.turns))) (some (spV e.1.sp)) (some (.tup (e.1.wait.map pairV))) s, extS (q ++ (rgI leg 5).map (kidC os e)) found) := by
  have hrg : (rgI leg 5).length ≤ 4 := by
    unfold rgI
    rw [List.length_map, List.length_range]
    omega
  obtain ⟨env', st', e1, ⟨d7', d8', rfl⟩, rfl⟩ := sFor_inv (t := .name 7) (mi := rng2 (consM (var 2) (consM (bin addV (ret (.int 4)) (ret (.int 1))) nilM)))
    (body := (sSeq (sSet 8 (callP 4 c_turn_at [] (consM (var 0) (consM (bin addV (var 6) (var 7)) (consM (ret (.bl false)) (consM (var 7) nilM))))))
    (sExpr (lm appendV (var 4) (consM (mkTup (consM (mkTup (consM (mkTup (starM (var 10) (consM (var 8) nilM))) (consM (var 11) (consM (var 12) nilM)))) (consM (mkTup (starM (var 9) (consM (var 7) nilM))) nilM))) nilM)))))
    (fun m env st => (∃ d7 d8, env = extE os leg reach (some (.int (lastD e.1.turns))) d7 d8 (some (.tup (e.2.map .int))) (some (.tup (tsV e.1.turns))) (some (spV e.1.sp)) (some (.tup (e.1.wait.map pairV))) s) ∧ st = extS (q ++ ((rgI leg 5).take m).map (kidC os e)) found)
    (env := extE os leg reach (some (.int (lastD e.1.turns))) d7 d8 (some (.tup (e.2.map .int))) (some (.tup (tsV e.1.turns))) (some (spV e.1.sp)) (some (.tup (e.1.wait.map pairV))) s) (st := extS q found) (s1 := extS q found) (xs := (rgI leg 5).map .int)
    (by
      unfold rng2 rgI
      rw [bnd_ok (a := [.int leg, .int 5]) (s1 := extS q found) (by simp), List.map_map]
      simp only [x_lift]
      rw [if_pos ⟨by omega, by omega, by decide, by decide⟩]
      rfl) ⟨⟨d7, d8, rfl⟩, by simp⟩ fun m x env st hx hI => by
      obtain ⟨⟨d7, d8, rfl⟩, rfl⟩ := hI
      rw [List.getElem?_map] at hx
      cases hm : (rgI leg 5)[m]? with
      | none => rw [hm] at hx; cases hx
      | some l =>
        rw [hm] at hx
        cases hx
        obtain ⟨hml, hmv⟩ := List.getElem?_eq_some_iff.mp hm
        have tk : (rgI leg 5).take (m + 1) = (rgI leg 5).take m ++ [l] := by rw [List.take_succ_eq_append_getElem hml, hmv]
        generalize hq' : q ++ ((rgI leg 5).take m).map (kidC os e) = q'
        have hql : q'.length ≤ 20000 := by
          rw [← hq', List.length_append, List.length_map, List.length_take]
          omega
        refine ⟨extE os leg reach (some (.int (lastD e.1.turns))) (some (.int l)) d8 (some (.tup (e.2.map .int))) (some (.tup (tsV e.1.turns))) (some (spV e.1.sp)) (some (.tup (e.1.wait.map pairV))) s, rfl,
          extE os leg reach (some (.int (lastD e.1.turns))) (some (.int l)) (some (.tup (turnL (turnAt os (lastD e.1.turns + l) false l)))) (some (.tup (e.2.map .int))) (some (.tup (tsV e.1.turns))) (some (spV e.1.sp)) (some (.tup (e.1.wait.map pairV))) s,
          extS (q' ++ [kidC os e l]) found, .inl ?_, ⟨_, _, rfl⟩, by rw [tk, List.map_append, ← List.append_assoc, hq']; rfl⟩
        have il : isLst (extS q' found) (.ref 0) = some () := isLst_ref rfl
        have ap : appendV (extS q' found) (.ref 0) [extV (kidC os e l)] = some (.non, extS (q' ++ [kidC os e l]) found) := by
          rw [app_ref (xs := q'.map extV) rfl (by rw [List.length_map]; omega)]
          show some (Val.non, [SO.lst (q'.map extV ++ [extV (kidC os e l)]), SO.lst (found.map extV)]) = _
          rw [show q'.map extV ++ [extV (kidC os e l)] = (q' ++ [kidC os e l]).map extV by simp]
        have ev : extV (kidC os e l) = .tup [.tup [.tup (tsV e.1.turns ++ [.tup (turnL (turnAt os (lastD e.1.turns + l) false l))]), spV e.1.sp, .tup (e.1.wait.map pairV)], .tup (e.2.map .int ++ [.int l])] := by
          show Val.tup [Val.tup [Val.tup ((e.1.turns ++ [turnAt os (lastD e.1.turns + l) false l]).map fun t => .tup (turnL t)), _, _], Val.tup ((e.2 ++ [l]).map .int)] = _
          rw [List.map_append, List.map_append]
          rfl
        rw [ev] at ap
        have l1 : (tsV e.1.turns ++ [Val.tup (turnL (turnAt os (lastD e.1.turns + l) false l))]).length ≤ LIM := by
          simp only [List.length_append, List.length_map, List.length_cons, List.length_nil]
          show _ ≤ 16000000
          omega
        have l2 : (e.2.map Val.int ++ [Val.int l]).length ≤ LIM := by
          simp only [List.length_append, List.length_map, List.length_cons, List.length_nil]
          show _ ≤ 16000000
          omega
        simp (decide := true) [turn_r hl, seq_tup, il, ap, l1, l2, -List.length_append, -List.length_map]
  refine ⟨d7', d8', ?_⟩
  rw [List.length_map, List.take_length] at e1
  exact e1
end
end Pg
namespace Pg
open PySem Mi
open L2 (atI atI_last ixN)
section
variable {os : List One} {leg reach : Int}
theorem snoc_last {α : Type} {xs : List α} {t : α} (h : xs.getLast? = some t) : xs = xs.dropLast ++ [t] := by
  cases xs with
  | nil => cases h
  | cons x xs =>
    rw [List.getLast?_eq_some_getLast (List.cons_ne_nil x xs)] at h
    cases h
    exact (List.dropLast_concat_getLast (List.cons_ne_nil x xs)).symm
theorem last_read {e1 : Stt} {env : Mi.Env} {st : Sto} (h10 : env[10]? = some (some (.tup (tsV e1.turns)))) :
    ifV (asB (bin (cmpV fun i j => decide (j < i)) (app lenV (consM (var 10) nilM)) (ret (.int 0)))) (bin idxV (bin idxV (var 10) (un (fun _ a => (intOf a).map fun i => .int (-i)) (ret (.int 1)))) (ret (.int 0))) (ret (.int 0)) env st = some (.ok (.int (lastD e1.turns)), st) := by
  have lv : lenV st [.tup (tsV e1.turns)] = some (.int e1.turns.length) := by
    show some (Val.int ((tsV e1.turns).length : Int)) = _
    rw [List.length_map]
  have ct : (asB (bin (cmpV fun i j => decide (j < i)) (app lenV (consM (var 10) nilM)) (ret (.int 0)))) env st = some (.ok (decide ((0 : Int) < (e1.turns.length : Int))), st) := by
    simp [h10, lv]
  cases h : e1.turns.getLast? with
  | none =>
    have e : e1.turns = [] := List.getLast?_eq_none_iff.mp h
    have hz : decide ((0 : Int) < (e1.turns.length : Int)) = false := by rw [e]; rfl
    rw [hz] at ct
    rw [ifV_false ct]
    simp [lastD, e]
  | some t =>
    have hx := snoc_last h
    have hl : 0 < e1.turns.length := by rw [hx]; simp
    have hl' : decide ((0 : Int) < (e1.turns.length : Int)) = true := by simpa using hl
    rw [hl'] at ct
    have e1' : idxV st (.tup (tsV e1.turns)) (.int (-1)) = some (.tup (turnL t)) := idx_last (f := fun t => Val.tup (turnL t)) h
    have e2' : idxV st (.tup (turnL t)) (.int 0) = some (.int t.d) := rfl
    rw [ifV_true ct]
    simp [h10, lastD, h, e1', e2']
/-- one round -/
theorem ext_body {e : Stt × List Int} {q found : List (Stt × List Int)} {s : Val} {d6 d7 d8 d9 d10 d11 d12 : Option Val} (hl : os.length ≤ 1000) (h1 : 1 ≤ leg) (h2 : leg ≤ 1000) (hq : q.length ≤ 10000) (hf : found.length ≤ 10000) (ht : e.1.turns.length ≤ 3000) (hc : e.2.length ≤ 3000) :
    ∃ r env', extB (extE os leg reach d6 d7 d8 d9 d10 d11 d12 s) (extS (e :: q) found) = some (r, env', if reach < lastD e.1.turns then extS q (found ++ [e]) else extS (q ++ kids os leg e) found) ∧ (r = .next ∨ r = .cont) ∧
      ∃ d6 d7 d8 d9 d10 d11 d12, env' = extE os leg reach d6 d7 d8 d9 d10 d11 d12 s := by
  let A := some (Val.tup (e.2.map .int))
  let B := some (Val.tup (tsV e.1.turns))
  let C := some (spV e.1.sp)
  let D := some (Val.tup (e.1.wait.map pairV))
  have po : popAtV (extS (e :: q) found) (.ref 0) [.int 0] = some (extV e, extS q found) := by
    rw [popAtV_ref (xs := (e :: q).map extV) (v := extV e) rfl (by decide) (by simp) (by decide) rfl]
    first | done | rfl
  have il0 : isLst (extS (e :: q) found) (.ref 0) = some () := isLst_ref rfl
  have s1 : sSetT (.tup [.tup [.name 10, .name 11, .name 12], .name 9]) (lm popAtV (var 4) (consM (ret (.int 0)) nilM)) (extE os leg reach d6 d7 d8 d9 d10 d11 d12 s) (extS (e :: q) found) = some (.next, extE os leg reach d6 d7 d8 A B C D s, extS q found) := by
    simp [il0, po, extV, sttV, bindT, bindTs, A, B, C, D]
  unfold extB
  rw [sSeq_next s1, sSeq_next (sSet_ok (last_read (e1 := e.1) (env := extE os leg reach d6 d7 d8 A B C D s) rfl))]
  show ∃ r env', sSeq _ _ (extE os leg reach (some (.int (lastD e.1.turns))) d7 d8 A B C D s) (extS q found) = _ ∧ _
  have ct : (asB (bin (cmpV fun i j => decide (j < i)) (var 6) (var 3))) (extE os leg reach (some (.int (lastD e.1.turns))) d7 d8 A B C D s) (extS q found) = some (.ok (decide (reach < lastD e.1.turns)), extS q found) := by
    simp
  by_cases hn : reach < lastD e.1.turns
  · rw [if_pos hn]
    rw [decide_eq_true hn] at ct
    have il1 : isLst (extS q found) (.ref 1) = some () := isLst_ref rfl
    have ap : appendV (extS q found) (.ref 1) [extV e] = some (.non, extS q (found ++ [e])) := by
      rw [app_ref (xs := found.map extV) rfl (by rw [List.length_map]; omega)]
      show some (Val.non, [SO.lst (q.map extV), SO.lst (found.map extV ++ [extV e])]) = _
      rw [show found.map extV ++ [extV e] = (found ++ [e]).map extV by simp]
    have ev : extV e = .tup [.tup [.tup (tsV e.1.turns), spV e.1.sp, .tup (e.1.wait.map pairV)], .tup (e.2.map .int)] := rfl
    rw [ev] at ap
    refine ⟨.cont, extE os leg reach (some (.int (lastD e.1.turns))) d7 d8 A B C D s, ?_, .inr rfl, _, _, _, _, _, _, _, rfl⟩
    show sSeq (sIf _ _ _) _ _ _ = _
    rw [x_sSeq, sIf_true ct]
    simp (decide := true) [il1, ap, A, B, C, D]
  · rw [if_neg hn]
    rw [decide_eq_false hn] at ct
    obtain ⟨d7', d8', ef⟩ := ext_for (os := os) (reach := reach) (e := e) (q := q) (found := found) (s := s) (d7 := d7) (d8 := d8) hl h1 h2 hq ht hc
    have hrg : (rgI leg 5).length ≤ 4 := by
      unfold rgI
      rw [List.length_map, List.length_range]
      omega
    have sIfE : sIf (asB (bin (cmpV fun i j => decide (j < i)) (var 6) (var 3))) (sSeq (sExpr (lm appendV (var 5) (consM (mkTup (consM (mkTup (consM (var 10) (consM (var 11) (consM (var 12) nilM)))) (consM (var 9) nilM))) nilM))) sCont) sNext (extE os leg reach (some (.int (lastD e.1.turns))) d7 d8 A B C D s) (extS q found) = some (.next, extE os leg reach (some (.int (lastD e.1.turns))) d7 d8 A B C D s, extS q found) := by
      rw [sIf_false ct]
      rfl
    rw [sSeq_next sIfE, sSeq_next ef]
    generalize hq' : q ++ (rgI leg 5).map (kidC os e) = q'
    have hql : q'.length ≤ 20000 := by
      rw [← hq', List.length_append, List.length_map]
      omega
    let t : Turn := turnAt os (lastD e.1.turns + openLeg leg) true (openLeg leg)
    let x : Stt × List Int := (e.1.behind t, e.2 ++ [0])
    have hk : q ++ kids os leg e = q' ++ [x] := by
      rw [← hq']
      unfold kids
      rw [← List.append_assoc]
      rfl
    rw [hk]
    have il : isLst (extS q' found) (.ref 0) = some () := isLst_ref rfl
    have ap : appendV (extS q' found) (.ref 0) [extV x] = some (.non, extS (q' ++ [x]) found) := by
      rw [app_ref (xs := q'.map extV) rfl (by rw [List.length_map]; omega)]
      show some (Val.non, [SO.lst (q'.map extV ++ [extV x]), SO.lst (found.map extV)]) = _
      rw [show q'.map extV ++ [extV x] = (q' ++ [x]).map extV by simp]
    have ev : extV x = .tup [.tup [.tup (tsV e.1.turns ++ [.tup (turnL t)]), spV e.1.sp, .tup (e.1.wait.map pairV)], .tup (e.2.map .int ++ [.int 0])] := by
      show Val.tup [Val.tup [Val.tup ((e.1.turns ++ [t]).map fun t => .tup (turnL t)), _, _], Val.tup ((e.2 ++ [0]).map .int)] = _
      rw [List.map_append, List.map_append]
      rfl
    rw [ev] at ap
    have l1 : (tsV e.1.turns ++ [Val.tup (turnL t)]).length ≤ LIM := by
      simp only [List.length_append, List.length_map, List.length_cons, List.length_nil]
      show _ ≤ 16000000
      omega
    have l2 : (e.2.map Val.int ++ [Val.int 0]).length ≤ LIM := by
      simp only [List.length_append, List.length_map, List.length_cons, List.length_nil]
      show _ ≤ 16000000
      omega
    refine ⟨.next, extE os leg reach (some (.int (lastD e.1.turns))) d7' (some (.tup (turnL t))) A B C D s, ?_, .inl rfl, _, _, _, _, _, _, _, rfl⟩
    have sset : sSet 8 (callP 4 c_turn_at [] (consM (var 0) (consM (bin addV (var 6) (callP 1 c_open_leg [] (consM (var 2) nilM))) (consM (ret (.bl true)) (consM (callP 1 c_open_leg [] (consM (var 2) nilM)) nilM))))) (extE os leg reach (some (.int (lastD e.1.turns))) d7' d8' A B C D s) (extS q' found) = some (.next, extE os leg reach (some (.int (lastD e.1.turns))) d7' (some (.tup (turnL t))) A B C D s, extS q' found) := by
      simp (decide := true) [turn_r hl, open_leg_ok, t]
    rw [sSeq_next sset]
    simp (decide := true) [seq_tup, il, ap, l1, l2, A, B, C, D, -List.length_append, -List.length_map]
theorem len_wt {reach : Int} : ∀ l : List (Stt × List Int), l.length ≤ (l.map (wtE reach)).sum
  | [] => Nat.le_refl _
  | e :: l => by
    have h := len_wt (reach := reach) l
    have h1 : 1 ≤ wtE reach e := wtD_pos _ _
    rw [List.map_cons, List.sum_cons, List.length_cons]
    omega
theorem kids_size {e x : Stt × List Int} (hx : x ∈ kids os leg e) : x.1.turns.length = e.1.turns.length + 1 ∧ x.2.length = e.2.length + 1 := by
  unfold kids at hx
  rcases List.mem_append.mp hx with hx | hx
  · obtain ⟨l, _, rfl⟩ := List.mem_map.mp hx
    exact ⟨by show (e.1.turns ++ [_]).length = _; rw [List.length_append]; rfl, by show (e.2 ++ [_]).length = _; rw [List.length_append]; rfl⟩
  · rw [List.mem_singleton.mp hx]
    exact ⟨by show (e.1.turns ++ [_]).length = _; rw [List.length_append]; rfl, by show (e.2 ++ [_]).length = _; rw [List.length_append]; rfl⟩
theorem while_next {c : M Bool} {b : S} {n : Nat} {env e1 : Mi.Env} {st s1 : Sto} {r : Out} (hc : c env st = some (.ok true, st)) (hb : b env st = some (r, e1, s1)) (hr : r = .next ∨ r = .cont) : sWhile c b (n + 1) env st = sWhile c b n e1 s1 := by
  show sBnd c _ env st = _
  rw [sBnd_ok hc, if_pos rfl, hb]
  rcases hr with h | h <;> subst h <;> rfl
theorem while_end {c : M Bool} {b : S} {n : Nat} {env : Mi.Env} {st : Sto} (hc : c env st = some (.ok false, st)) : sWhile c b (n + 1) env st = some (.next, env, st) := by
  show sBnd c _ env st = _
  rw [sBnd_ok hc]
  rfl
theorem ext_loop {s : Val} (hl : os.length ≤ 1000) (h1 : 1 ≤ leg) (h2 : leg ≤ 1000) (hr : reach ≤ 4) : ∀ (n : Nat) {q found : List (Stt × List Int)} {d6 d7 d8 d9 d10 d11 d12 : Option Val}, n ≤ 5000 → (q.map (wtE reach)).sum < n → found.length + n ≤ 5000 →
    (∀ e ∈ q, 0 ≤ lastD e.1.turns ∧ e.1.turns.length + n ≤ 3000 ∧ e.2.length + n ≤ 3000) →
    ∃ x6 x7 x8 x9 x10 x11 x12, sWhile extC extB n (extE os leg reach d6 d7 d8 d9 d10 d11 d12 s) (extS q found) = some (.next, extE os leg reach x6 x7 x8 x9 x10 x11 x12 s, extS [] (extGo os leg reach n q found))
  | 0, q, found, _, _, _, _, _, _, _, hn, hs, hf, he => by omega
  | n + 1, [], found, d6, d7, d8, d9, d10, d11, d12, hn, hs, hf, he => by
    refine ⟨d6, d7, d8, d9, d10, d11, d12, ?_⟩
    rw [while_end]
    · rfl
    · have : lenV (extS [] found) [.ref 0] = some (.int (0 : Nat)) := len_ref (xs := []) rfl
      simp [this]
  | n + 1, e :: q, found, d6, d7, d8, d9, d10, d11, d12, hn, hs, hf, he => by
    have hlen := len_wt (reach := reach) (e :: q)
    rw [List.length_cons] at hlen
    obtain ⟨a1, a2, a3⟩ := he e List.mem_cons_self
    obtain ⟨r, env', hb, hrr, b6, b7, b8, b9, b10, b11, b12, rfl⟩ := ext_body (os := os) (leg := leg) (reach := reach) (e := e) (q := q) (found := found) (s := s) (d6 := d6) (d7 := d7) (d8 := d8) (d9 := d9) (d10 := d10) (d11 := d11) (d12 := d12) hl h1 h2 (by omega) (by omega) (by omega) (by omega)
    have hc : extC (extE os leg reach d6 d7 d8 d9 d10 d11 d12 s) (extS (e :: q) found) = some (.ok true, extS (e :: q) found) := by
      have : lenV (extS (e :: q) found) [.ref 0] = some (.int ((q.length + 1 : Nat) : Int)) := by
        rw [len_ref (xs := (e :: q).map extV) rfl, List.length_map, List.length_cons]
      have hp : (0 : Int) < ((q.length + 1 : Nat) : Int) := by omega
      simp only [x_asB, x_bin, x_app, x_consM, x_nilM, x_var, x_bnd, x_lift, bK_ok, lR_some, x_ret, vR_some, List.getElem?_cons_succ, List.getElem?_cons_zero, this, x_cmpV, asBool_bl, decide_eq_true hp]
    have hw := while_next (n := n) hc hb hrr
    rw [List.map_cons, List.sum_cons] at hs
    have hw1 : 1 ≤ wtE reach e := wtD_pos _ _
    have key : ∃ d6 d7 d8 d9 d10 d11 d12, sWhile extC extB n (extE os leg reach b6 b7 b8 b9 b10 b11 b12 s) (if reach < lastD e.1.turns then extS q (found ++ [e]) else extS (q ++ kids os leg e) found) = some (.next, extE os leg reach d6 d7 d8 d9 d10 d11 d12 s, extS [] (extGo os leg reach (n + 1) (e :: q) found)) := by
      unfold extGo
      by_cases hlt : reach < lastD e.1.turns
      · rw [if_pos hlt, if_pos hlt]
        exact ext_loop hl h1 h2 hr n (q := q) (found := found ++ [e]) (by omega) (by omega) (by rw [List.length_append]; show found.length + 1 + n ≤ 5000; omega) fun x hx => by
          obtain ⟨c1, c2, c3⟩ := he x (List.mem_cons_of_mem _ hx)
          exact ⟨c1, by omega, by omega⟩
      · rw [if_neg hlt, if_neg hlt]
        have hk := kids_wt (os := os) h1 a1 hr hlt
        refine ext_loop hl h1 h2 hr n (q := q ++ kids os leg e) (found := found) (by omega) (by rw [List.map_append, List.sum_append]; omega) (by omega) fun x hx => ?_
        rcases List.mem_append.mp hx with hx | hx
        · obtain ⟨c1, c2, c3⟩ := he x (List.mem_cons_of_mem _ hx)
          exact ⟨c1, by omega, by omega⟩
        · obtain ⟨c2, c3⟩ := kids_size hx
          exact ⟨kids_last h1 a1 hx, by omega, by omega⟩
    obtain ⟨x6, x7, x8, x9, x10, x11, x12, hx⟩ := key
    exact ⟨x6, x7, x8, x9, x10, x11, x12, hw.trans hx⟩
end
/-- extended, as the program does it -/
theorem extGo_len {os : List One} {leg reach : Int} : ∀ (n : Nat) {q found : List (Stt × List Int)}, (extGo os leg reach n q found).length ≤ found.length + n
  | 0, q, found => Nat.le_refl _
  | n + 1, [], found => by unfold extGo; omega
  | n + 1, e :: q, found => by
    unfold extGo
    split
    · refine Nat.le_trans (extGo_len n) ?_
      rw [List.length_append]
      simp only [List.length_cons, List.length_nil]
      omega
    · exact Nat.le_trans (extGo_len n) (by omega)
theorem extended_len {os : List One} {s : Stt} {leg reach : Int} : (extended os s leg reach).length ≤ 1000 := by
  have := extGo_len (os := os) (leg := leg) (reach := reach) 1000 (q := [(s, [])]) (found := [])
  simpa [extended] using this
theorem exts_nr (l : List (Stt × List Int)) : noRefs (l.map extV) = true := noRefs_map extV_nr l
theorem pureF_ok {c : CF} {us : List Val} {st s' : Sto} {v w : Val} (h1 : noRefs us = true) (h2 : c us [] = some (.ok v, s')) (h3 : snapD s' 9 v = some w) : pureF c us st = some (.ok w, st) := by
  unfold pureF
  rw [if_pos h1, h2]
  show (snapD s' 9 v).map _ = _
  rw [h3]
  rfl
theorem extended_ok {os : List One} {s : Stt} {leg reach : Int} {st : Sto} (hl : os.length ≤ 1000) (h1 : 1 ≤ leg) (h2 : leg ≤ 1000) (hr : reach ≤ 4) (h0 : 0 ≤ lastD s.turns) (ht : s.turns.length ≤ 1000) :
    c_extended [voiceV os, sttV s, .int leg, .int reach] st = some (.ok (.lst ((extended os s leg reach).map extV)), st) := by
  have hw : wtD reach (lastD s.turns) < 1000 := by
    unfold wtD
    split
    · decide
    · have : (reach - lastD s.turns).toNat ≤ 4 := by omega
      have h2 : 2 ^ (reach - lastD s.turns).toNat ≤ 2 ^ 4 := Nat.pow_le_pow_right (by decide) this
      omega
  obtain ⟨d6, d7, d8, d9, d10, d11, d12, e⟩ := ext_loop (os := os) (leg := leg) (reach := reach) (s := sttV s) hl h1 h2 hr 1000 (q := [(s, [])]) (found := []) (d6 := none) (d7 := none) (d8 := none) (d9 := none) (d10 := none) (d11 := none) (d12 := none) (by decide) (by
    show wtD reach (lastD s.turns) + 0 < 1000
    omega) (by decide) (fun e he => by
    rw [List.mem_singleton.mp he]
    exact ⟨h0, by show s.turns.length + 1000 ≤ 3000; omega, by show 0 + 1000 ≤ 3000; omega⟩)
  refine pureF_ok (v := .ref 1) (s' := extS [] (extended os s leg reach)) ?_ ?_ ?_
  · show (noRef (voiceV os) && (noRef (sttV s) && (true && (true && true)))) = true
    rw [voice_nr, noRef_sttV]
    rfl
  · rw [x_callS]
    unfold s_extended
    have s1 : sSeq (sPar 4 5 (consM (mkLstM (consM (mkTup (consM (var 1) (consM (mkTup nilM) nilM))) nilM)) (consM (mkLstM nilM) nilM))) (sSeq (sWhile extC extB 1000) (sRet (var 5))) (env0 13 [voiceV os, sttV s, .int leg, .int reach]) [] = sSeq (sWhile extC extB 1000) (sRet (var 5)) (extE os leg reach none none none none none none none (sttV s)) (extS [(s, [])] []) := by
      rw [sSeq_next (e1 := extE os leg reach none none none none none none none (sttV s)) (s1 := extS [(s, [])] [])]
      simp (decide := true) [env0, extV]
    show oR (sSeq (sPar 4 5 (consM (mkLstM (consM (mkTup (consM (var 1) (consM (mkTup nilM) nilM))) nilM)) (consM (mkLstM nilM) nilM))) (sSeq (sWhile extC extB 1000) (sRet (var 5))) _ _) = _
    have s2 : sSeq (sWhile extC extB 1000) (sRet (var 5)) (extE os leg reach none none none none none none none (sttV s)) (extS [(s, [])] []) = some (.ret (.ref 1), extE os leg reach d6 d7 d8 d9 d10 d11 d12 (sttV s), extS [] (extended os s leg reach)) := (sSeq_next e).trans rfl
    rw [s1, s2]
    rfl
  · exact snapD_lst rfl (exts_nr _)
end Pg
namespace Pg
open PySem Mi
open L2 (atI atI_last ixN)
/-! ### what a tick leads to -/
abbrev flK : List Str := ["word", "chosen", "is_near", "later", "wrong", "said"]
def flX (f : Flw) : List Val := [.str f.word, .tup (f.chosen.map .int), .bl f.near, sttV f.later, .tup (f.wrong.map .str), saidV f.said]
def flwV (f : Flw) : Val := .ins "Follow" flK (flX f)
theorem flX_nr (f : Flw) : noRefs (flX f) = true := by
  show (true && (noRefs (f.chosen.map .int) && (true && (noRef (sttV f.later) && (noRefs (f.wrong.map .str) && (noRef (saidV f.said) && true)))))) = true
  rw [noRefs_map (fun _ => rfl), noRef_sttV, noRefs_map (fun _ => rfl), saidV_nr]
  rfl
theorem flwV_nr (f : Flw) : noRef (flwV f) = true := flX_nr f
theorem follow_init {w : Str} {ch : List Int} {nr : Bool} {s : Stt} {st : Sto} :
    c_Follow_init [.ref st.length, .str w, .tup (ch.map .int), .bl nr, sttV s] (st ++ [.ins "Follow" [] []]) = some (.ok .non, st ++ [.ins "Follow" flK (flX ⟨w, ch, nr, s, [], none⟩)]) := by
  let E : Mi.Env := [some (.ref st.length), some (.str w), some (.tup (ch.map .int)), some (.bl nr), some (sttV s)]
  have e1 : sFldV (ownL ["Follow"]) "word" (var 0) (var 1) E (st ++ SO.ins "Follow" [] [] :: []) = some (.next, E, st ++ SO.ins "Follow" ["word"] [.str w] :: []) := fld_mid (ks := []) (xs := []) (y := .str w) rfl rfl (by decide) (by decide) (by kernel_rfl) (by kernel_rfl)
  have e2 : sFldV (ownL ["Follow"]) "chosen" (var 0) (var 2) E (st ++ SO.ins "Follow" ["word"] [.str w] :: []) = some (.next, E, st ++ SO.ins "Follow" ["word", "chosen"] [.str w, .tup (ch.map .int)] :: []) := fld_mid (ks := ["word"]) (xs := [.str w]) (y := .tup (ch.map .int)) rfl rfl (by decide) (by decide) (by kernel_rfl) (by kernel_rfl)
  have e3 : sFldV (ownL ["Follow"]) "is_near" (var 0) (var 3) E (st ++ SO.ins "Follow" ["word", "chosen"] [.str w, .tup (ch.map .int)] :: []) = some (.next, E, st ++ SO.ins "Follow" ["word", "chosen", "is_near"] [.str w, .tup (ch.map .int), .bl nr] :: []) := fld_mid (ks := ["word", "chosen"]) (xs := [.str w, .tup (ch.map .int)]) (y := .bl nr) rfl rfl (by decide) (by decide) (by kernel_rfl) (by kernel_rfl)
  have e4 : sFldV (ownL ["Follow"]) "later" (var 0) (var 4) E (st ++ SO.ins "Follow" ["word", "chosen", "is_near"] [.str w, .tup (ch.map .int), .bl nr] :: []) = some (.next, E, st ++ SO.ins "Follow" ["word", "chosen", "is_near", "later"] [.str w, .tup (ch.map .int), .bl nr, sttV s] :: []) := fld_mid (ks := ["word", "chosen", "is_near"]) (xs := [.str w, .tup (ch.map .int), .bl nr]) (y := sttV s) rfl rfl (by decide) (by decide) (by kernel_rfl) (by kernel_rfl)
  have e5 : sFldV (ownL ["Follow"]) "wrong" (var 0) (mkTup nilM) E (st ++ SO.ins "Follow" ["word", "chosen", "is_near", "later"] [.str w, .tup (ch.map .int), .bl nr, sttV s] :: []) = some (.next, E, st ++ SO.ins "Follow" ["word", "chosen", "is_near", "later", "wrong"] [.str w, .tup (ch.map .int), .bl nr, sttV s, .tup []] :: []) := fld_mid (ks := ["word", "chosen", "is_near", "later"]) (xs := [.str w, .tup (ch.map .int), .bl nr, sttV s]) (y := .tup []) (by simp) rfl (by decide) (by decide) (by kernel_rfl) (by kernel_rfl)
  have e6 : sFldV (ownL ["Follow"]) "said" (var 0) (ret .non) E (st ++ SO.ins "Follow" ["word", "chosen", "is_near", "later", "wrong"] [.str w, .tup (ch.map .int), .bl nr, sttV s, .tup []] :: []) = some (.next, E, st ++ SO.ins "Follow" ["word", "chosen", "is_near", "later", "wrong", "said"] [.str w, .tup (ch.map .int), .bl nr, sttV s, .tup [], .non] :: []) := fld_mid (ks := ["word", "chosen", "is_near", "later", "wrong"]) (xs := [.str w, .tup (ch.map .int), .bl nr, sttV s, .tup []]) (y := .non) rfl rfl (by decide) (by decide) (by kernel_rfl) (by kernel_rfl)
  unfold c_Follow_init
  rw [x_callS]
  unfold s_Follow_init
  show oR (sSeq _ _ E (st ++ SO.ins "Follow" [] [] :: [])) = _
  rw [sSeq_next e1, sSeq_next e2, sSeq_next e3, sSeq_next e4, sSeq_next e5, e6]
  rfl
theorem mk_follow {w : Str} {ch : List Int} {nr : Bool} {s : Stt} {ms : M (List Val)} {env : Mi.Env} {st s1 : Sto} (h : ms env st = some (.ok [.str w, .tup (ch.map .int), .bl nr, sttV s], s1)) :
    makeM "Follow" 5 c_Follow_init [] ms env st = some (.ok (.ref s1.length), s1 ++ [.ins "Follow" flK (flX ⟨w, ch, nr, s, [], none⟩)]) := by
  rw [x_makeM, h]
  rw [bK_ok, if_pos (by rfl), List.append_nil, follow_init]
/-- placed -/
theorem cut_last {α : Type} (xs : List α) (x : α) : cutL (xs ++ [x]) none (some (-1)) = xs := by
  unfold cutL
  have h1 : HT.sIx (xs ++ [x]).length (xs ++ [x]).length (some (-1)) = xs.length := by
    unfold HT.sIx
    simp
    omega
  have h0 : HT.sIx (xs ++ [x]).length 0 none = 0 := rfl
  rw [h1, h0, List.drop_zero, Nat.sub_zero]
  exact List.take_left' rfl
theorem placed_ok {ts : List Turn} {nr : Bool} {reach : Int} {st : Sto} (h : ts ≠ []) (hl : ts.length ≤ 3000) : runP c_placed [.tup (tsV ts), .bl nr, .int reach] st = some (.ok (.tup (tsV (placed ts nr reach))), st) := by
  have hnr : ∀ ts : List Turn, noRef (.tup (tsV ts)) = true := fun ts => noRefs_map (enc := fun t => Val.tup (turnL t)) (fun t => turnL_nr t) ts
  refine runP_ok (st' := []) (by show (noRef (.tup (tsV ts)) && (true && (true && true))) = true; rw [hnr]; rfl) ?_ (hnr _)
  cases hg : ts.getLast? with
  | none => exact absurd (List.getLast?_eq_none_iff.mp hg) h
  | some t =>
    have hx := snoc_last hg
    have il : ∀ st : Sto, idxV st (.tup (tsV ts)) (.int (-1)) = some (.tup (turnL t)) := fun st => idx_last (f := fun t => Val.tup (turnL t)) hg
    let L := Val.tup (t.left.map fun n : Nat => Val.int (n : Int))
    unfold c_placed s_placed
    rw [x_callS]
    have s1 : sSetT (.tup [.name 4, .name 5, .name 6, .name 7]) (bin idxV (var 0) (un (fun _ a => (intOf a).map fun i => .int (-i)) (ret (.int 1)))) (env0 8 [.tup (tsV ts), .bl nr, .int reach]) [] = some (.next, [some (.tup (tsV ts)), some (.bl nr), some (.int reach), none, some (.int t.d), some (.bl t.op), some L, some (.bl t.told)], []) := by
      simp [env0, il, turnL, bindT, bindTs, L]
    rw [sSeq_next s1]
    unfold placed
    rw [hg]
    dsimp only
    have ct : (orB (notB (asB (var 5))) (asB (bin (cmpV fun i j => decide (j < i)) (var 4) (bin addV (var 2) (ret (.int 1)))))) [some (.tup (tsV ts)), some (.bl nr), some (.int reach), none, some (.int t.d), some (.bl t.op), some L, some (.bl t.told)] [] = some (.ok (!t.op || decide (reach + 1 < t.d)), []) := by
      cases t.op <;> simp
    cases hc : (!t.op || decide (reach + 1 < t.d)) with
    | true =>
      rw [hc] at ct
      rw [if_pos rfl, x_sSeq, sIf_true ct]
      simp
    | false =>
      rw [hc] at ct
      rw [if_neg (by simp), x_sSeq, sIf_false ct]
      have hnew : ∀ u : Turn, tsV (ts.dropLast ++ [u]) = tsV ts.dropLast ++ [.tup (turnL u)] := fun u => by
        show (ts.dropLast ++ [u]).map _ = _
        rw [List.map_append]
        rfl
      have hcut : cutL (tsV ts) none (some (-1)) = tsV ts.dropLast := by
        have e : tsV ts = tsV ts.dropLast ++ [.tup (turnL t)] := by
          rw [← hnew, ← hx]
        rw [e]
        exact cut_last _ _
      have hlen : ∀ u : Turn, (tsV ts.dropLast ++ [Val.tup (turnL u)]).length ≤ LIM := fun u => by
        simp only [List.length_append, List.length_map, List.length_cons, List.length_nil, List.length_dropLast]
        show _ ≤ 16000000
        omega
      rw [hnew]
      cases nr with
      | true =>
        have e2 : turnL { t with op := false } = [.int t.d, .bl false, L, .bl t.told] := rfl
        have hlen' := hlen { t with op := false }
        rw [e2] at hlen'
        generalize tsV ts.dropLast = A at hcut hlen' ⊢
        simp (decide := true) [hcut, seq_tup, e2, hlen', -List.length_append, -List.length_map]
      | false =>
        have hop : t.op = true := by
          cases ho : t.op with
          | true => rfl
          | false => rw [ho] at hc; cases hc
        have e2 : turnL { t with d := t.d + 1 } = [.int (t.d + 1), .bl true, L, .bl t.told] := by
          show [Val.int (t.d + 1), Val.bl t.op, L, Val.bl t.told] = _
          rw [hop]
        have hlen' := hlen { t with d := t.d + 1 }
        rw [e2] at hlen'
        generalize tsV ts.dropLast = A at hcut hlen' ⊢
        simp (decide := true) [hcut, seq_tup, e2, hlen', -List.length_append, -List.length_map]
end Pg
namespace Pg
open PySem Mi
open L2 (atI atI_last ixN)
/-! ### follows in the store -/
structure FAt (st : Sto) (fi : Nat) (as : List Nat) (fs : List Flw) : Prop where
  lst : st[fi]? = some (.lst (as.map .ref))
  len : as.length = fs.length
  each : ∀ (k : Nat) u f, as[k]? = some u → fs[k]? = some f → st[u]? = some (.ins "Follow" flK (flX f))
  nd : as.Nodup
section
variable {st st' : Sto} {fi : Nat} {as : List Nat} {fs : List Flw}
theorem FAt.ins (h : FAt st fi as fs) {u : Nat} (hu : u ∈ as) : ∃ xs, st[u]? = some (.ins "Follow" flK xs) := by
  obtain ⟨k, hk, e⟩ := List.getElem_of_mem hu
  exact ⟨_, h.each k u _ (by rw [List.getElem?_eq_getElem hk, e]) (List.getElem?_eq_getElem (by rw [← h.len]; exact hk))⟩
theorem FAt.lt (h : FAt st fi as fs) : ∀ u ∈ as, u < st.length := fun u hu => by
  obtain ⟨xs, e⟩ := h.ins hu
  exact at_lt e
theorem FAt.ne (h : FAt st fi as fs) : ∀ u ∈ as, u ≠ fi := fun u hu e => by
  obtain ⟨xs, e2⟩ := h.ins hu
  rw [e, h.lst] at e2
  cases e2
theorem FAt.keep (h : FAt st fi as fs) {b : Nat} (hb : st.length ≤ b) (f : ∀ j, j < b → j < st.length → st'[j]? = st[j]?) : FAt st' fi as fs :=
  ⟨(f fi (Nat.lt_of_lt_of_le (at_lt h.lst) hb) (at_lt h.lst)).trans h.lst, h.len, fun k u fl hu hf => by
    have hl := h.lt u (List.mem_of_getElem? hu)
    exact (f u (Nat.lt_of_lt_of_le hl hb) hl).trans (h.each k u fl hu hf), h.nd⟩
theorem FAt.fb (h : FAt st fi as fs) (f : Fb st.length st st') : FAt st' fi as fs := h.keep (Nat.le_refl _) fun j hj _ => f.2 j hj
theorem FAt.app (h : FAt st fi as fs) (g : Sto) : FAt (st ++ g) fi as fs := h.fb (Fb.app (Nat.le_refl _))
/-- one more, laid at the end -/
theorem FAt.push (h : FAt st fi as fs) (f : Flw) : FAt ((st ++ [SO.ins "Follow" flK (flX f)]).set fi (SO.lst ((as ++ [st.length]).map .ref))) fi (as ++ [st.length]) (fs ++ [f]) := by
  have h' := h.app [SO.ins "Follow" flK (flX f)]
  have hfi := at_lt h.lst
  refine ⟨by rw [List.getElem?_set_self (at_lt h'.lst)], by simp [h.len], fun k u g hu hg => ?_, ?_⟩
  · have hu' : u ≠ fi := by
      rcases List.mem_append.mp (List.mem_of_getElem? hu) with m | m
      · exact h.ne u m
      · rw [List.mem_singleton.mp m]
        omega
    rw [List.getElem?_set_ne (Ne.symm hu')]
    by_cases hk : k < as.length
    · rw [List.getElem?_append_left hk] at hu
      rw [List.getElem?_append_left (by rw [← h.len]; exact hk)] at hg
      exact h'.each k u g hu hg
    · rw [List.getElem?_append_right (by omega)] at hu
      rw [List.getElem?_append_right (by rw [← h.len]; omega), ← h.len] at hg
      have hz : k - as.length = 0 := by
        by_cases z : k - as.length = 0
        · exact z
        · rw [List.getElem?_eq_none (by simp; omega)] at hu
          cases hu
      rw [hz] at hu hg
      cases hu
      cases hg
      simp
  · rw [List.nodup_append]
    exact ⟨h.nd, by simp, fun a ha b hb e => by
      have := h.lt a ha
      rw [e, List.mem_singleton.mp hb] at this
      omega⟩
end
/-! ### the course of a step -/
section
variable {os : List One} {st : Sto} {i : Nat} {c : Co} {a : Lay}
theorem loop_listsN {env : Mi.Env} {v : Nat} (hl : v < env.length) : ∀ {ts : List Turn} {st : Sto}, compLoop (.name v) [v] yes (appS listVM (consM (var v) nilM)) (ts.map fun t => .tup (turnL t)) env st = some (.ok ((List.range ts.length).map fun k => .ref (st.length + k)), st ++ ts.map fun t => .lst (turnL t))
  | [], st => by
    show some (Except.ok [], st) = _
    simp
  | t :: ts, st => by
    have ih := loop_listsN hl (ts := ts) (st := st ++ [.lst (turnL t)])
    rw [List.map_cons]
    unfold compLoop
    have hb : bindT (.name v) (.tup (turnL t)) (wipeE env [v]) = some (env.set v (some (.tup (turnL t)))) := by
      show some ((env.set v none).set v _) = _
      rw [List.set_set]
    rw [hb]
    dsimp only
    have hv : (env.set v (some (.tup (turnL t))))[v]? = some (some (.tup (turnL t))) := List.getElem?_set_self hl
    have he : appS listVM (consM (var v) nilM) (env.set v (some (.tup (turnL t)))) st = some (.ok (.ref st.length), st ++ [.lst (turnL t)]) := by
      have lv : listVM st [.tup (turnL t)] = some (.ref st.length, st ++ [.lst (turnL t)]) := rfl
      simp [hv, lv]
    rw [show yes (env.set v (some (.tup (turnL t)))) st = some (.ok true, st) from rfl]
    dsimp only
    rw [he]
    dsimp only
    rw [ih]
    dsimp only
    congr 2
    · rw [List.length_cons, List.range_succ_eq_map, List.map_cons, List.map_map]
      congr 2
      apply List.map_congr_left
      intro k _
      simp
      omega
    · simp
/-- other turns -/
theorem CAt.allTurns (h : CAt os st i c a) (ts : List Turn) : CAt os ((st ++ (ts.map (fun t => SO.lst (turnL t)) ++ [SO.lst ((List.range ts.length).map fun k => .ref (st.length + k))])).set i (.ins "Course" coK [voiceV os, .ref (st.length + ts.length), spV c.sp, .ref a.wi, .ref a.mi, .int c.now])) i { c with turns := ts } { a with ti := st.length + ts.length, us := (List.range ts.length).map fun k => st.length + k } := by
  have hi := at_lt h.ins
  have hw := at_lt h.wai
  have hm := at_lt h.met
  have h' := h.app (ts.map (fun t => SO.lst (turnL t)) ++ [SO.lst ((List.range ts.length).map fun k => .ref (st.length + k))])
  have mem : ∀ u ∈ (List.range ts.length).map (fun k => st.length + k), st.length ≤ u ∧ u < st.length + ts.length := fun u hu => by
    obtain ⟨k, hk, rfl⟩ := List.mem_map.mp hu
    have := List.mem_range.mp hk
    omega
  refine ⟨?_, ?_, by simp, fun k u t hu ht => ?_, ?_, ?_, ?_, ?_, h.n3, fun u hu => ?_, ?_, ?_⟩
  · rw [List.getElem?_set_self (at_lt h'.ins)]
  · show (List.set _ i _)[st.length + ts.length]? = _
    rw [List.getElem?_set_ne (by omega), List.getElem?_append_right (by omega), show st.length + ts.length - st.length = ts.length by omega, List.getElem?_append_right (by simp)]
    simp
  · have hk : k < ts.length := (List.getElem?_eq_some_iff.mp ht).1
    have hu' : ((List.range ts.length).map fun k => st.length + k)[k]? = some u := hu
    rw [List.getElem?_map, List.getElem?_range hk] at hu'
    have hue : st.length + k = u := by simpa using hu'
    subst hue
    rw [List.getElem?_set_ne (by omega), List.getElem?_append_right (by omega), show st.length + k - st.length = k by omega, List.getElem?_append_left (by simpa using hk), List.getElem?_map]
    have ht' : ts[k]? = some t := ht
    rw [ht']
    rfl
  · show (List.set _ i _)[a.wi]? = _
    rw [List.getElem?_set_ne h.iw]
    exact h'.wai
  · show (List.set _ i _)[a.mi]? = _
    rw [List.getElem?_set_ne h.im]
    exact h'.met
  · show st.length + ts.length ≠ a.wi
    omega
  · show st.length + ts.length ≠ a.mi
    omega
  · have := mem u hu
    show u ≠ st.length + ts.length ∧ u ≠ a.wi ∧ u ≠ a.mi
    omega
  · show ((List.range ts.length).map fun k => st.length + k).Nodup
    rw [List.nodup_iff_pairwise_ne, List.pairwise_map]
    exact List.nodup_range.imp fun h e => h (by omega)
  · refine ⟨by show i ≤ st.length + ts.length; omega, h.lo.2.1, h.lo.2.2.1, fun u hu => ?_⟩
    have := mem u hu
    omega
/-- what lies below the course may change -/
theorem CAt.lowS (h : CAt os st i c a) {st' : Sto} (f : ∀ j, i ≤ j → j < st.length → st'[j]? = st[j]?) : CAt os st' i c a := by
  obtain ⟨l1, l2, l3, l4⟩ := h.lo
  exact ⟨(f i (Nat.le_refl _) (at_lt h.ins)).trans h.ins, (f _ l1 (at_lt h.tur)).trans h.tur, h.len, fun k u t hu ht => (f u (l4 u (List.mem_of_getElem? hu)) (at_lt (h.each k u t hu ht))).trans (h.each k u t hu ht), (f _ l2 (at_lt h.wai)).trans h.wai, (f _ l3 (at_lt h.met)).trans h.met, h.n1, h.n2, h.n3, h.n4, h.nd, h.lo⟩
end
/-! ### one round -/
theorem set_wrong {f : Flw} {ws : List Str} {mv : M Val} {env : Mi.Env} {v : Nat} {st : Sto} (hv : mv env (st ++ [SO.ins "Follow" flK (flX f)]) = some (.ok (.tup (ws.map .str)), st ++ [SO.ins "Follow" flK (flX f)])) (h0 : env[v]? = some (some (.ref st.length))) :
    sFldV (ownL ["Follow"]) "wrong" (var v) mv env (st ++ [SO.ins "Follow" flK (flX f)]) = some (.next, env, st ++ [SO.ins "Follow" flK (flX { f with wrong := ws })]) := by
  rw [fld_set (c := "Follow") (ks := flK) (xs := flX f) (i := st.length) hv (by simp [h0]) (by simp) (by decide) (by decide)]
  rw [show st ++ [SO.ins "Follow" flK (flX f)] = st ++ SO.ins "Follow" flK (flX f) :: [] from rfl, set_mid]
  rfl
abbrev foE (os : List One) (s : Stt) (leg reach : Int) (d4 fi d6 d7 d8 d9 d10 d11 d12 d13 d14 d15 d16 d17 d18 : Option Val) : Mi.Env :=
  [some (voiceV os), some (sttV s), some (.int leg), some (.int reach), d4, fi, d6, d7, d8, d9, d10, d11, d12, d13, d14, d15, d16, d17, d18]
abbrev foIn : S := (sFor (itS (callM 4 c_extended [] (consM (var 0) (consM (methM "Course" "state" 1 c_Course_state [] (var 14) nilM) (consM (var 2) (consM (var 3) nilM)))))) (.tup [.name 16, .name 17]) (sSeq (sSet 8 (makeM "Follow" 5 c_Follow_init [] (consM (ret (.str "step")) (consM (var 17) (consM (var 7) (consM (var 16) nilM))))))
    (sSeq (sFldV (ownL ["Follow"]) "wrong" (var 8) (app tupleV (consM (un (fldV (ownL ["Course"]) "met") (var 14)) nilM)))
    (sExpr (lm appendV (var 5) (consM (var 8) nilM))))))
def mkF (nr : Bool) (met : List Str) (e : Stt × List Int) : Flw := ⟨"step", e.2, nr, e.1, met, none⟩
section
variable {os : List One} {s : Stt} {leg reach : Int}
theorem fo_in {st : Sto} {mi fi : Nat} {c : Co} {a : Lay} {as : List Nat} {fs : List Flw} {nr : Bool} {d4 d6 d8 d9 d10 d11 d12 d13 d15 d16 d17 d18 : Option Val}
    (hc : CAt os st mi c a) (hf : FAt st fi as fs) (hlow : fi < mi ∧ ∀ u ∈ as, u < mi) (hl : os.length ≤ 1000) (h1 : 1 ≤ leg) (h2 : leg ≤ 1000) (hr : reach ≤ 4) (h0 : 0 ≤ lastD c.turns) (ht : c.turns.length ≤ 1000) (hn : fs.length ≤ 5000) :
    ∃ st' as' d8' d16' d17', foIn (foE os s leg reach d4 (some (.ref fi)) d6 (some (.bl nr)) d8 d9 d10 d11 d12 d13 (some (.ref mi)) d15 d16 d17 d18) st = some (.next, foE os s leg reach d4 (some (.ref fi)) d6 (some (.bl nr)) d8' d9 d10 d11 d12 d13 (some (.ref mi)) d15 d16' d17' d18, st') ∧
      FAt st' fi as' (fs ++ (extended os c.stt leg reach).map (mkF nr c.met)) ∧ st.length ≤ st'.length := by
  have hst : ∀ env : Mi.Env, env[14]? = some (some (.ref mi)) → env[0]? = some (some (voiceV os)) → env[2]? = some (some (.int leg)) → env[3]? = some (some (.int reach)) →
      itS (callM 4 c_extended [] (consM (var 0) (consM (methM "Course" "state" 1 c_Course_state [] (var 14) nilM) (consM (var 2) (consM (var 3) nilM))))) env st = some (.ok ((extended os c.stt leg reach).map extV), st) := fun env e14 e0 e2 e3 => by
    have cs := state_ok hc (by omega)
    have ic := hc.isC (m := "state") (by decide)
    have ex := extended_ok (os := os) (s := c.stt) (leg := leg) (reach := reach) (st := st) hl h1 h2 hr h0 ht
    refine itS_ok (v := .lst ((extended os c.stt leg reach).map extV)) ?_ rfl
    simp [e14, e0, e2, e3, ic, cs, ex]
  generalize hE : extended os c.stt leg reach = E at hst ⊢
  have hEl : E.length ≤ 1000 := by rw [← hE]; exact extended_len
  obtain ⟨env', st', e1, as', d8', d16', d17', rfl, hc', hf', hlow', hlen'⟩ := sFor_inv (t := .tup [.name 16, .name 17]) (mi := itS (callM 4 c_extended [] (consM (var 0) (consM (methM "Course" "state" 1 c_Course_state [] (var 14) nilM) (consM (var 2) (consM (var 3) nilM))))))
    (body := (sSeq (sSet 8 (makeM "Follow" 5 c_Follow_init [] (consM (ret (.str "step")) (consM (var 17) (consM (var 7) (consM (var 16) nilM))))))
    (sSeq (sFldV (ownL ["Follow"]) "wrong" (var 8) (app tupleV (consM (un (fldV (ownL ["Course"]) "met") (var 14)) nilM)))
    (sExpr (lm appendV (var 5) (consM (var 8) nilM))))))
    (fun m env st2 => ∃ as' d8' d16' d17', env = foE os s leg reach d4 (some (.ref fi)) d6 (some (.bl nr)) d8' d9 d10 d11 d12 d13 (some (.ref mi)) d15 d16' d17' d18 ∧ CAt os st2 mi c a ∧ FAt st2 fi as' (fs ++ (E.take m).map (mkF nr c.met)) ∧ fi < mi ∧ st.length ≤ st2.length)
    (env := foE os s leg reach d4 (some (.ref fi)) d6 (some (.bl nr)) d8 d9 d10 d11 d12 d13 (some (.ref mi)) d15 d16 d17 d18) (st := st) (s1 := st) (xs := E.map extV) (hst _ rfl rfl rfl rfl)
    ⟨as, d8, d16, d17, rfl, hc, by simpa using hf, hlow.1, Nat.le_refl _⟩ fun m x env st2 hx hI => by
      obtain ⟨as', d8', d16', d17', rfl, hc2, hf2, hl2, hlen2⟩ := hI
      rw [List.getElem?_map] at hx
      cases hm : E[m]? with
      | none => rw [hm] at hx; cases hx
      | some e =>
        rw [hm] at hx
        cases hx
        obtain ⟨hml, hmv⟩ := List.getElem?_eq_some_iff.mp hm
        have tk : E.take (m + 1) = E.take m ++ [e] := by rw [List.take_succ_eq_append_getElem hml, hmv]
        let f : Flw := mkF nr c.met e
        let N : Sto := (st2 ++ [SO.ins "Follow" flK (flX f)]).set fi (SO.lst ((as' ++ [st2.length]).map .ref))
        have hfi := at_lt hf2.lst
        refine ⟨foE os s leg reach d4 (some (.ref fi)) d6 (some (.bl nr)) d8' d9 d10 d11 d12 d13 (some (.ref mi)) d15 (some (sttV e.1)) (some (.tup (e.2.map .int))) d18, rfl,
          foE os s leg reach d4 (some (.ref fi)) d6 (some (.bl nr)) (some (.ref st2.length)) d9 d10 d11 d12 d13 (some (.ref mi)) d15 (some (sttV e.1)) (some (.tup (e.2.map .int))) d18, N, .inl ?_, as' ++ [st2.length], _, _, _, rfl, ?_, ?_, hl2, ?_⟩
        · have e8 : sSet 8 (makeM "Follow" 5 c_Follow_init [] (consM (ret (.str "step")) (consM (var 17) (consM (var 7) (consM (var 16) nilM))))) (foE os s leg reach d4 (some (.ref fi)) d6 (some (.bl nr)) d8' d9 d10 d11 d12 d13 (some (.ref mi)) d15 (some (sttV e.1)) (some (.tup (e.2.map .int))) d18) st2 = some (.next, foE os s leg reach d4 (some (.ref fi)) d6 (some (.bl nr)) (some (.ref st2.length)) d9 d10 d11 d12 d13 (some (.ref mi)) d15 (some (sttV e.1)) (some (.tup (e.2.map .int))) d18, st2 ++ [SO.ins "Follow" flK (flX ⟨"step", e.2, nr, e.1, [], none⟩)]) :=
            sSet_ok (mk_follow (by simp))
          have hc3 := hc2.app [SO.ins "Follow" flK (flX ⟨"step", e.2, nr, e.1, [], none⟩)]
          have tm : tupleV (st2 ++ [SO.ins "Follow" flK (flX ⟨"step", e.2, nr, e.1, [], none⟩)]) [.ref a.mi] = some (.tup (c.met.map .str)) := by
            show (seqOf _ (.ref a.mi)).map Val.tup = _
            rw [show seqOf (st2 ++ [SO.ins "Follow" flK (flX ⟨"step", e.2, nr, e.1, [], none⟩)]) (.ref a.mi) = some (c.met.map .str) from lst_ref hc3.met]
            rfl
          have ew : sFldV (ownL ["Follow"]) "wrong" (var 8) (app tupleV (consM (un (fldV (ownL ["Course"]) "met") (var 14)) nilM)) (foE os s leg reach d4 (some (.ref fi)) d6 (some (.bl nr)) (some (.ref st2.length)) d9 d10 d11 d12 d13 (some (.ref mi)) d15 (some (sttV e.1)) (some (.tup (e.2.map .int))) d18) (st2 ++ [SO.ins "Follow" flK (flX ⟨"step", e.2, nr, e.1, [], none⟩)]) = some (.next, foE os s leg reach d4 (some (.ref fi)) d6 (some (.bl nr)) (some (.ref st2.length)) d9 d10 d11 d12 d13 (some (.ref mi)) d15 (some (sttV e.1)) (some (.tup (e.2.map .int))) d18, st2 ++ [SO.ins "Follow" flK (flX f)]) := by
            refine set_wrong (f := ⟨"step", e.2, nr, e.1, [], none⟩) ?_ rfl
            simp [hc3.fM, tm]
          have hf3 := hf2.app [SO.ins "Follow" flK (flX f)]
          have il : isLst (st2 ++ [SO.ins "Follow" flK (flX f)]) (.ref fi) = some () := isLst_ref hf3.lst
          have ap : appendV (st2 ++ [SO.ins "Follow" flK (flX f)]) (.ref fi) [.ref st2.length] = some (.non, N) := by
            rw [app_ref hf3.lst (by
              have := hf2.len
              rw [List.length_append, List.length_map, List.length_take] at this
              rw [List.length_map]
              omega)]
            show some (Val.non, _) = some (Val.non, (st2 ++ [SO.ins "Follow" flK (flX f)]).set fi (SO.lst ((as' ++ [st2.length]).map .ref)))
            rw [List.map_append]
            rfl
          rw [sSeq_next e8, sSeq_next ew]
          simp [il, ap]
        · refine CAt.lowS (hc2.app [SO.ins "Follow" flK (flX f)]) fun j hj _ => ?_
          show ((st2 ++ [SO.ins "Follow" flK (flX f)]).set fi _)[j]? = _
          rw [List.getElem?_set_ne (by omega)]
        · have := hf2.push f
          rw [tk, List.map_append, ← List.append_assoc]
          exact this
        · show st.length ≤ ((st2 ++ [SO.ins "Follow" flK (flX f)]).set fi _).length
          simp
          omega
  refine ⟨st', as', d8', d16', d17', e1, ?_, hlen'⟩
  rw [List.length_map, List.take_length] at hf'
  exact hf'
end
end Pg
namespace Pg
open PySem Mi
open L2 (atI atI_last ixN)
theorem placed_len {ts : List Turn} {nr : Bool} {reach : Int} : (placed ts nr reach).length = ts.length := by
  unfold placed
  split
  · rfl
  · rename_i t h
    split
    · rfl
    · have hx := snoc_last h
      have : ts.length = ts.dropLast.length + 1 := by
        rw [hx]
        simp
      rw [List.length_append, this]
      rfl
abbrev foB : S := (sSeq (sSetT (.tup [.name 14, .name 15]) (callM 2 c_spoken_tick [] (consM (var 0) (consM (var 1) nilM))))
    (sSeq (sFldV (ownL ["Course"]) "turns" (var 14) (compS (itS (callP 3 c_placed [] (consM (var 11) (consM (var 7) (consM (var 3) nilM))))) (.name 18) [18] yes (appS listVM (consM (var 18) nilM))))
    (sSeq (sExpr (methM "Course" "step" 1 c_Course_step [] (var 14) nilM))
    foIn)))
def stepF (os : List One) (s : Stt) (leg reach : Int) (nr : Bool) : List Flw := (extended os (moved os s nr reach).stt leg reach).map (mkF nr (moved os s nr reach).met)
section
variable {os : List One} {s : Stt} {leg reach : Int}
theorem tick_met (h : s.Fine os) (g : Good os) : (tick os s).1.met.length ≤ 3000 ∧ (tick os s).1.wait.length ≤ 3000 := by
  have hz := (tick_sz (os := os) h.sz).met
  have hm := tick_mu (os := os) (s := s)
  have hmu := h.mu
  refine ⟨by omega, ?_⟩
  have e : (tick os s).1.mu = (tick os s).1.wait.length + ((tick os s).1.turns.map fun t => t.left.length).sum := rfl
  omega
theorem nearF_ok {st : Sto} {fi : Nat} {as : List Nat} {fs : List Flw} {nr : Bool} {d4 d6 d8 d9 d10 d12 d13 d14 d15 d16 d17 d18 : Option Val} (g : Good os) (h : s.Fine os) (hf : FAt st fi as fs) (hne : s.turns ≠ []) (hl : os.length ≤ 1000) (h1 : 1 ≤ leg) (h2 : leg ≤ 1000) (hr : reach ≤ 4) (h0 : 0 ≤ lastD (moved os s nr reach).turns) (hn : fs.length ≤ 5000) :
    ∃ st' as' d8' d14' d15' d16' d17' d18', foB (foE os s leg reach d4 (some (.ref fi)) d6 (some (.bl nr)) d8 d9 d10 (some (.tup (tsV (tick os s).1.turns))) d12 d13 d14 d15 d16 d17 d18) st = some (.next, foE os s leg reach d4 (some (.ref fi)) d6 (some (.bl nr)) d8' d9 d10 (some (.tup (tsV (tick os s).1.turns))) d12 d13 d14' d15' d16' d17' d18', st') ∧
      FAt st' fi as' (fs ++ stepF os s leg reach nr) := by
  have hsz := h.sz
  obtain ⟨st1, a1, k1, c1, f1⟩ := tick_ok (os := os) (s := s) (st := st) g h.wf ⟨Nat.le_trans hsz.met (by decide), hsz.turns⟩
  have hf1 := hf.fb f1
  have hlow : fi < st.length ∧ ∀ u ∈ as, u < st.length := ⟨at_lt hf.lst, hf.lt⟩
  have htl : (tick os s).1.turns.length ≤ 1000 := by rw [tick_len]; exact h.turns
  have hne1 : (tick os s).1.turns ≠ [] := fun e => hne (List.length_eq_zero_iff.mp (by rw [← tick_len (os := os), e]; rfl))
  let P := placed (tick os s).1.turns nr reach
  have hPl : P.length ≤ 1000 := by show (placed _ _ _).length ≤ 1000; rw [placed_len]; exact htl
  let E1 := foE os s leg reach d4 (some (.ref fi)) d6 (some (.bl nr)) d8 d9 d10 (some (.tup (tsV (tick os s).1.turns))) d12 d13 (some (.ref st.length)) (some (saidV (tick os s).2)) d16 d17 d18
  have e1 : sSetT (.tup [.name 14, .name 15]) (callM 2 c_spoken_tick [] (consM (var 0) (consM (var 1) nilM))) (foE os s leg reach d4 (some (.ref fi)) d6 (some (.bl nr)) d8 d9 d10 (some (.tup (tsV (tick os s).1.turns))) d12 d13 d14 d15 d16 d17 d18) st = some (.next, E1, st1) := by
    simp [k1, bindT, bindTs, E1]
  have hc : compS (itS (callP 3 c_placed [] (consM (var 11) (consM (var 7) (consM (var 3) nilM))))) (.name 18) [18] yes (appS listVM (consM (var 18) nilM)) E1 st1 = some (.ok (.ref (st1.length + P.length)), st1 ++ (P.map (fun t => SO.lst (turnL t)) ++ [SO.lst ((List.range P.length).map fun k => .ref (st1.length + k))])) := by
    unfold compS compM
    have hi : itS (callP 3 c_placed [] (consM (var 11) (consM (var 7) (consM (var 3) nilM)))) E1 st1 = some (.ok (P.map fun t => .tup (turnL t)), st1) := by
      have pl := fun st => placed_ok (ts := (tick os s).1.turns) (nr := nr) (reach := reach) (st := st) hne1 (by omega)
      refine itS_ok (v := .tup (tsV P)) ?_ rfl
      simp (decide := true) [E1, pl, P]
    rw [x_bnd, x_bnd, hi, bK_ok, if_pos (by rw [List.length_map]; show _ ≤ 16000000; omega), loop_listsN (by show 18 < 19; decide), bK_ok, x_liftS]
    simp
  have c2 := c1.allTurns P
  have e2 : sFldV (ownL ["Course"]) "turns" (var 14) (compS (itS (callP 3 c_placed [] (consM (var 11) (consM (var 7) (consM (var 3) nilM))))) (.name 18) [18] yes (appS listVM (consM (var 18) nilM))) E1 st1 = some (.next, E1, (st1 ++ (P.map (fun t => SO.lst (turnL t)) ++ [SO.lst ((List.range P.length).map fun k => .ref (st1.length + k))])).set st.length (.ins "Course" coK [voiceV os, .ref (st1.length + P.length), spV (tick os s).1.sp, .ref a1.wi, .ref a1.mi, .int (tick os s).1.now])) := by
    rw [fld_set hc (i := st.length) (by simp [E1]) ((c1.app _).ins) (by decide) (by decide)]
    rfl
  generalize hst2 : (st1 ++ (P.map (fun t => SO.lst (turnL t)) ++ [SO.lst ((List.range P.length).map fun k => .ref (st1.length + k))])).set st.length (.ins "Course" coK [voiceV os, .ref (st1.length + P.length), spV (tick os s).1.sp, .ref a1.wi, .ref a1.mi, .int (tick os s).1.now]) = st2 at c2 e2
  have f2 : Fb st.length st1 st2 := by
    rw [← hst2]
    exact (Fb.app (g := P.map (fun t => SO.lst (turnL t)) ++ [SO.lst ((List.range P.length).map fun k => .ref (st1.length + k))]) f1.1).trans (Fb.set (Nat.le_refl _))
  have hf2 : FAt st2 fi as fs := hf.fb (f1.trans f2)
  obtain ⟨m1, m2⟩ := tick_met h g
  obtain ⟨st3, a3, k3, c3, f3⟩ := step_ok c2 hPl (Nat.lt_of_le_of_lt m1 (by decide)) (Nat.le_trans m2 (by decide))
  have hf3 : FAt st3 fi as fs := hf.fb ((f1.trans f2).trans f3)
  have ic := c2.isC (m := "step") (by decide)
  have e3 : sExpr (methM "Course" "step" 1 c_Course_step [] (var 14) nilM) E1 st2 = some (.next, E1, st3) := by
    simp [E1, ic, k3]
  have hml : (moved os s nr reach).turns.length ≤ 1000 := Nat.le_trans step_len hPl
  obtain ⟨st4, as4, d8', d16', d17', e4, hf4, _⟩ := fo_in (os := os) (s := s) (leg := leg) (reach := reach) (nr := nr) (d4 := d4) (d6 := d6) (d8 := d8) (d9 := d9) (d10 := d10) (d11 := some (.tup (tsV (tick os s).1.turns))) (d12 := d12) (d13 := d13) (d15 := some (saidV (tick os s).2)) (d16 := d16) (d17 := d17) (d18 := d18) c3 hf3 hlow hl h1 h2 hr h0 hml hn
  exact ⟨st4, as4, d8', some (.ref st.length), some (saidV (tick os s).2), d16', d17', d18, (sSeq_next e1).trans ((sSeq_next e2).trans ((sSeq_next e3).trans e4)), hf4⟩
/-- what was said, everywhere -/
theorem said_loop {st : Sto} {fi : Nat} {as : List Nat} {fs : List Flw} {o : Option (Int × Nat)} {d4 d6 d7 d8 d9 d11 d12 d13 d14 d15 d16 d17 d18 : Option Val} (hf : FAt st fi as fs) :
    ∃ st' d8', sForR (var 5) (.name 8) (sFldV (ownL ["Follow"]) "said" (var 8) (var 10)) (foE os s leg reach d4 (some (.ref fi)) d6 d7 d8 d9 (some (saidV o)) d11 d12 d13 d14 d15 d16 d17 d18) st =
      some (.next, foE os s leg reach d4 (some (.ref fi)) d6 d7 d8' d9 (some (saidV o)) d11 d12 d13 d14 d15 d16 d17 d18, st') ∧ FAt st' fi as (fs.map fun f => { f with said := o }) := by
  obtain ⟨env', st', e, d8', rfl, h⟩ := sForR_inv (m := var 5) (t := .name 8) (body := sFldV (ownL ["Follow"]) "said" (var 8) (var 10)) (a := fi) (xs0 := as.map .ref)
    (fun m env st => ∃ d8', env = foE os s leg reach d4 (some (.ref fi)) d6 d7 d8' d9 (some (saidV o)) d11 d12 d13 d14 d15 d16 d17 d18 ∧ FAt st fi as ((fs.take m).map (fun f => { f with said := o }) ++ fs.drop m))
    (env := foE os s leg reach d4 (some (.ref fi)) d6 d7 d8 d9 (some (saidV o)) d11 d12 d13 d14 d15 d16 d17 d18) (st := st) (s1 := st) (by simp) (by unfold lstAt; rw [hf.lst]) ⟨d8, rfl, by simpa using hf⟩ (fun m env st2 hm hI => by
      obtain ⟨d8', rfl, h2⟩ := hI
      rw [List.length_map] at hm
      have hm2 : m < fs.length := by rw [← hf.len]; exact hm
      refine ⟨as.map .ref, .ref as[m], _, by unfold lstAt; rw [h2.lst], rfl, by rw [List.getElem?_map, List.getElem?_eq_getElem hm]; rfl, rfl, foE os s leg reach d4 (some (.ref fi)) d6 d7 (some (.ref as[m])) d9 (some (saidV o)) d11 d12 d13 d14 d15 d16 d17 d18, st2.set as[m] (.ins "Follow" flK (flX { fs[m] with said := o })), .inl ?_, _, rfl, ?_⟩
      · have hat : ((fs.take m).map (fun f => { f with said := o }) ++ fs.drop m)[m]? = some fs[m] := by
          rw [List.getElem?_append_right (by rw [List.length_map, List.length_take]; omega), List.length_map, List.length_take, Nat.min_eq_left (Nat.le_of_lt hm2), Nat.sub_self, List.getElem?_drop, Nat.add_zero, List.getElem?_eq_getElem hm2]
        have hin := h2.each m as[m] fs[m] (List.getElem?_eq_getElem hm) hat
        show sFldV _ _ _ _ (foE os s leg reach d4 (some (.ref fi)) d6 d7 (some (.ref as[m])) d9 (some (saidV o)) d11 d12 d13 d14 d15 d16 d17 d18) st2 = _
        rw [fld_set (c := "Follow") (ks := flK) (xs := flX fs[m]) (i := as[m]) (y := saidV o) (s1 := st2) (by simp) (by simp) hin (by decide) (by decide)]
        rfl
      · have hmem : as[m] ∈ as := List.getElem_mem hm
        refine ⟨by rw [List.getElem?_set_ne (h2.ne _ hmem)]; exact h2.lst, by simp [hf.len]; omega, fun k u f hu hk => ?_, h2.nd⟩
        by_cases e : k = m
        · subst e
          rw [List.getElem?_eq_getElem hm] at hu
          cases hu
          rw [List.getElem?_set_self (h2.lt _ hmem)]
          rw [List.take_succ_eq_append_getElem hm2, List.map_append, List.append_assoc, List.getElem?_append_right (by rw [List.length_map, List.length_take]; omega), List.length_map, List.length_take, Nat.min_eq_left (Nat.le_of_lt hm2), Nat.sub_self] at hk
          cases hk
          rfl
        · have hu2 : u ≠ as[m] := fun z => by
            obtain ⟨q1, q2⟩ := List.getElem?_eq_some_iff.mp hu
            exact e ((List.getElem_inj h2.nd).mp (q2.trans z))
          rw [List.getElem?_set_ne (Ne.symm hu2)]
          refine h2.each k u f hu ?_
          rw [← hk]
          by_cases hkm : k < m
          · rw [List.getElem?_append_left (by rw [List.length_map, List.length_take]; omega), List.getElem?_append_left (by rw [List.length_map, List.length_take]; omega), List.getElem?_map, List.getElem?_map, List.getElem?_take, List.getElem?_take, if_pos hkm, if_pos (by omega)]
          · rw [List.getElem?_append_right (by rw [List.length_map, List.length_take]; omega), List.getElem?_append_right (by rw [List.length_map, List.length_take]; omega), List.length_map, List.length_map, List.length_take, List.length_take, List.getElem?_drop, List.getElem?_drop]
            congr 1
            omega) (fun env st2 hI => by
      obtain ⟨d8', rfl, h2⟩ := hI
      exact ⟨as.map .ref, by unfold lstAt; rw [h2.lst], rfl⟩)
  refine ⟨st', d8', e, ?_⟩
  rw [List.length_map, hf.len, List.take_length, List.drop_length, List.append_nil] at h
  exact h
end
end Pg
namespace Pg
open PySem Mi
open L2 (atI atI_last ixN)
theorem snap_ins {st : Sto} {j n : Nat} {c : Str} {ks : List Str} {xs : List Val} (h : st[j]? = some (.ins c ks xs)) (hn : noRefs xs = true) : snapD st (n + 1) (.ref j) = some (.ins c ks xs) := by
  unfold snapD
  rw [if_neg (by simp [noRef])]
  dsimp only
  rw [h]
  show (allOf (snapD st n) xs).map _ = _
  rw [allOf_nr hn]
  rfl
theorem snap_fs {st : Sto} {n : Nat} : ∀ {as : List Nat} {fs : List Flw}, as.length = fs.length → (∀ (k : Nat) u f, as[k]? = some u → fs[k]? = some f → st[u]? = some (.ins "Follow" flK (flX f))) → allOf (snapD st (n + 1)) (as.map .ref) = some (fs.map flwV)
  | [], [], _, _ => rfl
  | [], _ :: _, h, _ => by cases h
  | _ :: _, [], h, _ => by cases h
  | u :: as, f :: fs, h, g => by
    rw [List.map_cons, List.map_cons]
    unfold allOf
    rw [snap_ins (g 0 u f rfl rfl) (flX_nr f), snap_fs (as := as) (fs := fs) (by simpa using h) fun k u f hu hf => g (k + 1) u f (by simpa using hu) (by simpa using hf)]
    rfl
theorem FAt.snap {st : Sto} {fi : Nat} {as : List Nat} {fs : List Flw} (h : FAt st fi as fs) : snapD st 9 (.ref fi) = some (.lst (fs.map flwV)) := by
  unfold snapD
  rw [if_neg (by simp [noRef])]
  dsimp only
  rw [h.lst]
  show (allOf (snapD st 8) (as.map .ref)).map _ = _
  rw [snap_fs h.len h.each]
  rfl
section
variable {os : List One} {s : Stt} {leg reach : Int}
theorem stepF_said {nr : Bool} : (stepF os s leg reach nr).map (fun f => { f with said := (tick os s).2 }) = stepFlws os s leg reach nr := by
  unfold stepF stepFlws
  rw [List.map_map]
  rfl
theorem stepF_len {nr : Bool} : (stepF os s leg reach nr).length ≤ 1000 := by
  unfold stepF
  rw [List.length_map]
  exact extended_len
theorem nears_len : (nears os s reach).length ≤ 2 := by
  unfold nears
  split <;> decide
theorem followed_ok {st : Sto} (g : Good os) (h : s.Fine os) (hne : s.turns ≠ []) (hl : os.length ≤ 1000) (h1 : 1 ≤ leg) (h2 : leg ≤ 1000) (hr : reach ≤ 4) (h0 : ∀ nr ∈ nears os s reach, 0 ≤ lastD (moved os s nr reach).turns) :
    c_followed [voiceV os, sttV s, .int leg, .int reach] st = some (.ok (.lst ((followed os s leg reach).map flwV)), st) := by
  have hsz := h.sz
  obtain ⟨st1, a1, k1, c1, f1⟩ := tick_ok (os := os) (s := s) (st := []) g h.wf ⟨Nat.le_trans hsz.met (by decide), hsz.turns⟩
  have htl : (tick os s).1.turns.length ≤ 1000 := by rw [tick_len]; exact h.turns
  have hne1 : (tick os s).1.turns ≠ [] := fun e => hne (List.length_eq_zero_iff.mp (by rw [← tick_len (os := os), e]; rfl))
  obtain ⟨m1, m2⟩ := tick_met h g
  let f0 : Flw := ⟨"halt", [], false, (tick os s).1.stt, (tick os s).1.met, none⟩
  let o := (tick os s).2
  let T := some (Val.tup (tsV (tick os s).1.turns))
  let st3 : Sto := st1 ++ [.ins "Follow" flK (flX f0)]
  let st4 : Sto := st3 ++ [.lst [.ref st1.length]]
  let E0 : Mi.Env := foE os s leg reach none none none none none none none none none none none none none none none
  let E1 : Mi.Env := foE os s leg reach none none none none none (some (.ref 0)) (some (saidV o)) none none none none none none none none
  let E2 : Mi.Env := foE os s leg reach (some (.ref st1.length)) none none none none (some (.ref 0)) (some (saidV o)) none none none none none none none none
  let E4 : Mi.Env := foE os s leg reach (some (.ref st1.length)) (some (.ref st3.length)) none none none (some (.ref 0)) (some (saidV o)) none none none none none none none none
  let E5 : Mi.Env := foE os s leg reach (some (.ref st1.length)) (some (.ref st3.length)) none none none (some (.ref 0)) (some (saidV o)) T (some (spV (tick os s).1.sp)) (some (.tup ((tick os s).1.wait.map pairV))) none none none none none
  let E6 : Mi.Env := foE os s leg reach (some (.ref st1.length)) (some (.ref st3.length)) (some (.bl (canCome (tick os s).1.turns reach))) none none (some (.ref 0)) (some (saidV o)) T (some (spV (tick os s).1.sp)) (some (.tup ((tick os s).1.wait.map pairV))) none none none none none
  have e1 : sSetT (.tup [.name 9, .name 10]) (callM 2 c_spoken_tick [] (consM (var 0) (consM (var 1) nilM))) E0 [] = some (.next, E1, st1) := by
    have k1' : c_spoken_tick [voiceV os, sttV s] [] = some (.ok (.tup [.ref 0, saidV (tick os s).2]), st1) := k1
    simp [k1', bindT, bindTs, E0, E1, o]
  have ics := c1.isC (m := "state") (by decide)
  have hz : (List.length ([] : Sto)) = 0 := rfl
  rw [hz] at ics c1
  have cs := state_ok c1 (by omega)
  have e2 : sSet 4 (makeM "Follow" 5 c_Follow_init [] (consM (ret (.str "halt")) (consM (mkTup nilM) (consM (ret (.bl false)) (consM (methM "Course" "state" 1 c_Course_state [] (var 9) nilM) nilM))))) E1 st1 = some (.next, E2, st1 ++ [.ins "Follow" flK (flX ⟨"halt", [], false, (tick os s).1.stt, [], none⟩)]) :=
    sSet_ok (mk_follow (ch := []) (by simp [E1, ics, cs]))
  have c2 := c1.app [.ins "Follow" flK (flX ⟨"halt", [], false, (tick os s).1.stt, [], none⟩)]
  have tm : ∀ {st : Sto} {a : Lay}, CAt os st 0 (tick os s).1 a → tupleV st [.ref a.mi] = some (.tup ((tick os s).1.met.map .str)) := fun {st a} c => by
    show (seqOf _ (.ref a.mi)).map Val.tup = _
    rw [show seqOf st (.ref a.mi) = some ((tick os s).1.met.map .str) from lst_ref c.met]
    rfl
  have e3 : sFldV (ownL ["Follow"]) "wrong" (var 4) (app tupleV (consM (un (fldV (ownL ["Course"]) "met") (var 9)) nilM)) E2 (st1 ++ [.ins "Follow" flK (flX ⟨"halt", [], false, (tick os s).1.stt, [], none⟩)]) = some (.next, E2, st3) := by
    refine set_wrong (f := ⟨"halt", [], false, (tick os s).1.stt, [], none⟩) ?_ rfl
    simp [E2, c2.fM, tm c2]
  have c3 : CAt os st3 0 (tick os s).1 a1 := c1.app _
  have e4 : sSet 5 (mkLstM (consM (var 4) nilM)) E2 st3 = some (.next, E4, st4) := by
    simp (decide := true) [E2, E4, st4]
  have c4 : CAt os st4 0 (tick os s).1 a1 := c3.app _
  have ic4 := c4.isC (m := "state") (by decide)
  have cs4 := state_ok c4 (by omega)
  have e5 : sSetT (.tup [.name 11, .name 12, .name 13]) (methM "Course" "state" 1 c_Course_state [] (var 9) nilM) E4 st4 = some (.next, E5, st4) := by
    simp [E4, E5, ic4, cs4, bindT, bindTs, sttV, T, Co.stt]
  have e6 : sSet 6 (andV (bin idxV (bin idxV (var 11) (un (fun _ a => (intOf a).map fun i => .int (-i)) (ret (.int 1)))) (ret (.int 1))) (bin eqV (bin idxV (bin idxV (var 11) (un (fun _ a => (intOf a).map fun i => .int (-i)) (ret (.int 1)))) (ret (.int 0))) (bin addV (var 3) (ret (.int 1))))) E5 st4 = some (.next, E6, st4) := by
    cases hg : (tick os s).1.turns.getLast? with
    | none => exact absurd (List.getLast?_eq_none_iff.mp hg) hne1
    | some t =>
      have il : ∀ st : Sto, idxV st (.tup (tsV (tick os s).1.turns)) (.int (-1)) = some (.tup (turnL t)) := fun st => idx_last (f := fun t => Val.tup (turnL t)) hg
      have i0 : ∀ st : Sto, idxV st (.tup (turnL t)) (.int 0) = some (.int t.d) := fun _ => rfl
      have i1 : ∀ st : Sto, idxV st (.tup (turnL t)) (.int 1) = some (.bl t.op) := fun _ => rfl
      have hcc : canCome (tick os s).1.turns reach = (t.op && decide (t.d = reach + 1)) := by
        unfold canCome
        rw [hg]
      show sSet _ _ _ _ = some (.next, foE os s leg reach _ _ (some (.bl (canCome (tick os s).1.turns reach))) _ _ _ _ _ _ _ _ _ _ _ _, st4)
      rw [hcc]
      have hbe : (t.d == reach + 1) = decide (t.d = reach + 1) := rfl
      cases hop : t.op with
      | true => simp [E5, T, il, i0, i1, hop, hbe]
      | false => simp [E5, T, il, i0, i1, hop]
  have hF4 : FAt st4 st3.length [st1.length] [f0] := by
    refine ⟨by simp [st4], rfl, fun k u f hu hf => ?_, by simp⟩
    cases k with
    | zero =>
      cases hu
      cases hf
      show (st3 ++ [SO.lst [.ref st1.length]])[st1.length]? = _
      rw [List.getElem?_append_left (by simp [st3])]
      simp [st3]
    | succ k => cases hu
  obtain ⟨env', st', e7, as', d7, d8', d14', d15', d16', d17', d18', rfl, hF⟩ := sFor_inv (t := .name 7) (body := foB) (mi := itS (ifV (asB (var 6)) (mkTup (consM (ret (.bl false)) (consM (ret (.bl true)) nilM))) (mkTup (consM (ret (.bl false)) nilM))))
    (fun m env st => ∃ as d7 d8 d14 d15 d16 d17 d18, env = foE os s leg reach (some (.ref st1.length)) (some (.ref st3.length)) (some (.bl (canCome (tick os s).1.turns reach))) d7 d8 (some (.ref 0)) (some (saidV o)) T (some (spV (tick os s).1.sp)) (some (.tup ((tick os s).1.wait.map pairV))) d14 d15 d16 d17 d18 ∧ FAt st st3.length as (f0 :: ((nears os s reach).take m).flatMap (stepF os s leg reach)))
    (env := E6) (st := st4) (s1 := st4) (xs := (nears os s reach).map .bl) (by
      unfold nears
      cases hcc : canCome (tick os s).1.turns reach with
      | true => simp (decide := true) [E6, hcc]; rfl
      | false => simp (decide := true) [E6, hcc]; rfl) ⟨_, none, none, none, none, none, none, none, rfl, by simpa using hF4⟩ fun m x env st2 hx hI => by
    obtain ⟨as2, d7, d8, d14, d15, d16, d17, d18, rfl, hF2⟩ := hI
    rw [List.getElem?_map] at hx
    cases hm : (nears os s reach)[m]? with
    | none => rw [hm] at hx; cases hx
    | some nr =>
      rw [hm] at hx
      cases hx
      obtain ⟨hml, hmv⟩ := List.getElem?_eq_some_iff.mp hm
      have tk : (nears os s reach).take (m + 1) = (nears os s reach).take m ++ [nr] := by rw [List.take_succ_eq_append_getElem hml, hmv]
      have hlenF : (f0 :: ((nears os s reach).take m).flatMap (stepF os s leg reach)).length ≤ 5000 := by
        have key : ∀ l : List Bool, (l.flatMap (stepF os s leg reach)).length ≤ 1000 * l.length := fun l => by
          induction l with
          | nil => exact Nat.le_refl _
          | cons b l ih =>
            rw [List.flatMap_cons, List.length_append, List.length_cons]
            have := stepF_len (os := os) (s := s) (leg := leg) (reach := reach) (nr := b)
            omega
        have h3 := key ((nears os s reach).take m)
        have h4 := nears_len (os := os) (s := s) (reach := reach)
        have h5 : ((nears os s reach).take m).length ≤ 2 := by rw [List.length_take]; omega
        rw [List.length_cons]
        omega
      obtain ⟨st', as', d8', d14', d15', d16', d17', d18', eb, hF3⟩ := nearF_ok (leg := leg) (reach := reach) (nr := nr) (d4 := some (.ref st1.length)) (d6 := some (.bl (canCome (tick os s).1.turns reach))) (d8 := d8) (d9 := some (.ref 0)) (d10 := some (saidV o)) (d12 := some (spV (tick os s).1.sp)) (d13 := some (.tup ((tick os s).1.wait.map pairV))) (d14 := d14) (d15 := d15) (d16 := d16) (d17 := d17) (d18 := d18) g h hF2 hne hl h1 h2 hr (h0 nr (List.mem_of_getElem? hm)) hlenF
      refine ⟨_, rfl, _, st', .inl eb, as', some (.bl nr), d8', d14', d15', d16', d17', d18', rfl, ?_⟩
      rw [tk, List.flatMap_append, List.flatMap_singleton]
      exact hF3
  obtain ⟨st8, d8'', e8, hF8⟩ := said_loop (os := os) (s := s) (leg := leg) (reach := reach) (o := o) (d4 := some (.ref st1.length)) (d6 := some (.bl (canCome (tick os s).1.turns reach))) (d7 := d7) (d8 := d8') (d9 := some (.ref 0)) (d11 := T) (d12 := some (spV (tick os s).1.sp)) (d13 := some (.tup ((tick os s).1.wait.map pairV))) (d14 := d14') (d15 := d15') (d16 := d16') (d17 := d17') (d18 := d18') hF
  have hfs : (f0 :: ((nears os s reach).take ((nears os s reach).map Val.bl).length).flatMap (stepF os s leg reach)).map (fun f => { f with said := o }) = followed os s leg reach := by
    rw [List.length_map, List.take_length, List.map_cons, List.map_flatMap]
    unfold followed
    congr 1
    congr 1
    funext nr
    exact stepF_said
  rw [hfs] at hF8
  refine pureF_ok (v := .ref st3.length) (s' := st8) ?_ ?_ hF8.snap
  · show (noRef (voiceV os) && (noRef (sttV s) && (true && (true && true)))) = true
    rw [voice_nr, noRef_sttV]
    rfl
  · rw [x_callS]
    show oR (s_followed E0 []) = _
    unfold s_followed
    rw [sSeq_next e1, sSeq_next e2, sSeq_next e3, sSeq_next e4, sSeq_next e5, sSeq_next e6, sSeq_next e7, sSeq_next e8]
    rfl
def begF (e : Stt × List Int) : Flw := ⟨"", e.2, false, e.1, [], none⟩
theorem loop_follows {env : Mi.Env} (hl : env.length = 5) : ∀ {es : List (Stt × List Int)} {st : Sto}, compLoop (.tup [.name 3, .name 4]) [3, 4] yes (makeM "Follow" 5 c_Follow_init [] (consM (ret (.str "")) (consM (var 4) (consM (ret (.bl false)) (consM (var 3) nilM))))) (es.map extV) env st =
    some (.ok ((List.range es.length).map fun k => .ref (st.length + k)), st ++ es.map fun e => .ins "Follow" flK (flX (begF e)))
  | [], st => by
    show some (Except.ok [], st) = _
    simp
  | e :: es, st => by
    have ih := loop_follows hl (es := es) (st := st ++ [SO.ins "Follow" flK (flX (begF e))])
    rw [List.map_cons]
    unfold compLoop
    obtain ⟨x0, x1, x2, x3, x4, rfl⟩ : ∃ x0 x1 x2 x3 x4, env = [x0, x1, x2, x3, x4] := match env, hl with
      | [x0, x1, x2, x3, x4], _ => ⟨x0, x1, x2, x3, x4, rfl⟩
    let E2 : Mi.Env := [x0, x1, x2, some (sttV e.1), some (.tup (e.2.map .int))]
    have hb : bindT (.tup [.name 3, .name 4]) (extV e) (wipeE [x0, x1, x2, x3, x4] [3, 4]) = some E2 := by
      simp (decide := true) [bindT, bindTs, extV, wipeE, E2]
    rw [hb]
    dsimp only
    have h3 : E2[3]? = some (some (sttV e.1)) := rfl
    have h4 : E2[4]? = some (some (.tup (e.2.map .int))) := rfl
    rw [show yes E2 st = some (.ok true, st) from rfl]
    dsimp only
    rw [mk_follow (w := "") (ch := e.2) (nr := false) (s := e.1) (s1 := st) (by simp [h3, h4])]
    dsimp only
    rw [show (⟨"", e.2, false, e.1, [], none⟩ : Flw) = begF e from rfl, ih]
    dsimp only
    congr 2
    · rw [List.length_cons, List.range_succ_eq_map, List.map_cons, List.map_map]
      congr 2
      apply List.map_congr_left
      intro k _
      simp
      omega
    · simp
theorem beginnings_ok {st : Sto} (hl : os.length ≤ 1000) (h1 : 1 ≤ leg) (h2 : leg ≤ 1000) (hr : reach ≤ 4) :
    c_beginnings [voiceV os, .int leg, .int reach] st = some (.ok (.lst ((beginnings os leg reach).map flwV)), st) := by
  have ex := extended_ok (os := os) (s := ⟨[], none, []⟩) (leg := leg) (reach := reach) (st := []) hl h1 h2 hr (by decide) (by decide)
  generalize hE : extended os ⟨[], none, []⟩ leg reach = E at ex
  have hEl : E.length ≤ 1000 := by rw [← hE]; exact extended_len
  have hb : (beginnings os leg reach) = E.map begF := by
    unfold beginnings
    rw [hE]
    rfl
  let st' : Sto := E.map fun e => .ins "Follow" flK (flX (begF e))
  have ev : sttV ⟨[], none, []⟩ = .tup [.tup [], .non, .tup []] := rfl
  rw [ev] at ex
  let E0 : Mi.Env := [some (voiceV os), some (.int leg), some (.int reach), none, none]
  have hi : itS (callM 4 c_extended [] (consM (var 0) (consM (mkTup (consM (mkTup nilM) (consM (ret .non) (consM (mkTup nilM) nilM)))) (consM (var 1) (consM (var 2) nilM))))) E0 [] = some (.ok (E.map extV), []) := by
    refine itS_ok (v := .lst (E.map extV)) ?_ rfl
    simp (decide := true) [E0, ex]
  have lf := loop_follows (env := E0) rfl (es := E) (st := [])
  refine pureF_ok (v := .lst ((List.range E.length).map fun k => .ref k)) (s' := st') ?_ ?_ ?_
  · show (noRef (voiceV os) && (true && (true && true))) = true
    rw [voice_nr]
    rfl
  · rw [x_callS]
    show oR (s_beginnings E0 []) = _
    unfold s_beginnings
    have hc : comp (itS (callM 4 c_extended [] (consM (var 0) (consM (mkTup (consM (mkTup nilM) (consM (ret .non) (consM (mkTup nilM) nilM)))) (consM (var 1) (consM (var 2) nilM)))))) (.tup [.name 3, .name 4]) [3, 4] yes (makeM "Follow" 5 c_Follow_init [] (consM (ret (.str "")) (consM (var 4) (consM (ret (.bl false)) (consM (var 3) nilM))))) E0 [] = some (.ok (.lst ((List.range E.length).map fun k => .ref k)), st') := by
      unfold comp compM
      rw [x_bnd, x_bnd, hi, bK_ok, if_pos (by rw [List.length_map]; show _ ≤ 16000000; omega), lf, bK_ok]
      simp [st']
    rw [sRet_ok hc]
    rfl
  · rw [hb]
    have hs : allOf (snapD st' 8) (((List.range E.length).map fun k => k).map Val.ref) = some ((E.map begF).map flwV) := snap_fs (by simp) fun k u f hu hf => by
      rw [List.getElem?_map] at hu hf
      cases hk : E[k]? with
      | none => rw [hk] at hf; cases hf
      | some e =>
        rw [hk] at hf
        cases hf
        have hkl := (List.getElem?_eq_some_iff.mp hk).1
        rw [List.getElem?_range hkl] at hu
        cases hu
        show (E.map fun e => SO.ins "Follow" flK (flX (begF e)))[k]? = _
        rw [List.getElem?_map, hk]
        rfl
    rw [List.map_map] at hs
    unfold snapD
    split
    · rename_i hnr
      have : E = [] := by
        cases E with
        | nil => rfl
        | cons e E =>
          exfalso
          rw [List.length_cons, List.range_succ_eq_map, List.map_cons] at hnr
          cases hnr
      rw [this]
      rfl
    · show (allOf (snapD st' 8) _).map _ = _
      rw [show ((List.range E.length).map fun k => Val.ref k) = (List.range E.length).map (Val.ref ∘ fun k => k) from rfl, hs]
      rfl
end
end Pg
namespace Pg
open PySem Mi
open L2 (atI atI_last ixN)
/-! ### walks, plainly -/
def Wk.take (w : Wk) (f : Flw) (a : Option Stt) : Wk := if f.later ∈ w.order then w else { w with order := w.order ++ [f.later], came := w.came ++ [(f, a)] }
def Wk.meet1 (w : Wk) (f : Flw) (s : Stt) (x : Str) : Wk := if x ∈ w.met.map (·.1) then w else { w with met := w.met ++ [(x, f, s)] }
def Wk.meet (w : Wk) (f : Flw) (s : Stt) : Wk := f.wrong.foldl (fun w x => w.meet1 f s x) w
def Wk.see (s : Stt) (w : Wk) (f : Flw) : Wk := (w.meet f s).take f (some s)
def Wk.visit (os : List One) (leg reach : Int) (w : Wk) (s : Stt) : Wk := (followed os s leg reach).foldl (Wk.see s) w
def walkGo (os : List One) (leg reach : Int) : Nat → Nat → Wk → Option Wk
  | 0, _, _ => none
  | n + 1, spot, w => match w.order[spot]? with
    | none => some w
    | some s => walkGo os leg reach n (spot + 1) (w.visit os leg reach s)
def walk0 (os : List One) (leg reach : Int) : Wk := (beginnings os leg reach).foldl (fun w f => w.take f none) ⟨[], [], []⟩
/-! ### a walk in the store -/
abbrev wkK : List Str := ["reach", "order", "came_by", "first_met"]
def atV : Option Stt → Val
  | none => .non
  | some s => sttV s
def cameV (p : Flw × Option Stt) : Val := .tup [flwV p.1, atV p.2]
def metFV (p : Str × Flw × Stt) : Val := .tup [flwV p.2.1, sttV p.2.2]
abbrev wkO (reach : Int) (b : Nat) : SO := .ins "Walk" wkK [.int reach, .ref (b + 1), .ref (b + 2), .ref (b + 3)]
abbrev wkS (st : Sto) (reach : Int) (w : Wk) : Sto := st ++ [wkO reach st.length, .lst (w.order.map sttV), .dn (w.order.map sttV) (w.came.map cameV), .dk (w.met.map fun p => (Sum.inr p.1 : Sum Int Str)) (w.met.map metFV)]
section
variable {st : Sto} {reach : Int} {w : Wk}
theorem wk0 : (wkS st reach w)[st.length]? = some (wkO reach st.length) := by simp
theorem wk1 : (wkS st reach w)[st.length + 1]? = some (.lst (w.order.map sttV)) := by simp
theorem wk2 : (wkS st reach w)[st.length + 2]? = some (.dn (w.order.map sttV) (w.came.map cameV)) := by simp
theorem wk3 : (wkS st reach w)[st.length + 3]? = some (.dk (w.met.map fun p => (Sum.inr p.1 : Sum Int Str)) (w.met.map metFV)) := by simp
theorem wkR : fldV (ownL ["Walk"]) "reach" (wkS st reach w) (.ref st.length) = some (.int reach) := by rw [fld_ref wk0 (by decide)]; rfl
theorem wkOr : fldV (ownL ["Walk"]) "order" (wkS st reach w) (.ref st.length) = some (.ref (st.length + 1)) := by rw [fld_ref wk0 (by decide)]; rfl
theorem wkC : fldV (ownL ["Walk"]) "came_by" (wkS st reach w) (.ref st.length) = some (.ref (st.length + 2)) := by rw [fld_ref wk0 (by decide)]; rfl
theorem wkM : fldV (ownL ["Walk"]) "first_met" (wkS st reach w) (.ref st.length) = some (.ref (st.length + 3)) := by rw [fld_ref wk0 (by decide)]; rfl
theorem wkI {m : Str} (hm : wkK.contains m = false) : isOf "Walk" m (wkS st reach w) (.ref st.length) = true := isOf_ref wk0 hm
theorem hasN_stt {s : Stt} : ∀ l : List Stt, hasN (nkS s) (l.map sttV) = decide (s ∈ l)
  | [] => rfl
  | a :: l => by
    rw [List.map_cons]
    unfold hasN
    rw [key_stt]
    by_cases h : a = s
    · subst h
      rw [if_pos rfl]
      simp
    · rw [if_neg (fun z => h (nkS_inj _ _ (Option.some.inj z))), hasN_stt l]
      have : ¬ s = a := fun z => h z.symm
      simp [this]
theorem hasK_str {x : Str} : ∀ l : List (Str × Flw × Stt), hasKx (.inr x) (l.map fun p => (Sum.inr p.1 : Sum Int Str)) = decide (x ∈ l.map (·.1))
  | [] => rfl
  | a :: l => by
    rw [List.map_cons, List.map_cons]
    unfold hasKx
    by_cases h : a.1 = x
    · rw [if_pos (by rw [h])]
      simp [h]
    · rw [if_neg (fun z => h (Sum.inr.inj z)), hasK_str l]
      have : ¬ x = a.1 := fun z => h z.symm
      simp [this]
theorem wk_in {s : Stt} : notInD (wkS st reach w) (sttV s) (.ref (st.length + 2)) = some (.bl (!decide (s ∈ w.order))) := by
  unfold notInD hitD
  dsimp only
  rw [wk2]
  dsimp only
  rw [key_stt, Option.map_some, Option.map_some, hasN_stt]
theorem wk_inM {x : Str} : notInD (wkS st reach w) (.str x) (.ref (st.length + 3)) = some (.bl (!decide (x ∈ w.met.map (·.1)))) := by
  unfold notInD hitD
  dsimp only
  rw [wk3]
  dsimp only
  rw [show keyV (.str x) = some (.inr x) from rfl, Option.map_some, Option.map_some, hasK_str]
theorem wk_hit {x : Str} : inD (wkS st reach w) (.str x) (.ref (st.length + 3)) = some (.bl (decide (x ∈ w.met.map (·.1)))) := by
  unfold inD hitD
  dsimp only
  rw [wk3]
  dsimp only
  rw [show keyV (.str x) = some (.inr x) from rfl, Option.map_some, Option.map_some, hasK_str]
theorem wk_putM {f : Flw} {s : Stt} {x : Str} {env : Mi.Env} (h : ¬ x ∈ w.met.map (·.1)) (hl : w.met.length < 1000) : putD (.ref (st.length + 3)) (.str x) (.tup [flwV f, sttV s]) env (wkS st reach w) = some (.next, env, wkS st reach { w with met := w.met ++ [(x, f, s)] }) := by
  unfold putD
  dsimp only
  rw [wk3]
  dsimp only
  rw [show keyV (.str x) = some (.inr x) from rfl]
  dsimp only
  rw [if_pos (by rw [List.length_map]; show _ < 16000000; omega)]
  unfold putDk
  rw [hasK_str, decide_eq_false h, if_neg (by simp)]
  congr 3
  show (st ++ [wkO reach st.length, _, _, _]).set (st.length + 3) _ = _
  rw [List.set_append, if_neg (by omega), show st.length + 3 - st.length = 3 by omega]
  simp [metFV]
theorem wk_putC {f : Flw} {a : Option Stt} {env : Mi.Env} (h : ¬ f.later ∈ w.order) (hl : w.order.length < 15000000) : putD (.ref (st.length + 2)) (sttV f.later) (.tup [flwV f, atV a]) env (wkS st reach w) =
    some (.next, env, (wkS st reach w).set (st.length + 2) (.dn ((w.order ++ [f.later]).map sttV) ((w.came ++ [(f, a)]).map cameV))) := by
  unfold putD
  dsimp only
  rw [wk2]
  dsimp only
  rw [key_stt]
  dsimp only
  rw [if_pos (by rw [List.length_map]; show _ < 16000000; omega)]
  unfold putDn
  rw [hasN_stt, decide_eq_false h, if_neg (by simp)]
  rw [List.map_append, List.map_append]
  rfl
theorem f_later {f : Flw} {st : Sto} : fldV (ownL ["Follow"]) "later" st (flwV f) = some (sttV f.later) := rfl
theorem f_wrong {f : Flw} {st : Sto} : fldV (ownL ["Follow"]) "wrong" st (flwV f) = some (.tup (f.wrong.map .str)) := rfl
theorem f_word {f : Flw} {st : Sto} : fldV (ownL ["Follow"]) "word" st (flwV f) = some (.str f.word) := rfl
theorem f_near {f : Flw} {st : Sto} : fldV (ownL ["Follow"]) "is_near" st (flwV f) = some (.bl f.near) := rfl
theorem f_chosen {f : Flw} {st : Sto} : fldV (ownL ["Follow"]) "chosen" st (flwV f) = some (.tup (f.chosen.map .int)) := rfl
theorem wk_take {f : Flw} {a : Option Stt} (hl : w.order.length < 15000000) : c_Walk_take [.ref st.length, flwV f, atV a] (wkS st reach w) = some (.ok .non, wkS st reach (w.take f a)) := by
  unfold c_Walk_take
  rw [x_callS]
  unfold s_Walk_take
  let E : Mi.Env := [some (.ref st.length), some (flwV f), some (atV a)]
  have ct : asB (bin notInD (un (fldV (ownL ["Follow"]) "later") (var 1)) (un (fldV (ownL ["Walk"]) "came_by") (var 0))) E (wkS st reach w) = some (.ok (!decide (f.later ∈ w.order)), wkS st reach w) := by
    simp only [x_asB, x_bin, x_un, x_bnd, x_var, x_lift, bK_ok, lR_some, vR_some, E, List.getElem?_cons_succ, List.getElem?_cons_zero, f_later, wkC, wk_in, asBool_bl]
  show oR (sIf _ _ _ E _) = _
  unfold Wk.take
  by_cases h : f.later ∈ w.order
  · rw [decide_eq_true h] at ct
    rw [if_pos h, sIf_false ct]
    rfl
  · rw [decide_eq_false h] at ct
    rw [if_neg h, sIf_true ct]
    have hp : sPutD (un (fldV (ownL ["Walk"]) "came_by") (var 0)) (un (fldV (ownL ["Follow"]) "later") (var 1)) (mkTup (consM (var 1) (consM (var 2) nilM))) E (wkS st reach w) = some (.next, E, (wkS st reach w).set (st.length + 2) (.dn ((w.order ++ [f.later]).map sttV) ((w.came ++ [(f, a)]).map cameV))) := by
      unfold sPutD
      rw [sBnd_ok (a := .tup [flwV f, atV a]) (s1 := wkS st reach w) (by simp (decide := true) [E]), sBnd_ok (a := .ref (st.length + 2)) (s1 := wkS st reach w) (by simp only [x_un, x_var, x_lift, bK_ok, lR_some, vR_some, E, List.getElem?_cons_zero, wkC]), sBnd_ok (a := sttV f.later) (s1 := wkS st reach w) (by simp only [x_un, x_var, x_lift, bK_ok, lR_some, vR_some, E, List.getElem?_cons_succ, List.getElem?_cons_zero, f_later])]
      exact wk_putC h hl
    generalize hs2 : (wkS st reach w).set (st.length + 2) (.dn ((w.order ++ [f.later]).map sttV) ((w.came ++ [(f, a)]).map cameV)) = s2 at hp
    have g0 : s2[st.length]? = some (wkO reach st.length) := by
      rw [← hs2, List.getElem?_set_ne (by omega)]
      exact wk0
    have g1 : s2[st.length + 1]? = some (.lst (w.order.map sttV)) := by
      rw [← hs2, List.getElem?_set_ne (by omega)]
      exact wk1
    have go : fldV (ownL ["Walk"]) "order" s2 (.ref st.length) = some (.ref (st.length + 1)) := by rw [fld_ref g0 (by decide)]; rfl
    have il : isLst s2 (.ref (st.length + 1)) = some () := isLst_ref g1
    have ap : appendV s2 (.ref (st.length + 1)) [sttV f.later] = some (.non, wkS st reach { w with order := w.order ++ [f.later], came := w.came ++ [(f, a)] }) := by
      rw [app_ref g1 (by rw [List.length_map]; omega), ← hs2]
      congr 2
      show ((st ++ [wkO reach st.length, _, _, _]).set (st.length + 2) _).set (st.length + 1) _ = _
      rw [List.set_append, if_neg (by omega), List.set_append, if_neg (by omega), show st.length + 2 - st.length = 2 by omega, show st.length + 1 - st.length = 1 by omega]
      simp
    rw [sSeq_next hp, sExpr_ok (v := .non) (s1 := wkS st reach { w with order := w.order ++ [f.later], came := w.came ++ [(f, a)] })]
    · rfl
    · simp only [x_lm, x_un, x_bnd, x_var, x_lift, x_liftS, x_consM, x_nilM, x_ret, bK_ok, lR_some, lSR_some, vR_some, E, List.getElem?_cons_succ, List.getElem?_cons_zero, f_later, go, il, ap]
end
end Pg
namespace Pg
open PySem Mi
open L2 (atI atI_last ixN)
/-! ### a walk only grows -/
structure Wk.Le (a b : Wk) : Prop where
  order : ∃ l, b.order = a.order ++ l
  met : ∃ l, b.met = a.met ++ l
theorem Wk.Le.refl (a : Wk) : a.Le a := ⟨⟨[], by simp⟩, ⟨[], by simp⟩⟩
theorem Wk.Le.trans {a b c : Wk} (h : a.Le b) (g : b.Le c) : a.Le c := by
  obtain ⟨⟨l1, e1⟩, ⟨m1, f1⟩⟩ := h
  obtain ⟨⟨l2, e2⟩, ⟨m2, f2⟩⟩ := g
  exact ⟨⟨l1 ++ l2, by rw [e2, e1, List.append_assoc]⟩, ⟨m1 ++ m2, by rw [f2, f1, List.append_assoc]⟩⟩
theorem Wk.Le.lo {a b : Wk} (h : a.Le b) : a.order.length ≤ b.order.length := by
  obtain ⟨l, e⟩ := h.order
  rw [e, List.length_append]
  omega
theorem Wk.Le.lm {a b : Wk} (h : a.Le b) : a.met.length ≤ b.met.length := by
  obtain ⟨l, e⟩ := h.met
  rw [e, List.length_append]
  omega
theorem Wk.Le.mem {a b : Wk} (h : a.Le b) {s : Stt} (hs : s ∈ a.order) : s ∈ b.order := by
  obtain ⟨l, e⟩ := h.order
  rw [e]
  exact List.mem_append_left _ hs
theorem Wk.Le.at {a b : Wk} (h : a.Le b) {i : Nat} {s : Stt} (hs : a.order[i]? = some s) : b.order[i]? = some s := by
  obtain ⟨l, e⟩ := h.order
  rw [e, List.getElem?_append_left (List.getElem?_eq_some_iff.mp hs).1]
  exact hs
theorem take_le (w : Wk) (f : Flw) (a : Option Stt) : w.Le (w.take f a) := by
  unfold Wk.take
  split
  · exact .refl _
  · exact ⟨⟨_, rfl⟩, ⟨[], by simp⟩⟩
theorem meet1_le (w : Wk) (f : Flw) (s : Stt) (x : Str) : w.Le (w.meet1 f s x) := by
  unfold Wk.meet1
  split
  · exact .refl _
  · exact ⟨⟨[], by simp⟩, ⟨_, rfl⟩⟩
theorem fold_le {α : Type} {g : Wk → α → Wk} (h : ∀ (w : Wk) (a : α), w.Le (g w a)) : ∀ (l : List α) (w : Wk), w.Le (l.foldl g w)
  | [], w => .refl w
  | a :: l, w => (h w a).trans (fold_le h l (g w a))
theorem meet_le (w : Wk) (f : Flw) (s : Stt) : w.Le (w.meet f s) := fold_le (fun w x => meet1_le w f s x) _ _
theorem see_le (s : Stt) (w : Wk) (f : Flw) : w.Le (w.see s f) := (meet_le w f s).trans (take_le _ _ _)
theorem visit_le {os : List One} {leg reach : Int} (w : Wk) (s : Stt) : w.Le (w.visit os leg reach s) := fold_le (see_le s) _ _
theorem walkGo_le {os : List One} {leg reach : Int} : ∀ (n spot : Nat) {w w' : Wk}, walkGo os leg reach n spot w = some w' → w.Le w'
  | 0, _, _, _, h => by cases h
  | n + 1, spot, w, w', h => by
    unfold walkGo at h
    split at h
    · cases h
      exact .refl _
    · exact (visit_le w _).trans (walkGo_le n _ h)
theorem walkGo_mono {os : List One} {leg reach : Int} : ∀ (n m spot : Nat) {w w' : Wk}, n ≤ m → walkGo os leg reach n spot w = some w' → walkGo os leg reach m spot w = some w'
  | 0, _, _, _, _, _, h => by cases h
  | n + 1, 0, _, _, _, hm, h => by omega
  | n + 1, m + 1, spot, w, w', hm, h => by
    unfold walkGo at h ⊢
    split at h
    · exact h
    · exact walkGo_mono n m _ (by omega) h
theorem foldl_take_succ {α β : Type} {g : β → α → β} {l : List α} {m : Nat} {x : α} {b : β} (h : l[m]? = some x) : (l.take (m + 1)).foldl g b = g ((l.take m).foldl g b) x := by
  obtain ⟨hl, hv⟩ := List.getElem?_eq_some_iff.mp h
  rw [List.take_succ_eq_append_getElem hl, hv, List.foldl_append]
  rfl
theorem fold_take_le {α : Type} {g : Wk → α → Wk} (h : ∀ (w : Wk) (a : α), w.Le (g w a)) (l : List α) (m : Nat) (w : Wk) : ((l.take m).foldl g w).Le (l.foldl g w) := by
  have : l = l.take m ++ l.drop m := (List.take_append_drop m l).symm
  rw [show l.foldl g w = (l.drop m).foldl g ((l.take m).foldl g w) by conv => lhs; rw [this, List.foldl_append]]
  exact fold_le h _ _
/-! ### the loops -/
abbrev wkE (os : List One) (b : Nat) (leg : Int) (spot d3 d5 : Option Val) : Mi.Env := [some (.ref b), some (voiceV os), some (.int leg), d3, spot, d5]
abbrev wkMeet : S := (sFor (itS (un (fldV (ownL ["Follow"]) "wrong") (var 3))) (.name 5) (sIf (asB (bin notInD (var 5) (un (fldV (ownL ["Walk"]) "first_met") (var 0)))) (sPutD (un (fldV (ownL ["Walk"]) "first_met") (var 0)) (var 5) (mkTup (consM (var 3) (consM (bin idxV (un (fldV (ownL ["Walk"]) "order") (var 0)) (var 4)) nilM)))) sNext))
abbrev wkSee : S := (sSeq wkMeet
    (sExpr (methM "Walk" "take" 3 c_Walk_take [] (var 0) (consM (var 3) (consM (bin idxV (un (fldV (ownL ["Walk"]) "order") (var 0)) (var 4)) nilM)))))
abbrev wkVisit : S := (sFor (itS (callM 4 c_followed [] (consM (var 1) (consM (bin idxV (un (fldV (ownL ["Walk"]) "order") (var 0)) (var 4)) (consM (var 2) (consM (un (fldV (ownL ["Walk"]) "reach") (var 0)) nilM)))))) (.name 3) wkSee)
abbrev wkC0 : M Bool := (asB (bin (cmpV fun i j => decide (i < j)) (var 4) (app lenV (consM (un (fldV (ownL ["Walk"]) "order") (var 0)) nilM))))
section
variable {os : List One} {st : Sto} {leg reach : Int} {s : Stt} {spot : Nat}
theorem order_at {w : Wk} (h : w.order[spot]? = some s) : idxV (wkS st reach w) (.ref (st.length + 1)) (.int (spot : Int)) = some (sttV s) := by
  rw [idx_ref wk1, atI_nat, List.getElem?_map, h]
  rfl
theorem meet_loop {w : Wk} {f : Flw} {d5 : Option Val} (hs : w.order[spot]? = some s) (hm : (w.meet f s).met.length < 1000) :
    ∃ d5', wkMeet (wkE os st.length leg (some (.int (spot : Int))) (some (flwV f)) d5) (wkS st reach w) = some (.next, wkE os st.length leg (some (.int (spot : Int))) (some (flwV f)) d5', wkS st reach (w.meet f s)) := by
  obtain ⟨env', st', e, d5', rfl, rfl⟩ := sFor_inv (t := .name 5) (mi := itS (un (fldV (ownL ["Follow"]) "wrong") (var 3))) (body := sIf (asB (bin notInD (var 5) (un (fldV (ownL ["Walk"]) "first_met") (var 0)))) (sPutD (un (fldV (ownL ["Walk"]) "first_met") (var 0)) (var 5) (mkTup (consM (var 3) (consM (bin idxV (un (fldV (ownL ["Walk"]) "order") (var 0)) (var 4)) nilM)))) sNext)
    (fun m env st' => ∃ d5, env = wkE os st.length leg (some (.int (spot : Int))) (some (flwV f)) d5 ∧ st' = wkS st reach ((f.wrong.take m).foldl (fun w x => w.meet1 f s x) w))
    (env := wkE os st.length leg (some (.int (spot : Int))) (some (flwV f)) d5) (st := wkS st reach w) (s1 := wkS st reach w) (xs := f.wrong.map .str) (by
      refine itS_ok (v := .tup (f.wrong.map .str)) ?_ rfl
      simp only [x_un, x_var, x_lift, bK_ok, lR_some, vR_some, List.getElem?_cons_succ, List.getElem?_cons_zero, f_wrong]) ⟨d5, rfl, rfl⟩ fun m x env st' hx hI => by
      obtain ⟨d5, rfl, rfl⟩ := hI
      rw [List.getElem?_map] at hx
      cases hm2 : f.wrong[m]? with
      | none => rw [hm2] at hx; cases hx
      | some y =>
        rw [hm2] at hx
        cases hx
        have hle : ((f.wrong.take m).foldl (fun w x => w.meet1 f s x) w).Le (w.meet f s) := fold_take_le (fun w x => meet1_le w f s x) _ _ _
        have hle2 : w.Le ((f.wrong.take m).foldl (fun w x => w.meet1 f s x) w) := fold_le (fun w x => meet1_le w f s x) _ _
        have htk := foldl_take_succ (g := fun w x => Wk.meet1 w f s x) (b := w) hm2
        generalize (f.wrong.take m).foldl (fun w x => w.meet1 f s x) w = v at hle hle2 htk ⊢
        refine ⟨wkE os st.length leg (some (.int (spot : Int))) (some (flwV f)) (some (.str y)), rfl, wkE os st.length leg (some (.int (spot : Int))) (some (flwV f)) (some (.str y)), wkS st reach (v.meet1 f s y), .inl ?_, _, rfl, by rw [htk]⟩
        have ct : asB (bin notInD (var 5) (un (fldV (ownL ["Walk"]) "first_met") (var 0))) (wkE os st.length leg (some (.int (spot : Int))) (some (flwV f)) (some (.str y))) (wkS st reach v) = some (.ok (!decide (y ∈ v.met.map (·.1))), wkS st reach v) := by
          simp only [x_asB, x_bin, x_un, x_bnd, x_var, x_lift, bK_ok, lR_some, vR_some, List.getElem?_cons_succ, List.getElem?_cons_zero, wkM, wk_inM, asBool_bl]
        unfold Wk.meet1
        by_cases h : y ∈ v.met.map (·.1)
        · rw [decide_eq_true h] at ct
          rw [if_pos h, sIf_false ct]
          rfl
        · rw [decide_eq_false h] at ct
          rw [if_neg h, sIf_true ct]
          unfold sPutD
          rw [sBnd_ok (a := .tup [flwV f, sttV s]) (s1 := wkS st reach v) (by
            have := order_at (st := st) (reach := reach) (hle2.at hs)
            simp (decide := true) only [x_mkTup, x_consM, x_nilM, x_bin, x_un, x_bnd, x_var, x_lift, x_ret, bK_ok, lR_some, vR_some, List.getElem?_cons_succ, List.getElem?_cons_zero, wkOr, this, List.length_cons, List.length_nil, if_true]),
            sBnd_ok (a := .ref (st.length + 3)) (s1 := wkS st reach v) (by simp only [x_un, x_var, x_lift, bK_ok, lR_some, vR_some, List.getElem?_cons_zero, wkM]),
            sBnd_ok (a := .str y) (s1 := wkS st reach v) (by simp only [x_var, vR_some, List.getElem?_cons_succ, List.getElem?_cons_zero])]
          exact wk_putM h (Nat.lt_of_le_of_lt hle.lm hm)
  refine ⟨d5', ?_⟩
  rw [List.length_map, List.take_length] at e
  exact e
/-- what it takes to go on from a window -/
structure Stt.OkW (os : List One) (leg reach : Int) (s : Stt) : Prop where
  fine : s.Fine os
  ne : s.turns ≠ []
  pos : ∀ nr ∈ nears os s reach, 0 ≤ lastD (moved os s nr reach).turns
theorem visit_loop {w : Wk} {d3 d5 : Option Val} (g : Good os) (hk : s.OkW os leg reach) (hl : os.length ≤ 1000) (h1 : 1 ≤ leg) (h2 : leg ≤ 1000) (hr : reach ≤ 4) (hs : w.order[spot]? = some s) (hm : (w.visit os leg reach s).met.length < 1000) (ho : (w.visit os leg reach s).order.length < 15000000) :
    ∃ d3' d5', wkVisit (wkE os st.length leg (some (.int (spot : Int))) d3 d5) (wkS st reach w) = some (.next, wkE os st.length leg (some (.int (spot : Int))) d3' d5', wkS st reach (w.visit os leg reach s)) := by
  have fo := followed_ok (st := wkS st reach w) g hk.fine hk.ne hl h1 h2 hr hk.pos
  unfold Wk.visit at hm ho ⊢
  generalize hF : followed os s leg reach = F at fo hm ho ⊢
  obtain ⟨env', st', e, d3', d5', rfl, rfl⟩ := sFor_inv (t := .name 3) (body := wkSee) (mi := itS (callM 4 c_followed [] (consM (var 1) (consM (bin idxV (un (fldV (ownL ["Walk"]) "order") (var 0)) (var 4)) (consM (var 2) (consM (un (fldV (ownL ["Walk"]) "reach") (var 0)) nilM))))))
    (fun m env st' => ∃ d3 d5, env = wkE os st.length leg (some (.int (spot : Int))) d3 d5 ∧ st' = wkS st reach ((F.take m).foldl (Wk.see s) w))
    (env := wkE os st.length leg (some (.int (spot : Int))) d3 d5) (st := wkS st reach w) (s1 := wkS st reach w) (xs := F.map flwV) (by
      refine itS_ok (v := .lst (F.map flwV)) ?_ rfl
      have := order_at (st := st) (reach := reach) hs
      simp (decide := true) only [x_callM, x_consM, x_nilM, x_bin, x_un, x_bnd, x_var, x_lift, x_ret, bK_ok, lR_some, vR_some, List.getElem?_cons_succ, List.getElem?_cons_zero, wkOr, wkR, this, List.length_cons, List.length_nil, List.append_nil, if_true, fo]) ⟨d3, d5, rfl, rfl⟩ fun m x env st' hx hI => by
      obtain ⟨d3, d5, rfl, rfl⟩ := hI
      rw [List.getElem?_map] at hx
      cases hm2 : F[m]? with
      | none => rw [hm2] at hx; cases hx
      | some f =>
        rw [hm2] at hx
        cases hx
        have hle : ((F.take (m + 1)).foldl (Wk.see s) w).Le (F.foldl (Wk.see s) w) := fold_take_le (see_le s) _ _ _
        have hle2 : w.Le ((F.take m).foldl (Wk.see s) w) := fold_le (see_le s) _ _
        have htk := foldl_take_succ (g := Wk.see s) (b := w) hm2
        rw [htk] at hle
        generalize (F.take m).foldl (Wk.see s) w = v at hle hle2 htk ⊢
        have hml : (v.meet f s).Le (F.foldl (Wk.see s) w) := (take_le _ f (some s)).trans hle
        obtain ⟨d5', e5⟩ := meet_loop (os := os) (st := st) (leg := leg) (reach := reach) (f := f) (d5 := d5) (hle2.at hs) (Nat.lt_of_le_of_lt hml.lm hm)
        refine ⟨wkE os st.length leg (some (.int (spot : Int))) (some (flwV f)) d5, rfl, wkE os st.length leg (some (.int (spot : Int))) (some (flwV f)) d5', wkS st reach (v.see s f), .inl ?_, _, _, rfl, by rw [htk]⟩
        have hoa := order_at (st := st) (reach := reach) ((hle2.trans (meet_le v f s)).at hs)
        have tk := wk_take (st := st) (reach := reach) (w := v.meet f s) (f := f) (a := some s) (Nat.lt_of_le_of_lt hml.lo ho)
        have ta : atV (some s) = sttV s := rfl
        rw [ta] at tk
        have isW : isOf "Walk" "take" (wkS st reach (v.meet f s)) (.ref st.length) = true := wkI (by decide)
        unfold wkSee
        rw [sSeq_next e5, sExpr_ok (v := .non) (s1 := wkS st reach (v.see s f))]
        simp (decide := true) only [x_methM, x_consM, x_nilM, x_bin, x_un, x_bnd, x_var, x_lift, x_ret, bK_ok, lR_some, vR_some, List.getElem?_cons_succ, List.getElem?_cons_zero, wkOr, hoa, List.length_cons, List.length_nil, List.append_nil, if_true, isW, tk]
        rfl
  refine ⟨d3', d5', ?_⟩
  rw [List.length_map, List.take_length] at e
  exact e
theorem walk_loop (g : Good os) (hl : os.length ≤ 1000) (h1 : 1 ≤ leg) (h2 : leg ≤ 1000) (hr : reach ≤ 4) {wf : Wk} (hm : wf.met.length < 1000) (ho : wf.order.length < 15000000) (hk : ∀ s ∈ wf.order, s.OkW os leg reach) : ∀ (n spot : Nat) {w : Wk} {d3 d5 : Option Val}, walkGo os leg reach n spot w = some wf →
    ∃ d3' d5' spot', sWhile wkC0 (sSeq wkVisit (sAug 4 addI (ret (.int 1)))) n (wkE os st.length leg (some (.int (spot : Int))) d3 d5) (wkS st reach w) = some (.next, wkE os st.length leg (some (.int (spot' : Int))) d3' d5', wkS st reach wf)
  | 0, _, _, _, _, h => by cases h
  | n + 1, spot, w, d3, d5, h => by
    have hle := walkGo_le _ _ h
    have lv : lenV (wkS st reach w) [.ref (st.length + 1)] = some (.int ((List.length w.order : Nat) : Int)) := by rw [len_ref wk1, List.length_map]
    have ct : wkC0 (wkE os st.length leg (some (.int (spot : Int))) d3 d5) (wkS st reach w) = some (.ok (decide ((spot : Int) < (w.order.length : Int))), wkS st reach w) := by
      simp only [x_asB, x_bin, x_un, x_app, x_consM, x_nilM, x_ret, x_bnd, x_var, x_lift, bK_ok, lR_some, vR_some, List.getElem?_cons_succ, List.getElem?_cons_zero, wkOr, lv, x_cmpV, asBool_bl]
    unfold walkGo at h
    cases hs : w.order[spot]? with
    | none =>
      rw [hs] at h
      cases h
      have : ¬ ((spot : Int) < (wf.order.length : Int)) := by
        have := List.getElem?_eq_none_iff.mp hs
        omega
      rw [decide_eq_false this] at ct
      exact ⟨d3, d5, spot, while_end ct⟩
    | some s =>
      rw [hs] at h
      dsimp only at h
      have hlt : (spot : Int) < (w.order.length : Int) := by
        have := (List.getElem?_eq_some_iff.mp hs).1
        omega
      rw [decide_eq_true hlt] at ct
      have hle2 := walkGo_le _ _ h
      obtain ⟨d3', d5', ev⟩ := visit_loop (os := os) (st := st) (leg := leg) (reach := reach) (d3 := d3) (d5 := d5) g (hk s (hle.mem (List.mem_of_getElem? hs))) hl h1 h2 hr hs (Nat.lt_of_le_of_lt hle2.lm hm) (Nat.lt_of_le_of_lt hle2.lo ho)
      have eb : sSeq wkVisit (sAug 4 addI (ret (.int 1))) (wkE os st.length leg (some (.int (spot : Int))) d3 d5) (wkS st reach w) = some (.next, wkE os st.length leg (some (.int ((spot + 1 : Nat) : Int))) d3' d5', wkS st reach (w.visit os leg reach s)) := by
        rw [sSeq_next ev]
        rfl
      rw [while_next ct eb (.inl rfl)]
      exact walk_loop g hl h1 h2 hr hm ho hk n (spot + 1) h
end
end Pg
namespace Pg
open PySem Mi
open L2 (atI atI_last ixN)
/-! ### a walk, whole -/
structure Walked (os : List One) (leg : Int) (wf : Wk) : Prop where
  go : ∃ n, n ≤ 16000000 ∧ walkGo os leg (maxD os) n 0 (walk0 os leg (maxD os)) = some wf
  ord : wf.order.length < 15000000
  met : wf.met.length < 1000
  okw : ∀ s ∈ wf.order, s.OkW os leg (maxD os)
theorem Walked.go' {os : List One} {leg : Int} {wf : Wk} (h : Walked os leg wf) : walkGo os leg (maxD os) 16000000 0 (walk0 os leg (maxD os)) = some wf := by
  obtain ⟨n, hn, e⟩ := h.go
  exact walkGo_mono n _ 0 hn e
theorem f_reach {os : List One} {st : Sto} : fldV (ownL ["Voice"]) "reach" st (voiceV os) = some (.int (maxD os)) := rfl
structure VoOk (os : List One) : Prop where
  good : Good os
  len : os.length ≤ 1000
  reach : maxD os ≤ 4
section
variable {os : List One} {st : Sto} {leg : Int} {wf : Wk}
theorem beg_loop (v : VoOk os) (h1 : 1 ≤ leg) (h2 : leg ≤ 1000) (ho : (walk0 os leg (maxD os)).order.length < 15000000) {d3 d4 d5 : Option Val} :
    ∃ d3', sFor (itS (callM 3 c_beginnings [] (consM (var 1) (consM (var 2) (consM (un (fldV (ownL ["Walk"]) "reach") (var 0)) nilM))))) (.name 3) (sExpr (methM "Walk" "take" 3 c_Walk_take [] (var 0) (consM (var 3) (consM (ret .non) nilM)))) (wkE os st.length leg d4 d3 d5) (wkS st (maxD os) ⟨[], [], []⟩) =
      some (.next, wkE os st.length leg d4 d3' d5, wkS st (maxD os) (walk0 os leg (maxD os))) := by
  have bo := beginnings_ok (st := wkS st (maxD os) ⟨[], [], []⟩) v.len h1 h2 v.reach
  unfold walk0 at ho ⊢
  generalize hF : beginnings os leg (maxD os) = F at bo ho ⊢
  obtain ⟨env', st', e, d3', rfl, rfl⟩ := sFor_inv (t := .name 3) (body := sExpr (methM "Walk" "take" 3 c_Walk_take [] (var 0) (consM (var 3) (consM (ret .non) nilM)))) (mi := itS (callM 3 c_beginnings [] (consM (var 1) (consM (var 2) (consM (un (fldV (ownL ["Walk"]) "reach") (var 0)) nilM)))))
    (fun m env st' => ∃ d3, env = wkE os st.length leg d4 d3 d5 ∧ st' = wkS st (maxD os) ((F.take m).foldl (fun (w : Wk) f => w.take f none) (⟨[], [], []⟩ : Wk)))
    (env := wkE os st.length leg d4 d3 d5) (st := wkS st (maxD os) ⟨[], [], []⟩) (s1 := wkS st (maxD os) ⟨[], [], []⟩) (xs := F.map flwV) (by
      refine itS_ok (v := .lst (F.map flwV)) ?_ rfl
      simp (decide := true) only [x_callM, x_consM, x_nilM, x_un, x_bnd, x_var, x_lift, x_ret, bK_ok, lR_some, vR_some, List.getElem?_cons_succ, List.getElem?_cons_zero, wkR, List.length_cons, List.length_nil, List.append_nil, if_true, bo]) ⟨d3, rfl, rfl⟩ fun m x env st' hx hI => by
      obtain ⟨d3, rfl, rfl⟩ := hI
      rw [List.getElem?_map] at hx
      cases hm2 : F[m]? with
      | none => rw [hm2] at hx; cases hx
      | some f =>
        rw [hm2] at hx
        cases hx
        have hle : ((F.take m).foldl (fun (w : Wk) f => w.take f none) (⟨[], [], []⟩ : Wk)).Le (F.foldl (fun (w : Wk) f => w.take f none) (⟨[], [], []⟩ : Wk)) := fold_take_le (fun w f => take_le w f none) _ _ _
        have htk := foldl_take_succ (g := fun (w : Wk) f => w.take f none) (b := (⟨[], [], []⟩ : Wk)) hm2
        generalize (F.take m).foldl (fun (w : Wk) f => w.take f none) (⟨[], [], []⟩ : Wk) = v' at hle htk ⊢
        refine ⟨wkE os st.length leg d4 (some (flwV f)) d5, rfl, wkE os st.length leg d4 (some (flwV f)) d5, wkS st (maxD os) (v'.take f none), .inl ?_, _, rfl, by rw [htk]⟩
        have tk := wk_take (st := st) (reach := maxD os) (w := v') (f := f) (a := none) (Nat.lt_of_le_of_lt hle.lo ho)
        have ta : atV none = .non := rfl
        rw [ta] at tk
        have isW : isOf "Walk" "take" (wkS st (maxD os) v') (.ref st.length) = true := wkI (by decide)
        rw [sExpr_ok (v := .non) (s1 := wkS st (maxD os) (v'.take f none))]
        simp (decide := true) only [x_methM, x_consM, x_nilM, x_bnd, x_var, x_lift, x_ret, bK_ok, lR_some, vR_some, List.getElem?_cons_succ, List.getElem?_cons_zero, List.length_cons, List.length_nil, List.append_nil, if_true, isW, tk]
  refine ⟨d3', ?_⟩
  rw [List.length_map, List.take_length] at e
  exact e
theorem x_newDn {env : Mi.Env} {st : Sto} : newDn env st = some (.ok (.ref st.length), st ++ [.dn [] []]) := rfl
theorem x_newDk {env : Mi.Env} {st : Sto} : newDk env st = some (.ok (.ref st.length), st ++ [.dk [] []]) := rfl
theorem walk_init (v : VoOk os) (h1 : 1 ≤ leg) (h2 : leg ≤ 1000) (W : Walked os leg wf) : c_Walk_init [.ref st.length, voiceV os, .int leg] (st ++ [.ins "Walk" [] []]) = some (.ok .non, wkS st (maxD os) wf) := by
  have hle := walkGo_le _ _ W.go'
  obtain ⟨d3, e5⟩ := beg_loop (os := os) (st := st) (leg := leg) v h1 h2 (Nat.lt_of_le_of_lt hle.lo W.ord) (d3 := none) (d4 := none) (d5 := none)
  obtain ⟨d3', d5', sp', e7⟩ := walk_loop (os := os) (st := st) v.good v.len h1 h2 v.reach W.met W.ord W.okw 16000000 0 (d3 := d3) (d5 := none) W.go'
  let E : Mi.Env := wkE os st.length leg none none none
  have e1 : sFldV (ownL ["Walk"]) "reach" (var 0) (un (fldV (ownL ["Voice"]) "reach") (var 1)) E (st ++ SO.ins "Walk" [] [] :: []) = some (.next, E, st ++ SO.ins "Walk" ["reach"] [.int (maxD os)] :: []) :=
    fld_mid (ks := []) (xs := []) (y := .int (maxD os)) (by simp only [x_un, x_var, x_lift, bK_ok, lR_some, vR_some, List.getElem?_cons_succ, List.getElem?_cons_zero, f_reach, E]) rfl (by decide) (by decide) (by kernel_rfl) (by kernel_rfl)
  have e2 : sFldV (ownL ["Walk"]) "order" (var 0) (mkLstM nilM) E (st ++ SO.ins "Walk" ["reach"] [.int (maxD os)] :: []) = some (.next, E, st ++ SO.ins "Walk" ["reach", "order"] [.int (maxD os), .ref (st.length + 1)] :: [.lst []]) :=
    fld_mid (ks := ["reach"]) (xs := [.int (maxD os)]) (y := .ref (st.length + 1)) (by simp (decide := true)) rfl (by decide) (by decide) (by kernel_rfl) (by kernel_rfl)
  have e3 : sFldV (ownL ["Walk"]) "came_by" (var 0) newDn E (st ++ SO.ins "Walk" ["reach", "order"] [.int (maxD os), .ref (st.length + 1)] :: [.lst []]) = some (.next, E, st ++ SO.ins "Walk" ["reach", "order", "came_by"] [.int (maxD os), .ref (st.length + 1), .ref (st.length + 2)] :: [.lst [], .dn [] []]) :=
    fld_mid (ks := ["reach", "order"]) (xs := [.int (maxD os), .ref (st.length + 1)]) (y := .ref (st.length + 2)) (by rw [x_newDn]; simp) rfl (by decide) (by decide) (by kernel_rfl) (by kernel_rfl)
  have e4 : sFldV (ownL ["Walk"]) "first_met" (var 0) newDk E (st ++ SO.ins "Walk" ["reach", "order", "came_by"] [.int (maxD os), .ref (st.length + 1), .ref (st.length + 2)] :: [.lst [], .dn [] []]) = some (.next, E, wkS st (maxD os) ⟨[], [], []⟩) :=
    fld_mid (ks := ["reach", "order", "came_by"]) (xs := [.int (maxD os), .ref (st.length + 1), .ref (st.length + 2)]) (y := .ref (st.length + 3)) (r := [.lst [], .dn [] [], .dk [] []]) (by rw [x_newDk]; simp) rfl (by decide) (by decide) (by kernel_rfl) (by kernel_rfl)
  unfold c_Walk_init
  rw [x_callS]
  show oR (s_Walk_init E (st ++ SO.ins "Walk" [] [] :: [])) = _
  unfold s_Walk_init
  rw [sSeq_next e1, sSeq_next e2, sSeq_next e3, sSeq_next e4, sSeq_next e5]
  have e6 : sSet 4 (ret (.int 0)) (wkE os st.length leg none d3 none) (wkS st (maxD os) (walk0 os leg (maxD os))) = some (.next, wkE os st.length leg (some (.int ((0 : Nat) : Int))) d3 none, wkS st (maxD os) (walk0 os leg (maxD os))) := rfl
  rw [sSeq_next e6]
  exact congrArg oR e7
theorem mk_walk (v : VoOk os) (h1 : 1 ≤ leg) (h2 : leg ≤ 1000) (W : Walked os leg wf) {ms : M (List Val)} {env : Mi.Env} {s1 : Sto} (h : ms env st = some (.ok [voiceV os, .int leg], s1)) :
    makeM "Walk" 3 c_Walk_init [] ms env st = some (.ok (.ref s1.length), wkS s1 (maxD os) wf) := by
  rw [x_makeM, h, bK_ok, if_pos (by rfl), List.append_nil, walk_init v h1 h2 W]
/-! ### what happens -/
theorem fault_ok {f : Str} (hf : f ∈ fWords) {st : Sto} : runP c_need_fault [.str f] st = some (.ok .non, st) := by
  refine runP_ok rfl (st' := []) ?_ rfl
  simp only [fWords, List.mem_cons, List.not_mem_nil, or_false] at hf
  rcases hf with rfl | rfl | rfl | rfl | rfl <;> kernel_rfl
theorem happens_ok {f : Str} (hf : f ∈ fWords) (v : VoOk os) (h1 : 1 ≤ leg) (h2 : leg ≤ 1000) (W : Walked os leg wf) : runP c_happens [voiceV os, .str f, .int leg] st = some (.ok (.bl (decide (f ∈ wf.met.map (·.1)))), st) := by
  refine runP_ok (by show (noRef (voiceV os) && (true && (true && true))) = true; rw [voice_nr]; rfl) (st' := wkS [] (maxD os) wf) ?_ rfl
  let E : Mi.Env := [some (voiceV os), some (.str f), some (.int leg)]
  have e1 : sExpr (callP 1 c_need_fault [] (consM (var 1) nilM)) E [] = some (.next, E, []) := by
    simp (decide := true) only [x_sExpr, x_callP, x_consM, x_nilM, x_bnd, x_var, x_ret, bK_ok, vR_some, eK_ok, List.getElem?_cons_succ, List.getElem?_cons_zero, List.length_cons, List.length_nil, List.append_nil, if_true, fault_ok hf, x_sNext, E]
  have mk := mk_walk (st := []) (s1 := []) v h1 h2 W (ms := consM (var 0) (consM (var 2) nilM)) (env := E) rfl
  have hz : (List.length ([] : Sto)) = 0 := rfl
  have m0 : fldV (ownL ["Walk"]) "first_met" (wkS [] (maxD os) wf) (.ref (List.length ([] : Sto))) = some (.ref (List.length ([] : Sto) + 3)) := wkM
  have hh : inD (wkS [] (maxD os) wf) (.str f) (.ref (List.length ([] : Sto) + 3)) = some (.bl (decide (f ∈ wf.met.map (·.1)))) := wk_hit
  unfold c_happens
  rw [x_callS]
  show oR (s_happens E []) = _
  unfold s_happens
  rw [sSeq_next e1, sRet_ok (v := .bl (decide (f ∈ wf.met.map (·.1)))) (s1 := wkS [] (maxD os) wf)]
  · rfl
  · rw [x_bin, show var 1 E [] = some (.ok (.str f), []) from rfl, bK_ok, x_bnd, x_un, mk, bK_ok, x_lift, m0, lR_some, bK_ok, x_lift, hh, lR_some]
def metF (wf : Wk) : List Str := fWords.filter fun f => decide (f ∈ wf.met.map (·.1))
theorem faults_ok (v : VoOk os) (h1 : 1 ≤ leg) (h2 : leg ≤ 1000) (W : Walked os leg wf) : runP c_faults [voiceV os, .int leg] st = some (.ok (.tup ((metF wf).map .str)), st) := by
  refine runP_ok (by show (noRef (voiceV os) && (true && true)) = true; rw [voice_nr]; rfl) (st' := wkS [] (maxD os) wf) ?_ (strs_nr _)
  have mk := mk_walk (st := []) (s1 := []) v h1 h2 W (ms := consM (var 0) (consM (var 1) nilM)) (env := [some (voiceV os), some (.int leg), none, none]) rfl
  have m0 : fldV (ownL ["Walk"]) "first_met" (wkS [] (maxD os) wf) (.ref (List.length ([] : Sto))) = some (.ref (List.length ([] : Sto) + 3)) := wkM
  let E : Mi.Env := [some (voiceV os), some (.int leg), some (.ref 3), none]
  have e1 : sSet 2 (un (fldV (ownL ["Walk"]) "first_met") (makeM "Walk" 3 c_Walk_init [] (consM (var 0) (consM (var 1) nilM)))) (env0 4 [voiceV os, .int leg]) [] = some (.next, E, wkS [] (maxD os) wf) := by
    refine sSet_ok (v := .ref 3) ?_
    show un _ _ [some (voiceV os), some (.int leg), none, none] [] = _
    rw [x_un, mk, bK_ok, x_lift, m0, lR_some]
    rfl
  have e2 := comp_flt (enc := Val.str) (g := Val.str) (P := fun f => decide (f ∈ wf.met.map (·.1))) (as := fWords) (mi := itS (ret (.tup [.str "ahead", .str "behind", .str "crowd", .str "cut", .str "untold"]))) (t := .name 3) (own := [3]) (cond := asB (bin inD (var 3) (var 2))) (elt := var 3) (env := E) (st := wkS [] (maxD os) wf) (s1 := wkS [] (maxD os) wf) rfl (by decide) fun f hf => ⟨[some (voiceV os), some (.int leg), some (.ref 3), some (.str f)], rfl, by
      have hh : inD (wkS [] (maxD os) wf) (.str f) (.ref 3) = some (.bl (decide (f ∈ wf.met.map (·.1)))) := wk_hit (st := [])
      simp only [x_asB, x_bin, x_bnd, x_var, x_lift, bK_ok, lR_some, vR_some, List.getElem?_cons_succ, List.getElem?_cons_zero, hh, asBool_bl], fun _ => rfl⟩
  unfold c_faults
  rw [x_callS]
  unfold s_faults
  rw [sSeq_next e1, sRet_ok (v := .tup ((metF wf).map .str)) (s1 := wkS [] (maxD os) wf)]
  · rfl
  · rw [x_app, x_consM, e2]
    rfl
/-- the least leg with which a fault does not happen -/
def leastOf (W : Int → Wk) (f : Str) (reach : Int) : Option Int := (rgI 1 (reach + 8)).find? fun l => !decide (f ∈ (W l).met.map (·.1))
def optI : Option Int → Val
  | some i => .int i
  | none => .non
abbrev leastB : S := sIf (notB (asB (callP 3 c_happens [] (consM (var 0) (consM (var 1) (consM (var 2) nilM)))))) (sRet (var 2)) sNext
theorem least_loop {f : Str} (hf : f ∈ fWords) (v : VoOk os) (h4 : maxD os ≤ 4) {W : Int → Wk} (hW : ∀ l, 1 ≤ l → l ≤ maxD os + 7 → Walked os l (W l)) : ∀ (ls : List Int) {d2 : Option Val}, (∀ l ∈ ls, 1 ≤ l ∧ l ≤ maxD os + 7) →
    Runs (loop (.name 2) leastB (ls.map .int) [some (voiceV os), some (.str f), d2] []) fun r e s => s = [] ∧ (∃ d2, e = [some (voiceV os), some (.str f), d2]) ∧ r = (match ls.find? (fun l => !decide (f ∈ (W l).met.map (·.1))) with | some x => .ret (.int x) | none => .next)
  | [], d2, _ => by
    show Runs (some (.next, _, [])) _
    exact runs_some.mpr ⟨rfl, ⟨d2, rfl⟩, rfl⟩
  | l :: ls, d2, hl => by
    obtain ⟨b1, b2⟩ := hl l List.mem_cons_self
    have hh := happens_ok (st := []) hf v b1 (by omega) (hW l b1 b2)
    have ct : (notB (asB (callP 3 c_happens [] (consM (var 0) (consM (var 1) (consM (var 2) nilM)))))) [some (voiceV os), some (.str f), some (.int l)] [] = some (.ok (!decide (f ∈ (W l).met.map (·.1))), []) := by
      simp (decide := true) only [x_notB, x_asB, x_callP, x_consM, x_nilM, x_bnd, x_var, x_lift, x_ret, bK_ok, lR_some, vR_some, List.getElem?_cons_succ, List.getElem?_cons_zero, List.length_cons, List.length_nil, List.append_nil, if_true, hh, asBool_bl]
    rw [List.map_cons]
    unfold loop
    rw [show bindT (.name 2) (.int l) [some (voiceV os), some (.str f), d2] = some [some (voiceV os), some (.str f), some (.int l)] from rfl]
    dsimp only
    cases hp : (!decide (f ∈ (W l).met.map (·.1))) with
    | true =>
      rw [hp] at ct
      rw [show leastB [some (voiceV os), some (.str f), some (.int l)] [] = some (.ret (.int l), [some (voiceV os), some (.str f), some (.int l)], []) from (sIf_true ct).trans rfl]
      rw [List.find?_cons_of_pos (by rw [hp])]
      exact runs_some.mpr ⟨rfl, ⟨_, rfl⟩, rfl⟩
    | false =>
      rw [hp] at ct
      rw [show leastB [some (voiceV os), some (.str f), some (.int l)] [] = some (.next, [some (voiceV os), some (.str f), some (.int l)], []) from (sIf_false ct).trans rfl]
      rw [List.find?_cons_of_neg (by rw [hp]; exact Bool.false_ne_true)]
      exact least_loop hf v h4 hW ls fun x hx => hl x (List.mem_cons_of_mem _ hx)
theorem least_ok {f : Str} (hf : f ∈ fWords) (v : VoOk os) (hr : 0 ≤ maxD os) {W : Int → Wk} (hW : ∀ l, 1 ≤ l → l ≤ maxD os + 7 → Walked os l (W l)) : runP c_least_leg [voiceV os, .str f] st = some (.ok (optI (leastOf W f (maxD os))), st) := by
  have h4 := v.reach
  obtain ⟨r, e, s, h, rfl, ⟨d2, rfl⟩, hrr⟩ := least_loop hf v h4 hW (rgI 1 (maxD os + 8)) (d2 := none) fun l hl => by
    obtain ⟨i, hi, rfl⟩ := List.mem_map.mp hl
    have := List.mem_range.mp hi
    omega
  refine runP_ok (by show (noRef (voiceV os) && (true && true)) = true; rw [voice_nr]; rfl) (st' := []) ?_ (by cases leastOf W f (maxD os) <;> rfl)
  let E : Mi.Env := [some (voiceV os), some (.str f), none]
  have e1 : sExpr (callP 1 c_need_fault [] (consM (var 1) nilM)) E [] = some (.next, E, []) := by
    simp (decide := true) only [x_sExpr, x_callP, x_consM, x_nilM, x_bnd, x_var, x_ret, bK_ok, vR_some, eK_ok, List.getElem?_cons_succ, List.getElem?_cons_zero, List.length_cons, List.length_nil, List.append_nil, if_true, fault_ok hf, x_sNext, E]
  have hs : sFor (rng2 (consM (ret (.int 1)) (consM (bin addV (un (fldV (ownL ["Voice"]) "reach") (var 0)) (ret (.int 8))) nilM))) (.name 2) leastB E [] = some (r, [some (voiceV os), some (.str f), d2], []) := by
    unfold sFor
    rw [sBnd_ok (a := (rgI 1 (maxD os + 8)).map .int) (s1 := [])]
    · exact h
    · unfold rng2 rgI
      rw [bnd_ok (a := [.int 1, .int (maxD os + 8)]) (s1 := []) (by simp only [x_consM, x_nilM, x_bin, x_un, x_bnd, x_var, x_lift, x_ret, bK_ok, lR_some, vR_some, List.getElem?_cons_zero, f_reach, addV_int, E]), List.map_map]
      simp only [x_lift]
      rw [if_pos ⟨by decide, by decide, by omega, by omega⟩]
      rfl
  unfold c_least_leg
  rw [x_callS]
  show oR (s_least_leg E []) = _
  unfold s_least_leg
  rw [sSeq_next e1]
  unfold leastOf
  cases hf2 : (rgI 1 (maxD os + 8)).find? (fun l => !decide (f ∈ (W l).met.map (·.1))) with
  | none =>
    rw [hf2] at hrr
    dsimp only at hrr
    subst hrr
    rw [sSeq_next hs]
    rfl
  | some x =>
    rw [hf2] at hrr
    dsimp only at hrr
    subst hrr
    rw [sSeq_ret hs]
    rfl
end
end Pg
namespace Pg
open PySem Mi
open L2 (atI atI_last ixN)
/-! ### what follows tell, plainly -/
def placeOne (ps : List (Option Int)) (l : Int) : Option (List (Option Int)) :=
  if 0 < l then match ps.getLast? with
    | none => some (ps ++ [some (0 + l)])
    | some (some a) => some (ps ++ [some (a + l)])
    | some none => none
  else some (ps ++ [none])
def placeAll : List (Option Int) → List Int → Option (List (Option Int))
  | ps, [] => some ps
  | ps, l :: ls => match placeOne ps l with
    | some ps' => placeAll ps' ls
    | none => none
structure Tl where
  places : List (Option Int)
  steps : Int
  going : List Str
def atTurn (reach : Int) (t : Tl) (f : Flw) : Option (List (Option Int)) := if f.word = "step" ∧ f.near = true then (if t.places = [] then none else some (t.places.dropLast ++ [some (t.steps + 1 + reach)])) else some t.places
def tell1 (reach : Int) (t : Tl) (f : Flw) : Option Tl := match atTurn reach t f with
  | none => none
  | some ps => match placeAll ps f.chosen with
    | none => none
    | some ps' => some ⟨ps', if f.word = "step" then t.steps + 1 else t.steps, if f.word = "" then t.going else t.going ++ [f.word]⟩
def tellAll (reach : Int) : Tl → List Flw → Option Tl
  | t, [] => some t
  | t, f :: fs => match tell1 reach t f with
    | some t' => tellAll reach t' fs
    | none => none
def allInts : List (Option Int) → Option (List Int)
  | [] => some []
  | some a :: ps => match allInts ps with
    | some as => some (a :: as)
    | none => none
  | none :: _ => none
def diffs : Int → List Int → List Int
  | _, [] => []
  | h, t :: ts => (t - h) :: diffs t ts
def lastPlace (t : Tl) (fs : List Flw) : Option (List (Option Int)) := if none ∈ t.places then match fs.getLast? with
    | some f => if f.later.turns = [] then none else some (t.places.dropLast ++ [some (t.steps + lastD f.later.turns)])
    | none => none
  else some t.places
def toldL (fs : List Flw) (reach : Int) : Option (List Int × List Str) := match tellAll reach ⟨[], 0, []⟩ fs with
  | none => none
  | some t => match lastPlace t fs with
    | none => none
    | some ps => match allInts ps with
      | some as => some (diffs 0 as, t.going)
      | none => none
/-! ### as the program does it -/
abbrev tlS (ps : List (Option Int)) (g : List Str) : Sto := [.lst (ps.map optI), .lst (g.map .str)]
abbrev tlE (fs : Val) (reach : Int) (steps : Int) (d2 d3 d7 d8 d9 d10 : Option Val) : Mi.Env := [some fs, some (.int reach), d2, d3, some (.ref 0), some (.int steps), some (.ref 1), d7, d8, d9, d10]
abbrev tlB1 : S := (sIf (asB (bin eqV (un (fldV (ownL ["Follow"]) "word") (var 2)) (ret (.str "step")))) (sSeq (sAug 5 addI (ret (.int 1)))
    (sIf (asB (un (fldV (ownL ["Follow"]) "is_near") (var 2))) (sSub (bin addV (var 5) (var 1)) (var 4) (un (fun _ a => (intOf a).map fun i => .int (-i)) (ret (.int 1)))) sNext)) sNext)
abbrev tlB2 : S := (sIf (asB (bin neV (un (fldV (ownL ["Follow"]) "word") (var 2)) (ret (.str "")))) (sExpr (lm appendV (var 6) (consM (un (fldV (ownL ["Follow"]) "word") (var 2)) nilM))) sNext)
abbrev tlB4 : S := (sSeq (sSet 8 (ifV (asB (bin (cmpV fun i j => decide (j < i)) (app lenV (consM (var 4) nilM)) (ret (.int 0)))) (bin idxV (var 4) (un (fun _ a => (intOf a).map fun i => .int (-i)) (ret (.int 1)))) (ret (.int 0))))
    (sExpr (lm appendV (var 4) (consM (ifV (asB (bin (cmpV fun i j => decide (j < i)) (var 7) (ret (.int 0)))) (bin addV (var 8) (var 7)) (ret .non)) nilM))))
abbrev tlB3 : S := (sFor (itS (un (fldV (ownL ["Follow"]) "chosen") (var 2))) (.name 7) tlB4)
theorem set_last {α : Type} {xs : List α} {v : α} (h : xs ≠ []) : xs.set (xs.length - 1) v = xs.dropLast ++ [v] := by
  obtain ⟨t, ht⟩ : ∃ t, xs.getLast? = some t := by
    cases e : xs.getLast? with
    | none => exact absurd (List.getLast?_eq_none_iff.mp e) h
    | some t => exact ⟨t, rfl⟩
  have hx := snoc_last ht
  generalize xs.dropLast = ys at hx ⊢
  subst hx
  rw [List.set_append, if_neg (by simp)]
  simp
theorem ixN_last {n : Nat} (h : 0 < n) : ixN n (-1) = some (n - 1) := by
  unfold ixN
  rw [if_neg (by decide), if_pos (by omega)]
  congr 1
  omega
section
variable {fsv : Val} {reach steps : Int} {ps : List (Option Int)} {g : List Str} {f : Flw} {d3 d7 d8 d9 d10 : Option Val}
theorem tl_1 (h : atTurn reach ⟨ps, steps, g⟩ f = some ps') : tlB1 (tlE fsv reach steps (some (flwV f)) d3 d7 d8 d9 d10) (tlS ps g) = some (.next, tlE fsv reach (if f.word = "step" then steps + 1 else steps) (some (flwV f)) d3 d7 d8 d9 d10, tlS ps' g) := by
  have ct : asB (bin eqV (un (fldV (ownL ["Follow"]) "word") (var 2)) (ret (.str "step"))) (tlE fsv reach steps (some (flwV f)) d3 d7 d8 d9 d10) (tlS ps g) = some (.ok (f.word == "step"), tlS ps g) := by
    simp only [x_asB, x_bin, x_un, x_bnd, x_var, x_lift, x_ret, bK_ok, lR_some, vR_some, List.getElem?_cons_succ, List.getElem?_cons_zero, f_word, eqV_str, asBool_bl]
  unfold atTurn at h
  by_cases hw : f.word = "step"
  · have hb : (f.word == ("step" : Str)) = true := by rw [hw]; exact beq_self_eq_true _
    rw [hb] at ct
    rw [if_pos hw]
    have hn : asB (un (fldV (ownL ["Follow"]) "is_near") (var 2)) (tlE fsv reach (steps + 1) (some (flwV f)) d3 d7 d8 d9 d10) (tlS ps g) = some (.ok f.near, tlS ps g) := by
      simp only [x_asB, x_un, x_var, x_lift, bK_ok, lR_some, vR_some, List.getElem?_cons_succ, List.getElem?_cons_zero, f_near, asBool_bl]
    unfold tlB1
    rw [sIf_true ct, sSeq_next (e1 := tlE fsv reach (steps + 1) (some (flwV f)) d3 d7 d8 d9 d10) (s1 := tlS ps g) rfl]
    cases hnr : f.near with
    | true =>
      rw [hnr] at h hn
      rw [if_pos ⟨hw, rfl⟩] at h
      split at h
      · cases h
      · rename_i hne
        have hne : ps ≠ [] := hne
        cases h
        rw [sIf_true hn]
        have hl : 0 < (ps.map optI).length := by
          rw [List.length_map]
          cases ps with
          | nil => exact absurd rfl hne
          | cons _ _ => simp
        have hsl : (ps.map optI).set ((ps.map optI).length - 1) (.int (steps + 1 + reach)) = (ps.dropLast ++ [some (steps + 1 + reach)]).map optI := by
          rw [set_last (by intro e; exact hne (List.map_eq_nil_iff.mp e)), ← List.map_dropLast, List.map_append]
          rfl
        have ev : sBnd (bin addV (var 5) (var 1)) (fun v => sBnd (var 4) fun a => sBnd (un (fun _ a => (intOf a).map fun i => .int (-i)) (ret (.int 1))) fun j env st => match a, j with
          | .ref i, .int n => match st[i]? with
            | some (.lst xs) => match ixN xs.length n with
              | some l => some (.next, env, st.set i (.lst (xs.set l v)))
              | none => none
            | _ => none
          | _, _ => none) (tlE fsv reach (steps + 1) (some (flwV f)) d3 d7 d8 d9 d10) (tlS ps g) = some (.next, tlE fsv reach (steps + 1) (some (flwV f)) d3 d7 d8 d9 d10, tlS (ps.dropLast ++ [some (steps + 1 + reach)]) g) := by
          rw [sBnd_ok (a := .int (steps + 1 + reach)) (s1 := tlS ps g) rfl, sBnd_ok (a := .ref 0) (s1 := tlS ps g) rfl, sBnd_ok (a := .int (-1)) (s1 := tlS ps g) rfl]
          show (match ixN (ps.map optI).length (-1) with
            | some l => some (Out.next, tlE fsv reach (steps + 1) (some (flwV f)) d3 d7 d8 d9 d10, (tlS ps g).set 0 (.lst ((ps.map optI).set l (.int (steps + 1 + reach)))))
            | none => none) = _
          rw [ixN_last hl]
          dsimp only
          rw [hsl]
          rfl
        exact ev
    | false =>
      rw [hnr] at h hn
      rw [if_neg (fun z => Bool.false_ne_true z.2)] at h
      cases h
      rw [sIf_false hn]
      rfl
  · have hb : (f.word == ("step" : Str)) = false := beq_eq_false_iff_ne.mpr hw
    rw [hb] at ct
    rw [if_neg (fun z => hw z.1)] at h
    cases h
    rw [if_neg hw]
    unfold tlB1
    rw [sIf_false ct]
    rfl
theorem tl_2 (hg : g.length < 15000000) : tlB2 (tlE fsv reach steps (some (flwV f)) d3 d7 d8 d9 d10) (tlS ps g) = some (.next, tlE fsv reach steps (some (flwV f)) d3 d7 d8 d9 d10, tlS ps (if f.word = "" then g else g ++ [f.word])) := by
  have ct : asB (bin neV (un (fldV (ownL ["Follow"]) "word") (var 2)) (ret (.str ""))) (tlE fsv reach steps (some (flwV f)) d3 d7 d8 d9 d10) (tlS ps g) = some (.ok (!(f.word == "")), tlS ps g) := by
    simp only [x_asB, x_bin, x_un, x_bnd, x_var, x_lift, x_ret, bK_ok, lR_some, vR_some, List.getElem?_cons_succ, List.getElem?_cons_zero, f_word, neV_str, asBool_bl]
  unfold tlB2
  by_cases hw : f.word = ""
  · have hb : (f.word == ("" : Str)) = true := by rw [hw]; exact beq_self_eq_true _
    rw [hb] at ct
    rw [sIf_false ct, if_pos hw]
    rfl
  · have hb : (f.word == ("" : Str)) = false := beq_eq_false_iff_ne.mpr hw
    rw [hb] at ct
    rw [sIf_true ct, if_neg hw]
    have il : isLst (tlS ps g) (.ref 1) = some () := isLst_ref rfl
    have ap : appendV (tlS ps g) (.ref 1) [.str f.word] = some (.non, tlS ps (g ++ [f.word])) := by
      rw [app_ref (xs := g.map .str) rfl (by rw [List.length_map]; omega)]
      show some (Val.non, [SO.lst (ps.map optI), SO.lst (g.map .str ++ [.str f.word])]) = _
      rw [show g.map Val.str ++ [.str f.word] = (g ++ [f.word]).map .str by simp]
    simp only [x_sExpr, x_lm, x_un, x_bnd, x_var, x_lift, x_liftS, x_consM, x_nilM, x_ret, bK_ok, eK_ok, lR_some, lSR_some, vR_some, List.getElem?_cons_succ, List.getElem?_cons_zero, f_word, il, ap, x_sNext]
theorem tl_4 {l : Int} {ps' : List (Option Int)} {d2 : Option Val} (h : placeOne ps l = some ps') (hp : ps.length < 15000000) : ∃ d8', tlB4 (tlE fsv reach steps d2 d3 (some (.int l)) d8 d9 d10) (tlS ps g) = some (.next, tlE fsv reach steps d2 d3 (some (.int l)) d8' d9 d10, tlS ps' g) := by
  have lv : lenV (tlS ps g) [.ref 0] = some (.int (ps.length : Nat)) := by
    rw [len_ref (xs := ps.map optI) rfl, List.length_map]
  have ct : asB (bin (cmpV fun i j => decide (j < i)) (app lenV (consM (var 4) nilM)) (ret (.int 0))) (tlE fsv reach steps d2 d3 (some (.int l)) d8 d9 d10) (tlS ps g) = some (.ok (decide ((0 : Int) < (ps.length : Nat))), tlS ps g) := by
    simp only [x_asB, x_bin, x_app, x_consM, x_nilM, x_ret, x_bnd, x_var, x_lift, bK_ok, lR_some, vR_some, List.getElem?_cons_succ, List.getElem?_cons_zero, lv, x_cmpV, asBool_bl]
  have key : ∀ (a : Val) (p : Option Int), ifV (asB (bin (cmpV fun i j => decide (j < i)) (app lenV (consM (var 4) nilM)) (ret (.int 0)))) (bin idxV (var 4) (un (fun _ a => (intOf a).map fun i => .int (-i)) (ret (.int 1)))) (ret (.int 0)) (tlE fsv reach steps d2 d3 (some (.int l)) d8 d9 d10) (tlS ps g) = some (.ok a, tlS ps g) →
      ifV (asB (bin (cmpV fun i j => decide (j < i)) (var 7) (ret (.int 0)))) (bin addV (var 8) (var 7)) (ret .non) (tlE fsv reach steps d2 d3 (some (.int l)) (some a) d9 d10) (tlS ps g) = some (.ok (optI p), tlS ps g) → ps' = ps ++ [p] →
      ∃ d8', tlB4 (tlE fsv reach steps d2 d3 (some (.int l)) d8 d9 d10) (tlS ps g) = some (.next, tlE fsv reach steps d2 d3 (some (.int l)) d8' d9 d10, tlS ps' g) := fun a p e1 e2 e3 => by
    refine ⟨some a, ?_⟩
    unfold tlB4
    rw [sSeq_next (sSet_ok e1)]
    show sExpr _ (tlE fsv reach steps d2 d3 (some (.int l)) (some a) d9 d10) (tlS ps g) = _
    have il : isLst (tlS ps g) (.ref 0) = some () := isLst_ref rfl
    have ap : appendV (tlS ps g) (.ref 0) [optI p] = some (.non, tlS ps' g) := by
      rw [app_ref (xs := ps.map optI) rfl (by rw [List.length_map]; omega), e3]
      show some (Val.non, [SO.lst (ps.map optI ++ [optI p]), SO.lst (g.map .str)]) = _
      rw [show ps.map optI ++ [optI p] = (ps ++ [p]).map optI by simp]
    simp only [x_sExpr, x_lm, x_bnd, x_var, x_lift, x_liftS, x_consM, x_nilM, x_ret, e2, bK_ok, eK_ok, lR_some, lSR_some, vR_some, List.getElem?_cons_succ, List.getElem?_cons_zero, il, ap, x_sNext]
  have cl : ∀ a : Val, asB (bin (cmpV fun i j => decide (j < i)) (var 7) (ret (.int 0))) (tlE fsv reach steps d2 d3 (some (.int l)) (some a) d9 d10) (tlS ps g) = some (.ok (decide ((0 : Int) < l)), tlS ps g) := fun a => by
    simp only [x_asB, x_bin, x_ret, x_bnd, x_var, x_lift, bK_ok, lR_some, vR_some, List.getElem?_cons_succ, List.getElem?_cons_zero, x_cmpV, asBool_bl]
  have e1 : ∃ a, ifV (asB (bin (cmpV fun i j => decide (j < i)) (app lenV (consM (var 4) nilM)) (ret (.int 0)))) (bin idxV (var 4) (un (fun _ a => (intOf a).map fun i => .int (-i)) (ret (.int 1)))) (ret (.int 0)) (tlE fsv reach steps d2 d3 (some (.int l)) d8 d9 d10) (tlS ps g) = some (.ok a, tlS ps g) ∧ (match ps.getLast? with | none => a = .int 0 | some p => a = optI p) := by
    cases hg : ps.getLast? with
    | none =>
      have e : ps = [] := List.getLast?_eq_none_iff.mp hg
      subst e
      refine ⟨.int 0, ?_, rfl⟩
      rw [ifV_false ct]
      rfl
    | some p =>
      have hx := snoc_last hg
      have hl : decide ((0 : Int) < (ps.length : Nat)) = true := by
        rw [hx]
        simp
      rw [hl] at ct
      refine ⟨optI p, ?_, rfl⟩
      rw [ifV_true ct]
      have ix : idxV (tlS ps g) (.ref 0) (.int (-1)) = some (optI p) := by
        rw [idx_ref (xs := ps.map optI) rfl]
        exact idx_last hg
      simp only [x_bin, x_un, x_ret, x_bnd, x_var, x_lift, bK_ok, lR_some, vR_some, List.getElem?_cons_succ, List.getElem?_cons_zero, intOf_int, Option.map_some, ix]
  obtain ⟨a, ea, ha⟩ := e1
  unfold placeOne at h
  by_cases h0 : 0 < l
  · rw [if_pos h0] at h
    have cl' := cl a
    rw [decide_eq_true h0] at cl'
    cases hg : ps.getLast? with
    | none =>
      rw [hg] at h ha
      cases h
      dsimp only at ha
      refine key a (some (0 + l)) ea ?_ rfl
      rw [ifV_true cl', ha]
      rfl
    | some p =>
      rw [hg] at h ha
      cases p with
      | none => cases h
      | some x =>
        cases h
        dsimp only at ha
        refine key a (some (x + l)) ea ?_ rfl
        rw [ifV_true cl', ha]
        rfl
  · rw [if_neg h0] at h
    cases h
    have cl' := cl a
    rw [decide_eq_false h0] at cl'
    refine key a none ea ?_ rfl
    rw [ifV_false cl']
    rfl
end
end Pg
namespace Pg
open PySem Mi
open L2 (atI atI_last ixN)
theorem placeOne_len {ps ps' : List (Option Int)} {l : Int} (h : placeOne ps l = some ps') : ps'.length = ps.length + 1 := by
  unfold placeOne at h
  split at h
  · split at h
    · cases h
      simp
    · cases h
      simp
    · cases h
  · cases h
    simp
theorem placeAll_len : ∀ {ls : List Int} {ps ps' : List (Option Int)}, placeAll ps ls = some ps' → ps'.length = ps.length + ls.length
  | [], ps, ps', h => by
    cases h
    rfl
  | l :: ls, ps, ps', h => by
    unfold placeAll at h
    split at h
    · rename_i p2 e
      have a := placeOne_len e
      have b := placeAll_len h
      rw [List.length_cons]
      omega
    · cases h
theorem atTurn_len {reach : Int} {t : Tl} {f : Flw} {ps : List (Option Int)} (h : atTurn reach t f = some ps) : ps.length = t.places.length := by
  unfold atTurn at h
  split at h
  · split at h
    · cases h
    · rename_i hne
      cases h
      have : 0 < t.places.length := by
        cases hp : t.places with
        | nil => exact absurd hp hne
        | cons _ _ => simp
      rw [List.length_append, List.length_dropLast]
      show t.places.length - 1 + 1 = _
      omega
  · cases h
    rfl
/-- how much the follows tell -/
def tellSize (fs : List Flw) : Nat := (fs.map fun f => f.chosen.length + 1).sum
section
variable {fsv : Val} {reach : Int} {d3 d9 d10 : Option Val}
theorem tl_3 {steps : Int} {g : List Str} {d2 : Option Val} (f : Flw) (h2 : d2 = some (flwV f)) : ∀ {ls : List Int} {ps ps' : List (Option Int)} {d7 d8 : Option Val}, placeAll ps ls = some ps' → ps.length + ls.length < 15000000 →
    ∃ d7' d8', loop (.name 7) tlB4 (ls.map .int) (tlE fsv reach steps d2 d3 d7 d8 d9 d10) (tlS ps g) = some (.next, tlE fsv reach steps d2 d3 d7' d8' d9 d10, tlS ps' g)
  | [], ps, ps', d7, d8, h, _ => by
    cases h
    exact ⟨d7, d8, rfl⟩
  | l :: ls, ps, ps', d7, d8, h, hl => by
    unfold placeAll at h
    rw [List.length_cons] at hl
    split at h
    · rename_i p2 e
      obtain ⟨d8', e4⟩ := tl_4 (fsv := fsv) (reach := reach) (steps := steps) (g := g) (d3 := d3) (d8 := d8) (d9 := d9) (d10 := d10) (d2 := d2) e (by omega)
      have hp := placeOne_len e
      obtain ⟨d7'', d8'', e5⟩ := tl_3 f h2 (ls := ls) (d7 := some (.int l)) (d8 := d8') h (by omega)
      refine ⟨d7'', d8'', ?_⟩
      rw [List.map_cons]
      unfold loop
      rw [show bindT (.name 7) (.int l) (tlE fsv reach steps d2 d3 d7 d8 d9 d10) = some (tlE fsv reach steps d2 d3 (some (.int l)) d8 d9 d10) from rfl]
      dsimp only
      rw [e4]
      exact e5
    · cases h
abbrev tlB : S := (sSeq tlB1 (sSeq tlB2 tlB3))
theorem tl_loop : ∀ {fs : List Flw} {t t' : Tl} {d2 d7 d8 : Option Val}, tellAll reach t fs = some t' → t.places.length + tellSize fs < 15000000 → t.going.length + tellSize fs < 15000000 →
    ∃ d2' d7' d8', loop (.name 2) tlB (fs.map flwV) (tlE fsv reach t.steps d2 d3 d7 d8 d9 d10) (tlS t.places t.going) = some (.next, tlE fsv reach t'.steps d2' d3 d7' d8' d9 d10, tlS t'.places t'.going)
  | [], t, t', d2, d7, d8, h, _, _ => by
    cases h
    exact ⟨d2, d7, d8, rfl⟩
  | f :: fs, t, t', d2, d7, d8, h, hp, hg => by
    have hsz : tellSize (f :: fs) = f.chosen.length + 1 + tellSize fs := rfl
    rw [hsz] at hp hg
    unfold tellAll at h
    split at h
    · rename_i t2 e
      unfold tell1 at e
      split at e
      · cases e
      · rename_i ps e1
        split at e
        · cases e
        · rename_i ps' e3
          cases e
          have l1 := atTurn_len e1
          have l3 := placeAll_len e3
          have a1 := tl_1 (fsv := fsv) (d3 := d3) (d7 := d7) (d8 := d8) (d9 := d9) (d10 := d10) (steps := t.steps) (ps := t.places) (g := t.going) e1
          have a2 := tl_2 (fsv := fsv) (reach := reach) (steps := if f.word = "step" then t.steps + 1 else t.steps) (f := f) (d3 := d3) (d7 := d7) (d8 := d8) (d9 := d9) (d10 := d10) (ps := ps) (g := t.going) (by omega)
          obtain ⟨d7', d8', a3⟩ := tl_3 (fsv := fsv) (reach := reach) (steps := if f.word = "step" then t.steps + 1 else t.steps) (g := if f.word = "" then t.going else t.going ++ [f.word]) (d3 := d3) (d7 := d7) (d8 := d8) (d9 := d9) (d10 := d10) f rfl e3 (by omega)
          have a3' : tlB3 (tlE fsv reach (if f.word = "step" then t.steps + 1 else t.steps) (some (flwV f)) d3 d7 d8 d9 d10) (tlS ps (if f.word = "" then t.going else t.going ++ [f.word])) = some (.next, tlE fsv reach (if f.word = "step" then t.steps + 1 else t.steps) (some (flwV f)) d3 d7' d8' d9 d10, tlS ps' (if f.word = "" then t.going else t.going ++ [f.word])) := by
            unfold tlB3 sFor
            rw [sBnd_ok (a := f.chosen.map .int) (itS_ok (v := .tup (f.chosen.map .int)) (s1 := tlS ps (if f.word = "" then t.going else t.going ++ [f.word])) (by simp only [x_un, x_var, x_lift, bK_ok, lR_some, vR_some, List.getElem?_cons_succ, List.getElem?_cons_zero, f_chosen]) rfl)]
            exact a3
          obtain ⟨d2'', d7'', d8'', a4⟩ := tl_loop (fs := fs) (d2 := some (flwV f)) (d7 := d7') (d8 := d8') h (by dsimp only; omega) (by
            dsimp only
            split
            · omega
            · rw [List.length_append]
              show t.going.length + 1 + _ < _
              omega)
          refine ⟨d2'', d7'', d8'', ?_⟩
          rw [List.map_cons]
          unfold loop
          rw [show bindT (.name 2) (flwV f) (tlE fsv reach t.steps d2 d3 d7 d8 d9 d10) = some (tlE fsv reach t.steps (some (flwV f)) d3 d7 d8 d9 d10) from rfl]
          dsimp only
          rw [show tlB (tlE fsv reach t.steps (some (flwV f)) d3 d7 d8 d9 d10) (tlS t.places t.going) = some (.next, tlE fsv reach (if f.word = "step" then t.steps + 1 else t.steps) (some (flwV f)) d3 d7' d8' d9 d10, tlS ps' (if f.word = "" then t.going else t.going ++ [f.word])) from (sSeq_next a1).trans ((sSeq_next a2).trans a3')]
          exact a4
    · cases h
end
theorem flat_opt (p : Option Int) : ∃ u, flat (optI p) = some u ∧ L2.eqV u .non = decide (p = none) := by
  cases p with
  | none => exact ⟨.non, rfl, rfl⟩
  | some i => exact ⟨.int i, rfl, rfl⟩
theorem flat_opts : ∀ ps : List (Option Int), ∃ us, allOf flat (ps.map optI) = some us ∧ L2.inV .non us = decide (none ∈ ps)
  | [] => ⟨[], rfl, rfl⟩
  | p :: ps => by
    obtain ⟨u, e1, e2⟩ := flat_opt p
    obtain ⟨us, e3, e4⟩ := flat_opts ps
    refine ⟨u :: us, ?_, ?_⟩
    · rw [List.map_cons]
      unfold allOf
      rw [e1, e3]
    · unfold L2.inV at e4 ⊢
      rw [List.any_cons, e4, e2]
      cases p with
      | none => simp
      | some i => simp
theorem none_in {ps : List (Option Int)} {g : List Str} : inVal (tlS ps g) .non (.ref 0) = some (.bl (decide (none ∈ ps))) := by
  obtain ⟨us, e1, e2⟩ := flat_opts ps
  show (match (some L2.V.non), (some (ps.map optI)) with
    | some x, some ys => match allOf flat ys with
      | some us => some (L2.inV x us)
      | none => none
    | _, _ => none).map Val.bl = _
  dsimp only
  rw [e1]
  dsimp only
  rw [e2]
  rfl
theorem allInts_map : ∀ {ps : List (Option Int)} {as : List Int}, allInts ps = some as → ps = as.map some
  | [], as, h => by
    cases h
    rfl
  | some a :: ps, as, h => by
    unfold allInts at h
    split at h
    · rename_i bs e
      cases h
      rw [allInts_map e]
      rfl
    · cases h
  | none :: ps, as, h => by cases h
theorem diffs_zip : ∀ (as : List Int) (h : Int), ((h :: as.dropLast).zip as).map (fun p => p.2 - p.1) = diffs h as
  | [], h => rfl
  | [a], h => rfl
  | a :: b :: as, h => by
    show (a - h) :: ((a :: (b :: as).dropLast).zip (b :: as)).map (fun p => p.2 - p.1) = _
    rw [diffs_zip (b :: as) a]
    rfl
theorem cut_dropLast {α : Type} (xs : List α) : cutL xs none (some (-1)) = xs.dropLast := by
  cases h : xs.getLast? with
  | none =>
    have e : xs = [] := List.getLast?_eq_none_iff.mp h
    subst e
    unfold cutL
    simp
  | some t =>
    have hx := snoc_last h
    generalize xs.dropLast = ys at hx ⊢
    subst hx
    exact cut_last ys t
theorem list11 {l : Mi.Env} {v : Option Val} (hl : l.length = 11) (h4 : l[4]? = some v) : ∃ x0 x1 x2 x3 x5 x6 x7 x8 x9 x10, l = [x0, x1, x2, x3, v, x5, x6, x7, x8, x9, x10] :=
  match l, hl, h4 with
  | [a0, a1, a2, a3, a4, a5, a6, a7, a8, a9, a10], _, h4 => by
    have e : a4 = v := Option.some.inj h4
    subst e
    exact ⟨a0, a1, a2, a3, a5, a6, a7, a8, a9, a10, rfl⟩
abbrev tlRoad : M Val := (borS (compS (zipM (consM (mkLst (consM (ret (.int 0)) (starM (sliceM (var 4) nopart (part (un (fun _ a => (intOf a).map fun i => .int (-i)) (ret (.int 1))))) nilM))) (consM (var 4) nilM))) (.tup [.name 9, .name 10]) [9, 10] yes (bin subV (var 10) (var 9))))
abbrev tlEnd : S := (sIf (asB (bin inVal (ret .non) (var 4))) (sSub (bin addV (var 5) (bin idxV (bin idxV (bin idxV (un (fldV (ownL ["Follow"]) "later") (bin idxV (var 0) (un (fun _ a => (intOf a).map fun i => .int (-i)) (ret (.int 1))))) (ret (.int 0))) (un (fun _ a => (intOf a).map fun i => .int (-i)) (ret (.int 1)))) (ret (.int 0)))) (var 4) (un (fun _ a => (intOf a).map fun i => .int (-i)) (ret (.int 1)))) sNext)
theorem tl_end {fs : List Flw} {reach : Int} {t : Tl} {ps : List (Option Int)} {d2 d3 d7 d8 d9 d10 : Option Val} (h : lastPlace t fs = some ps) : tlEnd (tlE (.lst (fs.map flwV)) reach t.steps d2 d3 d7 d8 d9 d10) (tlS t.places t.going) = some (.next, tlE (.lst (fs.map flwV)) reach t.steps d2 d3 d7 d8 d9 d10, tlS ps t.going) := by
  have ct : asB (bin inVal (ret .non) (var 4)) (tlE (.lst (fs.map flwV)) reach t.steps d2 d3 d7 d8 d9 d10) (tlS t.places t.going) = some (.ok (decide (none ∈ t.places)), tlS t.places t.going) := by
    simp only [x_asB, x_bin, x_bnd, x_var, x_lift, x_ret, bK_ok, lR_some, vR_some, List.getElem?_cons_succ, List.getElem?_cons_zero, none_in, asBool_bl]
  unfold lastPlace at h
  by_cases hn : none ∈ t.places
  · rw [decide_eq_true hn] at ct
    rw [if_pos hn] at h
    unfold tlEnd
    rw [sIf_true ct]
    split at h
    · rename_i f hf
      split at h
      · cases h
      · rename_i hne
        cases h
        obtain ⟨u, hu⟩ : ∃ u, f.later.turns.getLast? = some u := by
          cases e : f.later.turns.getLast? with
          | none => exact absurd (List.getLast?_eq_none_iff.mp e) hne
          | some u => exact ⟨u, rfl⟩
        have hp : t.places ≠ [] := by
          intro e
          rw [e] at hn
          cases hn
        have hl : 0 < (t.places.map optI).length := by
          rw [List.length_map]
          cases hq : t.places with
          | nil => exact absurd hq hp
          | cons _ _ => simp
        have i1 : idxV (tlS t.places t.going) (.lst (fs.map flwV)) (.int (-1)) = some (flwV f) := by
          rw [idx_lst]
          exact idx_last hf
        have i2 : idxV (tlS t.places t.going) (sttV f.later) (.int 0) = some (.tup (tsV f.later.turns)) := rfl
        have i3 : idxV (tlS t.places t.going) (.tup (tsV f.later.turns)) (.int (-1)) = some (.tup (turnL u)) := idx_last (f := fun t => Val.tup (turnL t)) hu
        have i4 : idxV (tlS t.places t.going) (.tup (turnL u)) (.int 0) = some (.int u.d) := rfl
        have hld : lastD f.later.turns = u.d := by
          unfold lastD
          rw [hu]
        rw [hld]
        have hsl : (t.places.map optI).set ((t.places.map optI).length - 1) (.int (t.steps + u.d)) = (t.places.dropLast ++ [some (t.steps + u.d)]).map optI := by
          rw [set_last (by intro e; exact hp (List.map_eq_nil_iff.mp e)), ← List.map_dropLast, List.map_append]
          rfl
        unfold sSub
        rw [sBnd_ok (a := .int (t.steps + u.d)) (s1 := tlS t.places t.going) (by
          simp only [x_bin, x_un, x_bnd, x_var, x_lift, x_ret, bK_ok, lR_some, vR_some, List.getElem?_cons_succ, List.getElem?_cons_zero, intOf_int, Option.map_some, i1, f_later, i2, i3, i4, addV_int]), sBnd_ok (a := .ref 0) (s1 := tlS t.places t.going) rfl, sBnd_ok (a := .int (-1)) (s1 := tlS t.places t.going) rfl]
        show (match ixN (t.places.map optI).length (-1) with
          | some l => some (Out.next, tlE (.lst (fs.map flwV)) reach t.steps d2 d3 d7 d8 d9 d10, (tlS t.places t.going).set 0 (.lst ((t.places.map optI).set l (.int (t.steps + u.d)))))
          | none => none) = _
        rw [ixN_last hl]
        dsimp only
        rw [hsl]
        rfl
    · cases h
  · rw [decide_eq_false hn] at ct
    rw [if_neg hn] at h
    cases h
    unfold tlEnd
    rw [sIf_false ct]
    rfl
theorem told_ok {fs : List Flw} {reach : Int} {road : List Int} {going : List Str} {st : Sto} (h : toldL fs reach = some (road, going)) (hsz : tellSize fs < 14000000) : runP c_told_story [.lst (fs.map flwV), .int reach] st = some (.ok (.tup [.tup (road.map .int), .tup (going.map .str)]), st) := by
  unfold toldL at h
  split at h
  · cases h
  · rename_i t e1
    split at h
    · cases h
    · rename_i ps e2
      split at h
      · rename_i as e3
        cases h
        have hps := allInts_map e3
        obtain ⟨d2, d7, d8, e4⟩ := tl_loop (fsv := .lst (fs.map flwV)) (reach := reach) (d3 := none) (d9 := none) (d10 := none) (d2 := none) (d7 := none) (d8 := none) e1 (by show 0 + _ < _; omega) (by show 0 + _ < _; omega)
        have hplen : ∀ {fs : List Flw} {t t' : Tl}, tellAll reach t fs = some t' → t'.places.length ≤ t.places.length + tellSize fs ∧ t'.going.length ≤ t.going.length + tellSize fs := by
          intro fs
          induction fs with
          | nil =>
            intro t t' h
            cases h
            exact ⟨Nat.le_refl _, Nat.le_refl _⟩
          | cons f fs ih =>
            intro t t' h
            have hz : tellSize (f :: fs) = f.chosen.length + 1 + tellSize fs := rfl
            unfold tellAll at h
            split at h
            · rename_i t2 e
              unfold tell1 at e
              split at e
              · cases e
              · rename_i ps e1
                split at e
                · cases e
                · rename_i ps' e3
                  cases e
                  have l1 := atTurn_len e1
                  have l3 := placeAll_len e3
                  obtain ⟨a1, a2⟩ := ih h
                  dsimp only at a1 a2
                  refine ⟨by omega, ?_⟩
                  split at a2
                  · omega
                  · rw [List.length_append] at a2
                    simp only [List.length_cons, List.length_nil] at a2
                    omega
            · cases h
        obtain ⟨q1, q2⟩ := hplen e1
        have q1 : t.places.length ≤ 0 + tellSize fs := q1
        have hpsl : ps.length ≤ t.places.length + 1 := by
          unfold lastPlace at e2
          split at e2
          · split at e2
            · split at e2
              · cases e2
              · cases e2
                rw [List.length_append, List.length_dropLast]
                simp only [List.length_cons, List.length_nil]
                omega
            · cases e2
          · cases e2
            omega
        have hasl : as.length ≤ 14000001 := by
          have := congrArg List.length hps
          rw [List.length_map] at this
          omega
        let E : Mi.Env := tlE (.lst (fs.map flwV)) reach t.steps d2 none d7 d8 none none
        have hoE : ps.map optI = as.map .int := by
          rw [hps, List.map_map]
          rfl
        have hsnap : ∃ x0 x1 x2 x3 x5 x6 x7 x8 x9 x10, snapED (tlS ps t.going) E = [x0, x1, x2, x3, some (.lst (as.map .int)), x5, x6, x7, x8, x9, x10] := by
          have h4 : snapD (tlS ps t.going) 9 (.ref 0) = some (.lst (ps.map optI)) := snapD_lst rfl (by rw [hoE]; exact noRefs_map (fun _ => rfl) _)
          refine list11 rfl ?_
          show some ((some (Val.ref 0)).bind (snapD (tlS ps t.going) 9)) = _
          rw [show (some (Val.ref 0)).bind (snapD (tlS ps t.going) 9) = snapD (tlS ps t.going) 9 (.ref 0) from rfl, h4, hoE]
        have hroad : tlRoad E (tlS ps t.going) = some (.ok (.ref 2), tlS ps t.going ++ [.lst ((diffs 0 as).map .int)]) := by
          obtain ⟨x0, x1, x2, x3, x5, x6, x7, x8, x9, x10, hs⟩ := hsnap
          let E2 : Mi.Env := [x0, x1, x2, x3, some (.lst (as.map .int)), x5, x6, x7, x8, x9, x10]
          have hz : zipM (consM (mkLst (consM (ret (.int 0)) (starM (sliceM (var 4) nopart (part (un (fun _ a => (intOf a).map fun i => .int (-i)) (ret (.int 1))))) nilM))) (consM (var 4) nilM)) E2 [] = some (.ok (((0 :: as.dropLast).zip as).map fun p => .tup [.int p.1, .int p.2]), []) := by
            have cd : cutL (as.map Val.int) none (some (-1)) = as.dropLast.map .int := by rw [cut_dropLast, List.map_dropLast]
            have sq : seqOf [] (.lst (as.dropLast.map .int)) = some (as.dropLast.map .int) := rfl
            have hml : (Val.int 0 :: (as.dropLast.map Val.int ++ [])).length ≤ LIM := by
              rw [List.length_cons, List.append_nil, List.length_map, List.length_dropLast]
              show _ ≤ 16000000
              omega
            have e5 : mkLst (consM (ret (.int 0)) (starM (sliceM (var 4) nopart (part (un (fun _ a => (intOf a).map fun i => .int (-i)) (ret (.int 1))))) nilM)) E2 [] = some (.ok (.lst (.int 0 :: as.dropLast.map .int)), []) := by
              rw [mkLst_ok (vs := Val.int 0 :: (as.dropLast.map Val.int ++ [])) (s1 := []) (by
                simp only [x_consM, x_starM, x_sliceM, x_nopart, x_part, x_un, x_bnd, x_var, x_lift, x_ret, x_nilM, bK_ok, lR_some, vR_some, List.getElem?_cons_succ, List.getElem?_cons_zero, intOf_int, Option.map_some, cutVal_lst, cd, sq, E2]) hml]
              rw [List.append_nil]
            unfold zipM
            rw [bnd_ok (a := [.lst (.int 0 :: as.dropLast.map .int), .lst (as.map .int)]) (s1 := []) (consM_ok e5 (consM_ok (v := .lst (as.map .int)) rfl nilM_ok)), x_lift]
            show lR (some ((((Val.int 0 :: as.dropLast.map .int).zip (as.map .int))).map fun p => Val.tup [p.1, p.2])) [] = _
            rw [show (Val.int 0 :: as.dropLast.map .int) = (0 :: as.dropLast).map .int from rfl, List.zip_map, List.map_map]
            rfl
          have hc := comp_gen (enc := fun p : Int × Int => Val.tup [.int p.1, .int p.2]) (g := fun p : Int × Int => Val.int (p.2 - p.1)) (as := (0 :: as.dropLast).zip as) (t := .tup [.name 9, .name 10]) (own := [9, 10]) (elt := bin subV (var 10) (var 9)) (env := E2) (st := []) (s1 := []) hz (by
            rw [List.length_zip]
            omega) fun p hp => ⟨[x0, x1, x2, x3, some (.lst (as.map .int)), x5, x6, x7, x8, some (.int p.1), some (.int p.2)], rfl, rfl⟩
          have hcs : compS (zipM (consM (mkLst (consM (ret (.int 0)) (starM (sliceM (var 4) nopart (part (un (fun _ a => (intOf a).map fun i => .int (-i)) (ret (.int 1))))) nilM))) (consM (var 4) nilM))) (.tup [.name 9, .name 10]) [9, 10] yes (bin subV (var 10) (var 9)) E2 [] = some (.ok (.ref 0), [.lst ((diffs 0 as).map .int)]) := by
            unfold comp at hc
            unfold compS
            cases hq : compM (zipM (consM (mkLst (consM (ret (.int 0)) (starM (sliceM (var 4) nopart (part (un (fun _ a => (intOf a).map fun i => .int (-i)) (ret (.int 1))))) nilM))) (consM (var 4) nilM))) (.tup [.name 9, .name 10]) [9, 10] yes (bin subV (var 10) (var 9)) E2 [] with
            | none =>
              rw [x_bnd, hq] at hc
              cases hc
            | some r =>
              obtain ⟨r, s⟩ := r
              cases r with
              | error x =>
                rw [x_bnd, hq] at hc
                cases hc
              | ok vs =>
                rw [x_bnd, hq, bK_ok] at hc
                cases hc
                rw [x_bnd, hq, bK_ok, x_liftS]
                show some (Except.ok (Val.ref 0), [SO.lst _]) = _
                rw [← diffs_zip as 0, List.map_map]
                rfl
          have hpl : ∀ l : List Int, plains (l.map Val.int) = true := fun l => by
            induction l with
            | nil => rfl
            | cons a l ih => exact ih
          exact borS_ok (j := 0) (by rw [hs]; exact hcs) rfl (hpl _)
        refine runP_ok (st' := tlS ps t.going ++ [.lst ((diffs 0 as).map .int)]) ?_ ?_ ?_
        · show (noRefs (fs.map flwV) && (true && true)) = true
          rw [noRefs_map flwV_nr]
          rfl
        · unfold c_told_story
          rw [x_callS]
          let E0 : Mi.Env := tlE (.lst (fs.map flwV)) reach 0 none none none none none none
          have s1 : sPar3 4 5 6 (consM (mkLstM nilM) (consM (ret (.int 0)) (consM (mkLstM nilM) nilM))) (env0 11 [.lst (fs.map flwV), .int reach]) [] = some (.next, E0, tlS [] []) := by
            unfold sPar3
            rw [sBnd_ok (a := [.ref 0, .int 0, .ref 1]) (s1 := tlS [] []) (by simp (decide := true))]
            rfl
          have s2 : sFor (itS (var 0)) (.name 2) tlB E0 (tlS [] []) = some (.next, E, tlS t.places t.going) := by
            unfold sFor
            rw [sBnd_ok (a := fs.map flwV) (s1 := tlS [] []) (itS_ok (v := .lst (fs.map flwV)) rfl rfl)]
            exact e4
          have s3 := tl_end (reach := reach) (d2 := d2) (d3 := none) (d7 := d7) (d8 := d8) (d9 := none) (d10 := none) e2
          unfold s_told_story
          rw [sSeq_next s1]
          rw [sSeq_next s2, sSeq_next s3]
          rw [sSeq_next (sSet_ok (i := 3) hroad)]
          have tl1 : tupleV (tlS ps t.going ++ [.lst ((diffs 0 as).map .int)]) [.ref 2] = some (.tup ((diffs 0 as).map .int)) := rfl
          have tl2 : tupleV (tlS ps t.going ++ [.lst ((diffs 0 as).map .int)]) [.ref 1] = some (.tup (t.going.map .str)) := rfl
          rw [sRet_ok (v := .tup [.tup ((diffs 0 as).map .int), .tup (t.going.map .str)]) (s1 := tlS ps t.going ++ [.lst ((diffs 0 as).map .int)])]
          · rfl
          · exact mkTup_ok (consM_ok (app_ok (consM_ok (v := .ref 2) rfl nilM_ok) tl1) (consM_ok (app_ok (consM_ok (v := .ref 1) rfl nilM_ok) tl2) nilM_ok)) (by show 2 ≤ 16000000; decide)
        · show (noRefs ((diffs 0 as).map .int) && (noRefs (t.going.map .str) && true)) = true
          rw [noRefs_map (fun _ => rfl), noRefs_map (fun _ => rfl)]
          rfl
      · cases h
end Pg
namespace Pg
open PySem Mi
open L2 (atI atI_last ixN)
/-! ### stories -/
def comeOf : List Stt → List (Flw × Option Stt) → Stt → Option (Flw × Option Stt)
  | a :: as, c :: cs, s => if a = s then some c else comeOf as cs s
  | _, _, _ => none
def metOf : List (Str × Flw × Stt) → Str → Option (Flw × Stt)
  | p :: ps, x => if p.1 = x then some p.2 else metOf ps x
  | [], _ => none
def backGo (wf : Wk) : Nat → Option Stt → List Flw → Option (List Flw)
  | 0, _, _ => none
  | _ + 1, none, fs => some fs
  | n + 1, some s, fs => match comeOf wf.order wf.came s with
    | some c => backGo wf n c.2 (fs ++ [c.1])
    | none => none
theorem backGo_len {wf : Wk} : ∀ (n : Nat) {a : Option Stt} {fs fs' : List Flw}, backGo wf n a fs = some fs' → fs.length ≤ fs'.length
  | 0, _, _, _, h => by cases h
  | n + 1, none, fs, fs', h => by
    cases h
    exact Nat.le_refl _
  | n + 1, some s, fs, fs', h => by
    unfold backGo at h
    split at h
    · have := backGo_len n h
      rw [List.length_append] at this
      omega
    · cases h
theorem backGo_mono {wf : Wk} : ∀ (n m : Nat) {a : Option Stt} {fs fs' : List Flw}, n ≤ m → backGo wf n a fs = some fs' → backGo wf m a fs = some fs'
  | 0, _, _, _, _, _, h => by cases h
  | n + 1, 0, _, _, _, hm, h => by omega
  | n + 1, m + 1, none, fs, fs', _, h => h
  | n + 1, m + 1, some s, fs, fs', hm, h => by
    unfold backGo at h ⊢
    split at h
    · rename_i c e
      exact backGo_mono n m (by omega) h
    · cases h
structure Told (wf : Wk) (reach : Int) (x : Str) (road : List Int) (going : List Str) : Prop where
  by' : ∃ f s n fs, metOf wf.met x = some (f, s) ∧ n ≤ 16000000 ∧ backGo wf n (some s) [f] = some fs ∧ fs.length < 15000000 ∧ tellSize fs.reverse < 14000000 ∧ toldL fs.reverse reach = some (road, going)
theorem atN_come {s : Stt} : ∀ {os : List Stt} {cs : List (Flw × Option Stt)}, atN (nkS s) (os.map sttV) (cs.map cameV) = (comeOf os cs s).map cameV
  | [], cs => by
    cases cs <;> rfl
  | a :: os, [] => rfl
  | a :: os, c :: cs => by
    rw [List.map_cons, List.map_cons]
    unfold atN comeOf
    rw [key_stt]
    by_cases h : a = s
    · subst h
      rw [if_pos rfl, if_pos rfl]
      rfl
    · rw [if_neg (fun z => h (nkS_inj _ _ (Option.some.inj z))), if_neg h]
      exact atN_come
theorem atK_met {x : Str} : ∀ {ps : List (Str × Flw × Stt)}, atKx (.inr x) (ps.map fun p => (Sum.inr p.1 : Sum Int Str)) (ps.map metFV) = (metOf ps x).map fun p => .tup [flwV p.1, sttV p.2]
  | [] => rfl
  | p :: ps => by
    rw [List.map_cons, List.map_cons]
    unfold atKx metOf
    by_cases h : p.1 = x
    · rw [if_pos (by rw [h]), if_pos h]
      rfl
    · rw [if_neg (fun z => h (Sum.inr.inj z)), if_neg h]
      exact atK_met
abbrev stS (st : Sto) (reach : Int) (wf : Wk) (fs : List Flw) : Sto := wkS st reach wf ++ [.lst (fs.map flwV)]
abbrev stE (b : Nat) (x : Str) (d2 d3 d4 : Option Val) : Mi.Env := [some (.ref b), some (.str x), d2, d3, d4]
abbrev stB : S := (sSeq (sSetT (.tup [.name 3, .name 4]) (bin getD (un (fldV (ownL ["Walk"]) "came_by") (var 0)) (var 4)))
    (sExpr (lm appendV (var 2) (consM (var 3) nilM))))
abbrev stC : M Bool := (asB (bin notNV (var 4) (ret .non)))
section
variable {st : Sto} {reach : Int} {wf : Wk} {x : Str}
theorem wkS_len : (wkS st reach wf).length = st.length + 4 := by simp
theorem stS_at {fs : List Flw} {i : Nat} {o : SO} (h : (wkS st reach wf)[i]? = some o) : (stS st reach wf fs)[i]? = some o := by
  rw [List.getElem?_append_left (at_lt h)]
  exact h
theorem stS_l {fs : List Flw} : (stS st reach wf fs)[st.length + 4]? = some (.lst (fs.map flwV)) := by
  rw [List.getElem?_append_right (by rw [wkS_len]; exact Nat.le_refl _), wkS_len, Nat.sub_self]
  rfl
theorem back_loop {b : Nat} (hb : b = st.length) : ∀ (n : Nat) {a : Option Stt} {fs fs' : List Flw} {d3 : Option Val}, backGo wf n a fs = some fs' → fs'.length < 15000000 →
    ∃ d3' d4', sWhile stC stB n (stE b x (some (.ref (st.length + 4))) d3 (some (atV a))) (stS st reach wf fs) = some (.next, stE b x (some (.ref (st.length + 4))) d3' d4', stS st reach wf fs')
  | 0, _, _, _, _, h, _ => by cases h
  | n + 1, none, fs, fs', d3, h, hl => by
    cases h
    refine ⟨d3, some .non, while_end ?_⟩
    simp only [x_asB, x_bin, x_bnd, x_var, x_lift, x_ret, bK_ok, lR_some, vR_some, List.getElem?_cons_succ, List.getElem?_cons_zero, atV, notNV_non, asBool_bl]
  | n + 1, some s, fs, fs', d3, h, hl => by
    subst hb
    unfold backGo at h
    split at h
    · rename_i c e
      have hlen := backGo_len n h
      rw [List.length_append] at hlen
      have ct : stC (stE st.length x (some (.ref (st.length + 4))) d3 (some (sttV s))) (stS st reach wf fs) = some (.ok true, stS st reach wf fs) := by
        have : notNV (stS st reach wf fs) (sttV s) .non = some (.bl true) := notNV_tup
        simp only [x_asB, x_bin, x_bnd, x_var, x_lift, x_ret, bK_ok, lR_some, vR_some, List.getElem?_cons_succ, List.getElem?_cons_zero, this, asBool_bl]
      have fc : fldV (ownL ["Walk"]) "came_by" (stS st reach wf fs) (.ref st.length) = some (.ref (st.length + 2)) := by rw [fld_ref (stS_at wk0) (by decide)]; rfl
      have gd : getD (stS st reach wf fs) (.ref (st.length + 2)) (sttV s) = some (cameV c) := by
        unfold getD
        dsimp only
        rw [stS_at wk2]
        dsimp only
        rw [key_stt]
        dsimp only
        rw [atN_come, e]
        rfl
      have e1 : sSetT (.tup [.name 3, .name 4]) (bin getD (un (fldV (ownL ["Walk"]) "came_by") (var 0)) (var 4)) (stE st.length x (some (.ref (st.length + 4))) d3 (some (sttV s))) (stS st reach wf fs) = some (.next, stE st.length x (some (.ref (st.length + 4))) (some (flwV c.1)) (some (atV c.2)), stS st reach wf fs) := by
        rw [x_sSetT, x_bin, x_un, x_var]
        show eK (bK (bK (some (Except.ok (Val.ref st.length), stS st reach wf fs)) _ _) _ _) _ _ = _
        rw [bK_ok, x_lift, fc, lR_some, bK_ok, x_bnd, x_var]
        show eK (bK (some (Except.ok (sttV s), stS st reach wf fs)) _ _) _ _ = _
        rw [bK_ok, x_lift, gd, lR_some, eK_ok]
        rfl
      have il : isLst (stS st reach wf fs) (.ref (st.length + 4)) = some () := isLst_ref stS_l
      have ap : appendV (stS st reach wf fs) (.ref (st.length + 4)) [flwV c.1] = some (.non, stS st reach wf (fs ++ [c.1])) := by
        rw [app_ref stS_l (by rw [List.length_map]; omega)]
        congr 2
        show (wkS st reach wf ++ SO.lst (fs.map flwV) :: []).set (st.length + 4) _ = _
        rw [← wkS_len (st := st) (reach := reach) (wf := wf), set_mid]
        show _ = wkS st reach wf ++ [SO.lst ((fs ++ [c.1]).map flwV)]
        rw [List.map_append]
        rfl
      have e2 : sExpr (lm appendV (var 2) (consM (var 3) nilM)) (stE st.length x (some (.ref (st.length + 4))) (some (flwV c.1)) (some (atV c.2))) (stS st reach wf fs) = some (.next, stE st.length x (some (.ref (st.length + 4))) (some (flwV c.1)) (some (atV c.2)), stS st reach wf (fs ++ [c.1])) := by
        simp only [x_sExpr, x_lm, x_bnd, x_var, x_lift, x_liftS, x_consM, x_nilM, x_ret, bK_ok, eK_ok, lR_some, lSR_some, vR_some, List.getElem?_cons_succ, List.getElem?_cons_zero, il, ap, x_sNext]
      have eb : stB (stE st.length x (some (.ref (st.length + 4))) d3 (some (sttV s))) (stS st reach wf fs) = some (.next, stE st.length x (some (.ref (st.length + 4))) (some (flwV c.1)) (some (atV c.2)), stS st reach wf (fs ++ [c.1])) := (sSeq_next e1).trans e2
      obtain ⟨d3', d4', e3⟩ := back_loop (b := st.length) rfl n (d3 := some (flwV c.1)) h hl
      exact ⟨d3', d4', (while_next ct eb (.inl rfl)).trans e3⟩
    · cases h
theorem story_none (h : ¬ x ∈ wf.met.map (·.1)) : c_Walk_story_of [.ref st.length, .str x] (wkS st reach wf) = some (.ok .non, wkS st reach wf) := by
  unfold c_Walk_story_of
  rw [x_callS]
  have ct : asB (bin notInD (var 1) (un (fldV (ownL ["Walk"]) "first_met") (var 0))) (stE st.length x none none none) (wkS st reach wf) = some (.ok true, wkS st reach wf) := by
    simp only [x_asB, x_bin, x_un, x_bnd, x_var, x_lift, bK_ok, lR_some, vR_some, List.getElem?_cons_succ, List.getElem?_cons_zero, wkM, wk_inM, asBool_bl, decide_eq_false h, Bool.not_false]
  unfold s_Walk_story_of
  show oR (sSeq (sIf _ _ _) _ (stE st.length x none none none) _) = _
  rw [sSeq_ret (e1 := stE st.length x none none none) (s1 := wkS st reach wf) (v := .non) ((sIf_true ct).trans rfl)]
  rfl
theorem metOf_mem {x : Str} : ∀ {ps : List (Str × Flw × Stt)} {p : Flw × Stt}, metOf ps x = some p → x ∈ ps.map (·.1)
  | [], _, h => by cases h
  | q :: ps, p, h => by
    unfold metOf at h
    rw [List.map_cons]
    by_cases e : q.1 = x
    · rw [e]
      exact List.mem_cons_self
    · rw [if_neg e] at h
      exact List.mem_cons_of_mem _ (metOf_mem h)
theorem story_told {road : List Int} {going : List Str} (h : Told wf reach x road going) : ∃ st', c_Walk_story_of [.ref st.length, .str x] (wkS st reach wf) = some (.ok (.tup [.tup (road.map .int), .tup (going.map .str)]), st') := by
  obtain ⟨f, s, n, fs, h1, h2, h3, h4, h5, h6⟩ := h.by'
  have h3' := backGo_mono n 16000000 h2 h3
  have ct : asB (bin notInD (var 1) (un (fldV (ownL ["Walk"]) "first_met") (var 0))) (stE st.length x none none none) (wkS st reach wf) = some (.ok false, wkS st reach wf) := by
    simp only [x_asB, x_bin, x_un, x_bnd, x_var, x_lift, bK_ok, lR_some, vR_some, List.getElem?_cons_succ, List.getElem?_cons_zero, wkM, wk_inM, asBool_bl, decide_eq_true (metOf_mem h1), Bool.not_true]
  have gd : getD (wkS st reach wf) (.ref (st.length + 3)) (.str x) = some (.tup [flwV f, sttV s]) := by
    unfold getD
    dsimp only
    rw [wk3]
    dsimp only
    rw [show keyV (.str x) = some (.inr x) from rfl]
    dsimp only
    rw [atK_met, h1]
    rfl
  have e1 : sSetT (.tup [.name 3, .name 4]) (bin getD (un (fldV (ownL ["Walk"]) "first_met") (var 0)) (var 1)) (stE st.length x none none none) (wkS st reach wf) = some (.next, stE st.length x none (some (flwV f)) (some (sttV s)), wkS st reach wf) := by
    rw [x_sSetT, x_bin, x_un, x_var]
    show eK (bK (bK (some (Except.ok (Val.ref st.length), wkS st reach wf)) _ _) _ _) _ _ = _
    rw [bK_ok, x_lift, wkM, lR_some, bK_ok, x_bnd, x_var]
    show eK (bK (some (Except.ok (Val.str x), wkS st reach wf)) _ _) _ _ = _
    rw [bK_ok, x_lift, gd, lR_some, eK_ok]
    rfl
  have e2 : sSet 2 (mkLstM (consM (var 3) nilM)) (stE st.length x none (some (flwV f)) (some (sttV s))) (wkS st reach wf) = some (.next, stE st.length x (some (.ref (st.length + 4))) (some (flwV f)) (some (sttV s)), stS st reach wf [f]) := by
    rw [sSet_ok (v := .ref (wkS st reach wf).length) (s1 := wkS st reach wf ++ [.lst [flwV f]])]
    · rw [wkS_len]
      rfl
    · exact mkLstM_ok (consM_ok (v := flwV f) rfl nilM_ok) (by show 1 ≤ 16000000; decide)
  obtain ⟨d3, d4, e3⟩ := back_loop (st := st) (reach := reach) (x := x) (b := st.length) rfl 16000000 (d3 := some (flwV f)) h3' h4
  have ta : atV (some s) = sttV s := rfl
  rw [ta] at e3
  have rv : revV (stS st reach wf fs) (.ref (st.length + 4)) = some (.lst (fs.reverse.map flwV)) := by
    show (lstOf (stS st reach wf fs) (.ref (st.length + 4))).map _ = _
    rw [lst_ref stS_l, List.map_reverse]
    rfl
  have fr : fldV (ownL ["Walk"]) "reach" (stS st reach wf fs) (.ref st.length) = some (.int reach) := by rw [fld_ref (stS_at wk0) (by decide)]; rfl
  have td := told_ok (st := stS st reach wf fs) h6 h5
  refine ⟨stS st reach wf fs, ?_⟩
  unfold c_Walk_story_of
  rw [x_callS]
  unfold s_Walk_story_of
  show oR (sSeq _ _ (stE st.length x none none none) _) = _
  rw [sSeq_next (e1 := stE st.length x none none none) (s1 := wkS st reach wf) ((sIf_false ct).trans rfl), sSeq_next e1, sSeq_next e2, sSeq_next e3, sRet_ok (v := .tup [.tup (road.map .int), .tup (going.map .str)]) (s1 := stS st reach wf fs)]
  · rfl
  · simp (decide := true) only [x_callP, x_consM, x_nilM, x_un, x_bnd, x_var, x_lift, x_ret, bK_ok, lR_some, vR_some, List.getElem?_cons_succ, List.getElem?_cons_zero, List.length_cons, List.length_nil, List.append_nil, if_true, rv, fr, td]
end
section
variable {os : List One} {st : Sto} {leg : Int} {wf : Wk} {f : Str}
theorem story_head (hf : f ∈ fWords) (v : VoOk os) (h1 : 1 ≤ leg) (h2 : leg ≤ 1000) (W : Walked os leg wf) {z : Val} {st' : Sto} (hc : c_Walk_story_of [.ref (List.length ([] : Sto)), .str f] (wkS [] (maxD os) wf) = some (.ok z, st')) (hz : noRef z = true) : runP c_story [voiceV os, .str f, .int leg] st = some (.ok z, st) := by
  refine runP_ok (by show (noRef (voiceV os) && (true && (true && true))) = true; rw [voice_nr]; rfl) (st' := st') ?_ hz
  let E : Mi.Env := [some (voiceV os), some (.str f), some (.int leg)]
  have e1 : sExpr (callP 1 c_need_fault [] (consM (var 1) nilM)) E [] = some (.next, E, []) := by
    simp (decide := true) only [x_sExpr, x_callP, x_consM, x_nilM, x_bnd, x_var, x_ret, bK_ok, vR_some, eK_ok, List.getElem?_cons_succ, List.getElem?_cons_zero, List.length_cons, List.length_nil, List.append_nil, if_true, fault_ok hf, x_sNext, E]
  have mk := mk_walk (st := []) (s1 := []) v h1 h2 W (ms := consM (var 0) (consM (var 2) nilM)) (env := E) rfl
  have isW : isOf "Walk" "story_of" (wkS [] (maxD os) wf) (.ref (List.length ([] : Sto))) = true := wkI (by decide)
  unfold c_story
  rw [x_callS]
  show oR (s_story E []) = _
  unfold s_story
  rw [sSeq_next e1, sRet_ok (v := z) (s1 := st')]
  · rfl
  · rw [x_methM, mk, bK_ok, if_pos isW, x_bnd, show consM (var 1) nilM E (wkS [] (maxD os) wf) = some (.ok [.str f], wkS [] (maxD os) wf) from rfl, bK_ok]
    exact (if_pos rfl).trans hc
theorem story_no (hf : f ∈ fWords) (v : VoOk os) (h1 : 1 ≤ leg) (h2 : leg ≤ 1000) (W : Walked os leg wf) (h : ¬ f ∈ wf.met.map (·.1)) : runP c_story [voiceV os, .str f, .int leg] st = some (.ok .non, st) :=
  story_head hf v h1 h2 W (story_none h) rfl
theorem story_yes (hf : f ∈ fWords) (v : VoOk os) (h1 : 1 ≤ leg) (h2 : leg ≤ 1000) (W : Walked os leg wf) {road : List Int} {going : List Str} (h : Told wf (maxD os) f road going) : runP c_story [voiceV os, .str f, .int leg] st = some (.ok (.tup [.tup (road.map .int), .tup (going.map .str)]), st) := by
  obtain ⟨st', e⟩ := story_told (st := []) (reach := maxD os) h
  refine story_head hf v h1 h2 W e ?_
  show (noRefs (road.map .int) && (noRefs (going.map .str) && true)) = true
  rw [noRefs_map (fun _ => rfl), noRefs_map (fun _ => rfl)]
  rfl
end
end Pg
namespace Pg
open PySem Mi
open L2 (atI atI_last ixN)
/-! ### a walk that is computed -/
def okWb (os : List One) (leg reach : Int) (s : Stt) : Bool :=
  (s.turns.all fun t => t.left.all fun n => decide (n < os.length)) && ((s.wait.all fun p => decide (p.1 < s.turns.length) && decide (p.2 < os.length)) && ((match s.sp with
    | none => true
    | some p => decide (p.num < os.length) && (decide (1 ≤ p.ticks) && (decide (p.turn + (if p.jn then 2 else 1) ≤ s.turns.length) && decide (-2 ≤ p.turn)))) && (decide (s.wait.length + (s.turns.map fun t => t.left.length).sum ≤ 1000) && (decide (s.turns.length ≤ 1000) && (!s.turns.isEmpty && (nears os s reach).all fun nr => decide (0 ≤ lastD (moved os s nr reach).turns))))))
theorem okWb_ok {os : List One} {leg reach : Int} {s : Stt} (h : okWb os leg reach s = true) : s.OkW os leg reach := by
  unfold okWb at h
  simp only [Bool.and_eq_true, List.all_eq_true, decide_eq_true_eq] at h
  obtain ⟨h1, h2, h3, h4, h5, h6, h7⟩ := h
  refine ⟨⟨⟨h1, h2, fun p hp => ?_⟩, h4, h5⟩, fun e => ?_, h7⟩
  · have hp' : s.sp = some p := hp
    rw [hp'] at h3
    dsimp only at h3
    simp only [Bool.and_eq_true, decide_eq_true_eq] at h3
    exact ⟨h3.1, h3.2.1, h3.2.2.1, h3.2.2.2⟩
  · rw [e] at h6
    cases h6
def toldB (wf : Wk) (reach : Int) : Bool := wf.met.all fun p => match metOf wf.met p.1 with
  | some q => match backGo wf 5000 (some q.2) [q.1] with
    | some fs => decide (fs.length < 5000) && (decide (tellSize fs.reverse < 100000) && (toldL fs.reverse reach).isSome)
    | none => false
  | none => false
def walkB (os : List One) (leg : Int) : Bool := match walkGo os leg (maxD os) 5000 0 (walk0 os leg (maxD os)) with
  | some wf => decide (wf.order.length < 10000) && (decide (wf.met.length < 100) && (wf.order.all (okWb os leg (maxD os)) && toldB wf (maxD os)))
  | none => false
/-- a walk whose stories are all told -/
structure WalkedT (os : List One) (leg : Int) (wf : Wk) : Prop where
  w : Walked os leg wf
  told : ∀ f ∈ wf.met.map (·.1), ∃ road going, Told wf (maxD os) f road going
theorem walkB_ok {os : List One} {leg : Int} (h : walkB os leg = true) : ∃ wf, WalkedT os leg wf := by
  unfold walkB at h
  split at h
  · rename_i wf e
    simp only [Bool.and_eq_true, decide_eq_true_eq, List.all_eq_true] at h
    obtain ⟨h1, h2, h3, h4⟩ := h
    refine ⟨wf, ⟨⟨5000, by decide, e⟩, by omega, by omega, fun s hs => okWb_ok (h3 s hs)⟩, fun f hf => ?_⟩
    unfold toldB at h4
    rw [List.all_eq_true] at h4
    obtain ⟨p, hp, rfl⟩ := List.mem_map.mp hf
    have h5 := h4 p hp
    split at h5
    · rename_i q hq
      split at h5
      · rename_i fs hfs
        simp only [Bool.and_eq_true, decide_eq_true_eq] at h5
        obtain ⟨a1, a2, a3⟩ := h5
        obtain ⟨⟨road, going⟩, ht⟩ := Option.isSome_iff_exists.mp a3
        exact ⟨road, going, ⟨⟨q.1, q.2, 5000, fs, hq, by decide, hfs, by omega, by omega, ht⟩⟩⟩
      · cases h5
    · cases h5
  · cases h
theorem walks_of {os : List One} {N : Int} (h : (rgI 1 (N + 1)).all (walkB os) = true) : ∃ W : Int → Wk, ∀ l, 1 ≤ l → l ≤ N → WalkedT os l (W l) := by
  have key : ∀ l : Int, ∃ wf, 1 ≤ l → l ≤ N → WalkedT os l wf := fun l => by
    by_cases hl : 1 ≤ l ∧ l ≤ N
    · have hm : l ∈ rgI 1 (N + 1) := by
        unfold rgI
        refine List.mem_map.mpr ⟨(l - 1).toNat, List.mem_range.mpr (by omega), by omega⟩
      obtain ⟨wf, hw⟩ := walkB_ok ((List.all_eq_true.mp h) l hm)
      exact ⟨wf, fun _ _ => hw⟩
    · exact ⟨⟨[], [], []⟩, fun a b => absurd ⟨a, b⟩ hl⟩
  exact ⟨fun l => (key l).choose, fun l => (key l).choose_spec⟩
end Pg
namespace K29
open PySem Mi Pg
open L2 (atI atI_last ixN)
theorem mul_r {z k : Int} {st : Sto} (h : small64 k = true) : mulV st (.int z) (.int k) = some (.int (z * k)) := by
  show (if (small64 z || small64 k) = true then some (Val.int (z * k)) else none) = _
  rw [h, Bool.or_true]
  rfl
theorem mod_r {z k : Int} {st : Sto} (h : 0 < k) : modV st (.int z) (.int k) = some (.int (z % k)) := by
  show (if 0 < k then some (Val.int (z % k)) else none) = _
  rw [if_pos h]
theorem fdiv9 {z : Int} {st : Sto} : fdivV st (.int z) (.int 9) = some (.int (z / 9)) := rfl
theorem cutL_map {α β : Type} (f : α → β) (xs : List α) (lo hi : Option Int) : cutL (xs.map f) lo hi = (cutL xs lo hi).map f := by
  unfold cutL
  rw [List.length_map, List.map_take, List.map_drop]
theorem number_ok {ns : List Int} {t : Int} {st : Sto} (h0 : 0 ≤ t) : ∃ r : Nat, r < 5 ∧ c_l_number [.rol (ns.map .int), .int t] st = some (.ok (.int (r : Int)), st) := by
  have hm : itS (sliceM (var 0) nopart (part (ret (.int 50)))) [some (.rol (ns.map .int)), some (.int t), some (.int (59 + 7 * t)), none] st = some (.ok ((cutL ns none (some 50)).map .int), st) := by
    have c : cutVal st (.rol (ns.map .int)) none (some 50) = some (.lst ((cutL ns none (some 50)).map .int)) := by
      show some (Val.lst (cutL (ns.map Val.int) none (some 50))) = _
      rw [cutL_map]
    simp [c]
    rfl
  obtain ⟨env', st', e, z, d3, h1, h2⟩ := sFor_inv (t := .name 3) (body := sSet 2 (bin modV (app intV (consM (bin addV (bin addV (bin mulV (var 2) (ret (.int 53))) (bin modV (app intV (consM (app absV' (consM (var 3) nilM)) nilM)) (ret (.int 1000003)))) (var 1)) nilM)) (ret (.int 1000003)))) (fun _ env s => ∃ z d3, env = [some (.rol (ns.map .int)), some (.int t), some (.int z), d3] ∧ s = st) (env := [some (.rol (ns.map .int)), some (.int t), some (.int (59 + 7 * t)), none]) (st := st) hm ⟨_, _, rfl, rfl⟩ fun m x env s hx hI => by
    obtain ⟨z, d3, rfl, rfl⟩ := hI
    rw [List.getElem?_map] at hx
    cases q : (cutL ns none (some 50))[m]? with
    | none => rw [q] at hx; cases hx
    | some c =>
      rw [q] at hx
      cases hx
      have a1 : ∀ st, absV' st [.int c] = some (.int (if c < 0 then -c else c)) := fun _ => rfl
      have iv : ∀ (i : Int) st, intV st [.int i] = some (.int i) := fun _ _ => rfl
      refine ⟨[some (.rol (ns.map .int)), some (.int t), some (.int z), some (.int c)], rfl, [some (.rol (ns.map .int)), some (.int t), some (.int ((z * 53 + (if c < 0 then -c else c) % 1000003 + t) % 1000003)), some (.int c)], s, .inl ?_, _, _, rfl, rfl⟩
      simp [mul_r (show small64 53 = true by decide), a1, iv, mod_r (show (0 : Int) < 1000003 by decide)]
  subst h2
  refine ⟨(z / 9 % 5).toNat, by omega, ?_⟩
  have iv : ∀ (i : Int) st, intV st [.int i] = some (.int i) := fun _ _ => rfl
  have m7 : ∀ st, mulV st (.int 7) (.int t) = some (.int (7 * t)) := fun st => by
    show (if (small64 7 || small64 t) = true then some (Val.int (7 * t)) else none) = _
    rw [show small64 7 = true by decide]
    rfl
  unfold c_l_number s_l_number
  rw [x_callS]
  rw [sSeq_next (e1 := [some (.rol (ns.map .int)), some (.int t), some (.int (59 + 7 * t)), none]) (s1 := st') (by simp [env0, m7]), sSeq_next e, h1]
  have e5 : ((z / 9 % 5).toNat : Int) = z / 9 % 5 := by omega
  simp [fdiv9, iv, mod_r (show (0 : Int) < 5 by decide), e5]
/-! ### the voices -/
def vs : List (List One) := [[⟨"a", 2, 2, "wait", 1, 0⟩], [⟨"a", 2, 1, "drop", 1, 0⟩], [⟨"a", 1, 2, "cut", 1, 1⟩], [⟨"a", 2, 2, "cut", 2, 0⟩], [⟨"far", 2, 1, "wait", 1, 0⟩, ⟨"now", 1, 1, "cut", 1, 0⟩]]
def txs : List Str := ["a 2 2 wait 1 0", "a 2 1 drop 1 0", "a 1 2 cut 1 1", "a 2 2 cut 2 0", "far 2 1 wait 1 0\nnow 1 1 cut 1 0"]
theorem walked : (vs.all fun os => (rgI 1 10).all (walkB os)) = true := by decide +kernel
theorem voice_at {k : Nat} (hk : k < 5) : ∃ os x, vs[k]? = some os ∧ txs[k]? = some x ∧ (∀ st, runP c_Voice_read [.cls "Voice", .str x] st = some (.ok (voiceV os), st)) ∧ VoOk os ∧ 0 ≤ maxD os ∧ maxD os ≤ 2 := by
  have hc : k = 0 ∨ k = 1 ∨ k = 2 ∨ k = 3 ∨ k = 4 := by omega
  have gd : ∀ os : List One, (os.all fun o => decide (1 ≤ o.l)) = true → Good os := fun os h o ho => by
    have := (List.all_eq_true.mp h) o ho
    simpa using this
  rcases hc with rfl | rfl | rfl | rfl | rfl
  · exact ⟨_, _, rfl, rfl, fun st => runP_ok (st' := []) rfl (by kernel_rfl) rfl, ⟨gd _ (by decide +kernel), by decide, by decide +kernel⟩, by decide +kernel, by decide +kernel⟩
  · exact ⟨_, _, rfl, rfl, fun st => runP_ok (st' := []) rfl (by kernel_rfl) rfl, ⟨gd _ (by decide +kernel), by decide, by decide +kernel⟩, by decide +kernel, by decide +kernel⟩
  · exact ⟨_, _, rfl, rfl, fun st => runP_ok (st' := []) rfl (by kernel_rfl) rfl, ⟨gd _ (by decide +kernel), by decide, by decide +kernel⟩, by decide +kernel, by decide +kernel⟩
  · exact ⟨_, _, rfl, rfl, fun st => runP_ok (st' := []) rfl (by kernel_rfl) rfl, ⟨gd _ (by decide +kernel), by decide, by decide +kernel⟩, by decide +kernel, by decide +kernel⟩
  · exact ⟨_, _, rfl, rfl, fun st => runP_ok (st' := []) rfl (by kernel_rfl) rfl, ⟨gd _ (by decide +kernel), by decide, by decide +kernel⟩, by decide +kernel, by decide +kernel⟩
theorem walks_at {k : Nat} {os : List One} (h : vs[k]? = some os) : ∃ W : Int → Wk, ∀ l, 1 ≤ l → l ≤ 9 → WalkedT os l (W l) :=
  walks_of (N := 9) ((List.all_eq_true.mp walked) os (List.mem_of_getElem? h))
theorem ne_metF (wf : Wk) {st : Sto} : neV st (.tup ((metF wf).map .str)) (.tup ((metF wf).map .str)) = some (.bl false) := by
  refine neV_refl ?_
  unfold metF fWords
  generalize (fun f => decide (f ∈ wf.met.map (·.1))) = p
  simp only [List.filter]
  cases p "ahead" <;> cases p "behind" <;> cases p "crowd" <;> cases p "cut" <;> cases p "untold" <;> kernel_rfl
theorem ne_optI (o : Option Int) {st : Sto} : neV st (optI o) (optI o) = some (.bl false) := by
  refine neV_refl ?_
  cases o <;> rfl
theorem ne_bl (b : Bool) {st : Sto} : neV st (.bl b) (.bl b) = some (.bl false) := by
  cases b <;> rfl
theorem eq_bl (b : Bool) {st : Sto} : eqV st (.bl (!b)) (.bl b) = some (.bl false) := by
  cases b <;> rfl
theorem main : ∀ ns : List Int, ns.length ≤ 63 → (∀ i ∈ ns, Builtin.Int.intBits i ≤ 1048576) → ∃ env st, s_law (env0 7 [.rol (ns.map .int)]) [] = some (.ret (.bl true), env, st) := fun ns hn _ => by
  let sc : Val := .rol (ns.map .int)
  let tl : Val := .lst (txs.map .str)
  obtain ⟨env', st', e, a2, a3, a4, a5, a6, h1, h2⟩ := sFor_inv (mi := rng1 (consM (ret (.int 3)) nilM)) (t := .name 2) (body := (sSeq (sSet 3 (cmthP "Voice" 2 c_Voice_read (consM (bin idxV (var 1) (callM 2 c_l_number [] (consM (var 0) (consM (var 2) nilM)))) nilM)))
    (sSeq (sSet 4 (bin addV (ret (.int 1)) (callM 2 c_l_number [] (consM (var 0) (consM (bin addV (var 2) (ret (.int 3))) nilM)))))
    (sSeq (sSet 5 (bin idxV (mkLst (consM (ret (.str "ahead")) (consM (ret (.str "behind")) (consM (ret (.str "crowd")) (consM (ret (.str "cut")) (consM (ret (.str "untold")) nilM)))))) (callM 2 c_l_number [] (consM (var 0) (consM (bin addV (var 2) (ret (.int 6))) nilM)))))
    (sSeq (sSet 6 (callP 3 c_happens [] (consM (var 3) (consM (var 5) (consM (var 4) nilM)))))
    (sSeq (sIf (asB (bin neV (callP 3 c_happens [] (kwM 0 3 [2, 1, 0] [.int 1] nilM (consM (var 4) (consM (var 5) (consM (var 3) nilM))))) (var 6))) (sRet (ret (.bl false))) sNext)
    (sSeq (sIf (asB (bin neV (callP 2 c_faults [] (kwM 0 2 [1, 0] [.int 1] nilM (consM (var 4) (consM (var 3) nilM)))) (callP 2 c_faults [] (consM (var 3) (consM (var 4) nilM))))) (sRet (ret (.bl false))) sNext)
    (sSeq (sIf (asB (bin neV (callP 2 c_faults [] (kwM 0 1 [0, 1] [.int 1] nilM (consM (var 3) nilM))) (callP 2 c_faults [] (consM (var 3) (consM (ret (.int 1)) nilM))))) (sRet (ret (.bl false))) sNext)
    (sSeq (sIf (asB (bin eqV (bin isNV (callP 3 c_story [] (kwM 0 3 [1, 0, 2] [.int 1] nilM (consM (var 5) (consM (var 3) (consM (var 4) nilM))))) (ret .non)) (var 6))) (sRet (ret (.bl false))) sNext)
    (sIf (asB (bin neV (callP 2 c_least_leg [] (kwM 0 2 [1, 0] [] nilM (consM (var 5) (consM (var 3) nilM)))) (callP 2 c_least_leg [] (consM (var 3) (consM (var 5) nilM))))) (sRet (ret (.bl false))) sNext))))))))))
    (fun _ env s => ∃ a2 a3 a4 a5 a6, env = [some sc, some tl, a2, a3, a4, a5, a6] ∧ s = []) (env := [some sc, some tl, none, none, none, none, none]) (st := []) (s1 := []) (xs := [.int 0, .int 1, .int 2]) rfl ⟨_, _, _, _, _, rfl, rfl⟩ fun m x env s hx hI => by
    obtain ⟨a2, a3, a4, a5, a6, rfl, rfl⟩ := hI
    have hx' : ∃ t : Int, 0 ≤ t ∧ x = .int t := by
      have := List.mem_of_getElem? hx
      simp only [List.mem_cons, List.not_mem_nil, or_false] at this
      rcases this with rfl | rfl | rfl
      · exact ⟨0, by decide, rfl⟩
      · exact ⟨1, by decide, rfl⟩
      · exact ⟨2, by decide, rfl⟩
    obtain ⟨t, ht, rfl⟩ := hx'
    obtain ⟨a, ha, ea⟩ := number_ok (ns := ns) (t := t) (st := []) ht
    obtain ⟨b, hb, eb⟩ := number_ok (ns := ns) (t := t + 3) (st := []) (by omega)
    obtain ⟨c, hc, ec⟩ := number_ok (ns := ns) (t := t + 6) (st := []) (by omega)
    obtain ⟨os, tx, ho, htx, hv, V, r0, r2⟩ := voice_at ha
    obtain ⟨W, hW⟩ := walks_at ho
    have hfl : c < fWords.length := hc
    let f : Str := fWords[c]
    have hf : f ∈ fWords := List.getElem_mem hfl
    let l : Int := 1 + (b : Int)
    have l1 : 1 ≤ l := by show 1 ≤ 1 + (b : Int); omega
    have l9 : l ≤ 9 := by show 1 + (b : Int) ≤ 9; omega
    have hp := happens_ok (st := []) hf V l1 (by omega) (hW l l1 l9).w
    have fp := faults_ok (st := []) V l1 (by omega) (hW l l1 l9).w
    have fp1 := faults_ok (st := []) V (by decide : (1 : Int) ≤ 1) (by decide) (hW 1 (by decide) (by decide)).w
    have lp := least_ok (st := []) hf V r0 (W := W) (fun l b1 b2 => (hW l b1 (by omega)).w)
    let D : Bool := decide (f ∈ (W l).met.map (·.1))
    have sp : ∃ z, runP c_story [voiceV os, .str f, .int l] [] = some (.ok z, []) ∧ isNV [] z .non = some (.bl (!D)) := by
      by_cases h : f ∈ (W l).met.map (·.1)
      · obtain ⟨road, going, hT⟩ := (hW l l1 l9).told f h
        refine ⟨_, story_yes hf V l1 (by omega) (hW l l1 l9).w hT, ?_⟩
        show _ = some (Val.bl (!decide _))
        rw [decide_eq_true h]
        rfl
      · refine ⟨_, story_no hf V l1 (by omega) (hW l l1 l9).w h, ?_⟩
        show _ = some (Val.bl (!decide _))
        rw [decide_eq_false h]
        rfl
    obtain ⟨z, ez, iz⟩ := sp
    let E3 : Mi.Env := [some sc, some tl, some (.int t), some (voiceV os), a4, a5, a6]
    let E4 : Mi.Env := [some sc, some tl, some (.int t), some (voiceV os), some (.int l), a5, a6]
    let E5 : Mi.Env := [some sc, some tl, some (.int t), some (voiceV os), some (.int l), some (.str f), a6]
    let E6 : Mi.Env := [some sc, some tl, some (.int t), some (voiceV os), some (.int l), some (.str f), some (.bl D)]
    refine ⟨[some sc, some tl, some (.int t), a3, a4, a5, a6], rfl, E6, [], .inl ?_, _, _, _, _, _, rfl, rfl⟩
    have it : idxV [] tl (.int (a : Int)) = some (.str tx) := by
      show atI (txs.map Val.str) (a : Int) = _
      rw [atI_nat, List.getElem?_map, htx]
      rfl
    have iw : atI (fWords.map Val.str) (c : Int) = some (.str f) := by
      rw [atI_nat, List.getElem?_map, List.getElem?_eq_getElem hfl]
      rfl
    have e3 : sSet 3 (cmthP "Voice" 2 c_Voice_read (consM (bin idxV (var 1) (callM 2 c_l_number [] (consM (var 0) (consM (var 2) nilM)))) nilM)) [some sc, some tl, some (.int t), a3, a4, a5, a6] [] = some (.next, E3, []) := by
      refine sSet_ok (v := voiceV os) ?_
      unfold cmthP
      rw [x_bnd]
      simp [sc, ea, it, hv]
    have e4 : sSet 4 (bin addV (ret (.int 1)) (callM 2 c_l_number [] (consM (var 0) (consM (bin addV (var 2) (ret (.int 3))) nilM)))) E3 [] = some (.next, E4, []) := by
      simp [E3, E4, sc, eb, l]
    have e5 : sSet 5 (bin idxV (mkLst (consM (ret (.str "ahead")) (consM (ret (.str "behind")) (consM (ret (.str "crowd")) (consM (ret (.str "cut")) (consM (ret (.str "untold")) nilM)))))) (callM 2 c_l_number [] (consM (var 0) (consM (bin addV (var 2) (ret (.int 6))) nilM)))) E4 [] = some (.next, E5, []) := by
      have hm : mkLst (consM (ret (.str "ahead")) (consM (ret (.str "behind")) (consM (ret (.str "crowd")) (consM (ret (.str "cut")) (consM (ret (.str "untold")) nilM))))) E4 [] = some (.ok (.lst (fWords.map .str)), []) := mkLst_ok rfl (by show 5 ≤ 16000000; decide)
      refine sSet_ok (v := .str f) ?_
      have cm : callM 2 c_l_number [] (consM (var 0) (consM (bin addV (var 2) (ret (.int 6))) nilM)) E4 [] = some (.ok (.int (c : Int)), []) := by
        simp [E4, sc, ec]
      exact bin_ok hm cm iw
    have e6 : sSet 6 (callP 3 c_happens [] (consM (var 3) (consM (var 5) (consM (var 4) nilM)))) E5 [] = some (.next, E6, []) := by
      simp [E5, E6, hp, D]
    have kw : ∀ {i j k : Nat} {x y z : Val} {jx : List Nat} {ds ws : List Val}, E6[i]? = some (some x) → E6[j]? = some (some y) → E6[k]? = some (some z) → sel jx ([] ++ ([x, y, z] ++ ds)) = ws → kwM 0 3 jx ds nilM (consM (var i) (consM (var j) (consM (var k) nilM))) E6 [] = some (.ok ws, []) := fun h1 h2 h3 h4 => by
      unfold kwM
      simp [h1, h2, h3]
      exact h4
    have kw2 : ∀ {i j : Nat} {x y : Val} {jx : List Nat} {ds ws : List Val}, E6[i]? = some (some x) → E6[j]? = some (some y) → sel jx ([] ++ ([x, y] ++ ds)) = ws → kwM 0 2 jx ds nilM (consM (var i) (consM (var j) nilM)) E6 [] = some (.ok ws, []) := fun h1 h2 h4 => by
      unfold kwM
      simp [h1, h2]
      exact h4
    have k1 := kw (i := 4) (j := 5) (k := 3) (jx := [2, 1, 0]) (ds := [.int 1]) (ws := [voiceV os, .str f, .int l]) rfl rfl rfl rfl
    have k2 := kw2 (i := 4) (j := 3) (jx := [1, 0]) (ds := [.int 1]) (ws := [voiceV os, .int l]) rfl rfl rfl
    have k3 : kwM 0 1 [0, 1] [.int 1] nilM (consM (var 3) nilM) E6 [] = some (.ok [voiceV os, .int 1], []) := rfl
    have k4 := kw (i := 5) (j := 3) (k := 4) (jx := [1, 0, 2]) (ds := [.int 1]) (ws := [voiceV os, .str f, .int l]) rfl rfl rfl rfl
    have k5 := kw2 (i := 5) (j := 3) (jx := [1, 0]) (ds := []) (ws := [voiceV os, .str f]) rfl rfl rfl
    have v3 : var 3 E6 [] = some (.ok (voiceV os), []) := rfl
    have v4 : var 4 E6 [] = some (.ok (.int l), []) := rfl
    have v5 : var 5 E6 [] = some (.ok (.str f), []) := rfl
    have v6 : var 6 E6 [] = some (.ok (.bl D), []) := rfl
    have c3 : ∀ {ms : M (List Val)} {cf : CF} {xs : List Val} {n : Nat} {z : Val}, ms E6 [] = some (.ok xs, []) → xs.length = n → runP cf xs [] = some (.ok z, []) → callP n cf [] ms E6 [] = some (.ok z, []) := fun h1 h2 h3 => by
      rw [x_callP, h1, bK_ok]
      rw [if_pos (by rw [List.append_nil]; exact h2), List.append_nil]
      exact h3
    have test : ∀ {m : M Val} {a : S}, m E6 [] = some (.ok (.bl false), []) → sIf (asB m) a sNext E6 [] = some (.next, E6, []) := fun h => by
      rw [sIf_false (asB_ok h)]
      rfl
    have g7 := test (a := sRet (ret (.bl false))) (bin_ok (c3 (n := 3) k1 rfl hp) v6 (ne_bl D))
    have g8 := test (a := sRet (ret (.bl false))) (bin_ok (c3 (n := 2) k2 rfl fp) (c3 (n := 2) (consM_ok v3 (consM_ok v4 nilM_ok)) rfl fp) (ne_metF (W l)))
    have g9 := test (a := sRet (ret (.bl false))) (bin_ok (c3 (n := 2) k3 rfl fp1) (c3 (n := 2) (ms := consM (var 3) (consM (ret (.int 1)) nilM)) rfl rfl fp1) (ne_metF (W 1)))
    have g10 := test (a := sRet (ret (.bl false))) (bin_ok (bin_ok (mb := ret .non) (c3 (n := 3) k4 rfl ez) rfl iz) v6 (eq_bl D))
    have g11 := test (a := sRet (ret (.bl false))) (bin_ok (c3 (n := 2) k5 rfl lp) (c3 (n := 2) (consM_ok v3 (consM_ok v5 nilM_ok)) rfl lp) (ne_optI _))
    rw [sSeq_next e3, sSeq_next e4, sSeq_next e5, sSeq_next e6, sSeq_next g7, sSeq_next g8, sSeq_next g9, sSeq_next g10]
    exact g11
  refine ⟨env', st', ?_⟩
  unfold s_law
  rw [sSeq_next (e1 := [some sc, some tl, none, none, none, none, none]) (s1 := []) (sSet_ok (i := 1) (v := tl) (mkLst_ok rfl (by show 5 ≤ 16000000; decide)))]
  rw [sSeq_next e, h1]
  rfl
end K29
namespace K29
open PySem PySem.Spec PyProof.Rows L2 Mi Pg
theorem all_mk {P : Program} {w : World} {K : PySem.W.Frag} {h : Heap} {mg : Str → Option Value} {fa : Addr} (X : K.In h) (G : h.Ns mainGlobals mg) (hfa : mg "law" = some (.ref fa))
    {C_Voice : Addr} (a_Voice : PySem.W.nsIn K mainGlobals "Voice" = some (some (.ref C_Voice))) (o1_Voice : PySem.W.plainGet K C_Voice Str.empty = true) (o2_Voice : PySem.W.hasDictIn K C_Voice = true) (o3_Voice : PySem.W.plainOver K C_Voice = true) (o4_Voice : PySem.W.findIn K (.ref C_Voice) "__setattr__" = some (some (.builtin "object.__setattr__"))) (o5_Voice : PySem.W.findIn K (.ref C_Voice) "__class__" = some (some (.builtin "object.__class__"))) (o6_Voice : PySem.W.specialIn K (.builtin "object.__class__") "__get__" = some (some (.builtin "getset_descriptor.__get__"))) (o7_Voice : PySem.W.takesIn K (.builtin "object.__class__") = some true) (o8_Voice : PySem.W.mroIn K C_Voice (.type "object") = some true) (ic_Voice : PySem.W.isClsIn K C_Voice = true) (ty_Voice : PySem.W.typeIn K (.ref C_Voice) = some (.type "type")) (s0_Voice : PySem.W.subIn K (.type "NoneType") (.ref C_Voice) = some false) (s1_Voice : PySem.W.subIn K (.type "bool") (.ref C_Voice) = some false) (s2_Voice : PySem.W.subIn K (.type "int") (.ref C_Voice) = some false) (s3_Voice : PySem.W.subIn K (.type "str") (.ref C_Voice) = some false) (s4_Voice : PySem.W.subIn K (.type "tuple") (.ref C_Voice) = some false) (s5_Voice : PySem.W.subIn K (.type "list") (.ref C_Voice) = some false)
    {C_Call : Addr} (a_Call : PySem.W.nsIn K mainGlobals "Call" = some (some (.ref C_Call))) (o1_Call : PySem.W.plainGet K C_Call Str.empty = true) (o2_Call : PySem.W.hasDictIn K C_Call = true) (o3_Call : PySem.W.plainOver K C_Call = true) (o4_Call : PySem.W.findIn K (.ref C_Call) "__setattr__" = some (some (.builtin "object.__setattr__"))) (o5_Call : PySem.W.findIn K (.ref C_Call) "__class__" = some (some (.builtin "object.__class__"))) (o6_Call : PySem.W.specialIn K (.builtin "object.__class__") "__get__" = some (some (.builtin "getset_descriptor.__get__"))) (o7_Call : PySem.W.takesIn K (.builtin "object.__class__") = some true) (o8_Call : PySem.W.mroIn K C_Call (.type "object") = some true) (ic_Call : PySem.W.isClsIn K C_Call = true) (ty_Call : PySem.W.typeIn K (.ref C_Call) = some (.type "type")) (s0_Call : PySem.W.subIn K (.type "NoneType") (.ref C_Call) = some false) (s1_Call : PySem.W.subIn K (.type "bool") (.ref C_Call) = some false) (s2_Call : PySem.W.subIn K (.type "int") (.ref C_Call) = some false) (s3_Call : PySem.W.subIn K (.type "str") (.ref C_Call) = some false) (s4_Call : PySem.W.subIn K (.type "tuple") (.ref C_Call) = some false) (s5_Call : PySem.W.subIn K (.type "list") (.ref C_Call) = some false)
    {C_Walk : Addr} (a_Walk : PySem.W.nsIn K mainGlobals "Walk" = some (some (.ref C_Walk))) (o1_Walk : PySem.W.plainGet K C_Walk Str.empty = true) (o2_Walk : PySem.W.hasDictIn K C_Walk = true) (o3_Walk : PySem.W.plainOver K C_Walk = true) (o4_Walk : PySem.W.findIn K (.ref C_Walk) "__setattr__" = some (some (.builtin "object.__setattr__"))) (o5_Walk : PySem.W.findIn K (.ref C_Walk) "__class__" = some (some (.builtin "object.__class__"))) (o6_Walk : PySem.W.specialIn K (.builtin "object.__class__") "__get__" = some (some (.builtin "getset_descriptor.__get__"))) (o7_Walk : PySem.W.takesIn K (.builtin "object.__class__") = some true) (o8_Walk : PySem.W.mroIn K C_Walk (.type "object") = some true) (ic_Walk : PySem.W.isClsIn K C_Walk = true) (ty_Walk : PySem.W.typeIn K (.ref C_Walk) = some (.type "type")) (s0_Walk : PySem.W.subIn K (.type "NoneType") (.ref C_Walk) = some false) (s1_Walk : PySem.W.subIn K (.type "bool") (.ref C_Walk) = some false) (s2_Walk : PySem.W.subIn K (.type "int") (.ref C_Walk) = some false) (s3_Walk : PySem.W.subIn K (.type "str") (.ref C_Walk) = some false) (s4_Walk : PySem.W.subIn K (.type "tuple") (.ref C_Walk) = some false) (s5_Walk : PySem.W.subIn K (.type "list") (.ref C_Walk) = some false)
    {C_Follow : Addr} (a_Follow : PySem.W.nsIn K mainGlobals "Follow" = some (some (.ref C_Follow))) (o1_Follow : PySem.W.plainGet K C_Follow Str.empty = true) (o2_Follow : PySem.W.hasDictIn K C_Follow = true) (o3_Follow : PySem.W.plainOver K C_Follow = true) (o4_Follow : PySem.W.findIn K (.ref C_Follow) "__setattr__" = some (some (.builtin "object.__setattr__"))) (o5_Follow : PySem.W.findIn K (.ref C_Follow) "__class__" = some (some (.builtin "object.__class__"))) (o6_Follow : PySem.W.specialIn K (.builtin "object.__class__") "__get__" = some (some (.builtin "getset_descriptor.__get__"))) (o7_Follow : PySem.W.takesIn K (.builtin "object.__class__") = some true) (o8_Follow : PySem.W.mroIn K C_Follow (.type "object") = some true) (ic_Follow : PySem.W.isClsIn K C_Follow = true) (ty_Follow : PySem.W.typeIn K (.ref C_Follow) = some (.type "type")) (s0_Follow : PySem.W.subIn K (.type "NoneType") (.ref C_Follow) = some false) (s1_Follow : PySem.W.subIn K (.type "bool") (.ref C_Follow) = some false) (s2_Follow : PySem.W.subIn K (.type "int") (.ref C_Follow) = some false) (s3_Follow : PySem.W.subIn K (.type "str") (.ref C_Follow) = some false) (s4_Follow : PySem.W.subIn K (.type "tuple") (.ref C_Follow) = some false) (s5_Follow : PySem.W.subIn K (.type "list") (.ref C_Follow) = some false)
    {C_Course : Addr} (a_Course : PySem.W.nsIn K mainGlobals "Course" = some (some (.ref C_Course))) (o1_Course : PySem.W.plainGet K C_Course Str.empty = true) (o2_Course : PySem.W.hasDictIn K C_Course = true) (o3_Course : PySem.W.plainOver K C_Course = true) (o4_Course : PySem.W.findIn K (.ref C_Course) "__setattr__" = some (some (.builtin "object.__setattr__"))) (o5_Course : PySem.W.findIn K (.ref C_Course) "__class__" = some (some (.builtin "object.__class__"))) (o6_Course : PySem.W.specialIn K (.builtin "object.__class__") "__get__" = some (some (.builtin "getset_descriptor.__get__"))) (o7_Course : PySem.W.takesIn K (.builtin "object.__class__") = some true) (o8_Course : PySem.W.mroIn K C_Course (.type "object") = some true) (ic_Course : PySem.W.isClsIn K C_Course = true) (ty_Course : PySem.W.typeIn K (.ref C_Course) = some (.type "type")) (s0_Course : PySem.W.subIn K (.type "NoneType") (.ref C_Course) = some false) (s1_Course : PySem.W.subIn K (.type "bool") (.ref C_Course) = some false) (s2_Course : PySem.W.subIn K (.type "int") (.ref C_Course) = some false) (s3_Course : PySem.W.subIn K (.type "str") (.ref C_Course) = some false) (s4_Course : PySem.W.subIn K (.type "tuple") (.ref C_Course) = some false) (s5_Course : PySem.W.subIn K (.type "list") (.ref C_Course) = some false)
    (n_Call_busy : PySem.W.findIn K (.ref C_Call) "busy" = some none)
    (n_Call_distance : PySem.W.findIn K (.ref C_Call) "distance" = some none)
    (n_Call_joins : PySem.W.findIn K (.ref C_Call) "joins" = some none)
    (n_Call_least : PySem.W.findIn K (.ref C_Call) "least" = some none)
    (n_Call_length : PySem.W.findIn K (.ref C_Call) "length" = some none)
    (n_Call_name : PySem.W.findIn K (.ref C_Call) "name" = some none)
    (n_Course_met : PySem.W.findIn K (.ref C_Course) "met" = some none)
    (n_Course_speaker : PySem.W.findIn K (.ref C_Course) "speaker" = some none)
    (n_Course_speech : PySem.W.findIn K (.ref C_Course) "speech" = some none)
    (n_Course_told_now : PySem.W.findIn K (.ref C_Course) "told_now" = some none)
    (n_Course_turns : PySem.W.findIn K (.ref C_Course) "turns" = some none)
    (n_Course_waiting : PySem.W.findIn K (.ref C_Course) "waiting" = some none)
    (n_Follow_chosen : PySem.W.findIn K (.ref C_Follow) "chosen" = some none)
    (n_Follow_is_near : PySem.W.findIn K (.ref C_Follow) "is_near" = some none)
    (n_Follow_later : PySem.W.findIn K (.ref C_Follow) "later" = some none)
    (n_Follow_said : PySem.W.findIn K (.ref C_Follow) "said" = some none)
    (n_Follow_word : PySem.W.findIn K (.ref C_Follow) "word" = some none)
    (n_Follow_wrong : PySem.W.findIn K (.ref C_Follow) "wrong" = some none)
    (n_Voice_calls : PySem.W.findIn K (.ref C_Voice) "calls" = some none)
    (n_Voice_names : PySem.W.findIn K (.ref C_Voice) "names" = some none)
    (n_Voice_reach : PySem.W.findIn K (.ref C_Voice) "reach" = some none)
    (n_Walk_came_by : PySem.W.findIn K (.ref C_Walk) "came_by" = some none)
    (n_Walk_first_met : PySem.W.findIn K (.ref C_Walk) "first_met" = some none)
    (n_Walk_order : PySem.W.findIn K (.ref C_Walk) "order" = some none)
    (n_Walk_reach : PySem.W.findIn K (.ref C_Walk) "reach" = some none)
    {C_InvalidCall : Addr} (a_InvalidCall : PySem.W.nsIn K mainGlobals "InvalidCall" = some (some (.ref C_InvalidCall)))
    {C_InvalidText : Addr} (a_InvalidText : PySem.W.nsIn K mainGlobals "InvalidText" = some (some (.ref C_InvalidText)))
    {C_InvalidVoice : Addr} (a_InvalidVoice : PySem.W.nsIn K mainGlobals "InvalidVoice" = some (some (.ref C_InvalidVoice)))
    {C_InvalidFault : Addr} (a_InvalidFault : PySem.W.nsIn K mainGlobals "InvalidFault" = some (some (.ref C_InvalidFault)))
    (eb_InvalidCall : PySem.W.subIn K (.ref C_InvalidCall) (.type "BaseException") = some true)
    (et_InvalidCall : PySem.W.typeIn K (.ref C_InvalidCall) = some (.type "type"))
    (ek_InvalidCall : PySem.W.keepIn K (.ref C_InvalidCall) = true)
    (eh_InvalidCall : PySem.W.hasDictIn K C_InvalidCall = true)
    (kr_InvalidCall : PySem.W.excInitIn K C_InvalidCall [.type "ValueError", .type "Exception", .type "BaseException", .type "object"] "ValueError.__new__" = true)
    (kr2_InvalidCall : PySem.W.excOver K C_InvalidCall [.type "ValueError", .type "Exception", .type "BaseException", .type "object"] = true)
    (kr3_InvalidCall : PySem.W.ks_superIn K C_InvalidCall C_InvalidCall "__init__" = some (some (.builtin "ValueError.__init__")))
    (e_op : PySem.W.nsIn K cStatics "thirdparty.any" = some none)
    (e1_InvalidCall : PySem.W.subIn K (.ref C_InvalidCall) (.type "ValueError") = some true)
    (e2_InvalidCall : PySem.W.mroIn K C_InvalidCall (.ref C_InvalidCall) = some true)
    (e3_InvalidCall : PySem.W.findIn K (.ref C_InvalidCall) "__setattr__" = some (some (.builtin "object.__setattr__")))
    (e4_InvalidCall : PySem.W.takerIn K C_InvalidCall "word" = some none)
    {fe_InvalidCall cda_InvalidCall cc_InvalidCall : Addr} {oc_InvalidCall kV_InvalidCall dc_InvalidCall pm_InvalidCall ct_InvalidCall cl1_InvalidCall cl2_InvalidCall : Value} {od_InvalidCall an_InvalidCall cd1_InvalidCall cd2_InvalidCall : Option Addr} {sl_InvalidCall sl1_InvalidCall sl2_InvalidCall : Array (Option Value)} {vs_InvalidCall : Array Value} {fi_InvalidCall : Str} {tf_InvalidCall : Tok}
    (e5_InvalidCall : PySem.W.findIn K (.ref C_InvalidCall) "__init__" = some (some (.ref fe_InvalidCall)))
    (e6_InvalidCall : PySem.W.typeIn K (.ref fe_InvalidCall) = some (.type "function"))
    (e7_InvalidCall : K.lookup fe_InvalidCall = some ⟨oc_InvalidCall, od_InvalidCall, .func (PySem.W.ksFn "__init__" "InvalidCall.__init__" (defArgs st_InvalidCall_init) (defBody st_InvalidCall_init) (defScope st_InvalidCall_init) .none kV_InvalidCall dc_InvalidCall pm_InvalidCall an_InvalidCall (.ref cda_InvalidCall) ct_InvalidCall cc_InvalidCall), sl_InvalidCall⟩)
    (e8_InvalidCall : PySem.W.codeIn K (.ref cda_InvalidCall) "InvalidCall.__init__" = true)
    (e9_InvalidCall : K.lookup cda_InvalidCall = some ⟨cl1_InvalidCall, cd1_InvalidCall, .fields vs_InvalidCall, sl1_InvalidCall⟩)
    (rr1_InvalidCall : vs_InvalidCall[2]? = some (.str fi_InvalidCall tf_InvalidCall))
    (rr2_InvalidCall : ((P.main.file : Str) == fi_InvalidCall) = true)
    (e0_InvalidCall : K.lookup cc_InvalidCall = some ⟨cl2_InvalidCall, cd2_InvalidCall, .cell (some (.ref C_InvalidCall)), sl2_InvalidCall⟩)
    (e_sup : PySem.W.nsIn K mainGlobals "super" = some none)
    (rr_top : (P.main.scope.names.lookup ("super" : Str)).isSome = false)
    (eb_InvalidText : PySem.W.subIn K (.ref C_InvalidText) (.type "BaseException") = some true)
    (et_InvalidText : PySem.W.typeIn K (.ref C_InvalidText) = some (.type "type"))
    (ek_InvalidText : PySem.W.keepIn K (.ref C_InvalidText) = true)
    (eh_InvalidText : PySem.W.hasDictIn K C_InvalidText = true)
    (kr_InvalidText : PySem.W.excInitIn K C_InvalidText [.type "ValueError", .type "Exception", .type "BaseException", .type "object"] "ValueError.__new__" = true)
    (kr2_InvalidText : PySem.W.excOver K C_InvalidText [.type "ValueError", .type "Exception", .type "BaseException", .type "object"] = true)
    (kr3_InvalidText : PySem.W.ks_superIn K C_InvalidText C_InvalidText "__init__" = some (some (.builtin "ValueError.__init__")))
    (e1_InvalidText : PySem.W.subIn K (.ref C_InvalidText) (.type "ValueError") = some true)
    (e2_InvalidText : PySem.W.mroIn K C_InvalidText (.ref C_InvalidText) = some true)
    (e3_InvalidText : PySem.W.findIn K (.ref C_InvalidText) "__setattr__" = some (some (.builtin "object.__setattr__")))
    (e4_InvalidText : PySem.W.takerIn K C_InvalidText "at" = some none)
    {fe_InvalidText cda_InvalidText cc_InvalidText : Addr} {oc_InvalidText kV_InvalidText dc_InvalidText pm_InvalidText ct_InvalidText cl1_InvalidText cl2_InvalidText : Value} {od_InvalidText an_InvalidText cd1_InvalidText cd2_InvalidText : Option Addr} {sl_InvalidText sl1_InvalidText sl2_InvalidText : Array (Option Value)} {vs_InvalidText : Array Value} {fi_InvalidText : Str} {tf_InvalidText : Tok}
    (e5_InvalidText : PySem.W.findIn K (.ref C_InvalidText) "__init__" = some (some (.ref fe_InvalidText)))
    (e6_InvalidText : PySem.W.typeIn K (.ref fe_InvalidText) = some (.type "function"))
    (e7_InvalidText : K.lookup fe_InvalidText = some ⟨oc_InvalidText, od_InvalidText, .func (PySem.W.ksFn "__init__" "InvalidText.__init__" (defArgs st_InvalidText_init) (defBody st_InvalidText_init) (defScope st_InvalidText_init) .none kV_InvalidText dc_InvalidText pm_InvalidText an_InvalidText (.ref cda_InvalidText) ct_InvalidText cc_InvalidText), sl_InvalidText⟩)
    (e8_InvalidText : PySem.W.codeIn K (.ref cda_InvalidText) "InvalidText.__init__" = true)
    (e9_InvalidText : K.lookup cda_InvalidText = some ⟨cl1_InvalidText, cd1_InvalidText, .fields vs_InvalidText, sl1_InvalidText⟩)
    (rr1_InvalidText : vs_InvalidText[2]? = some (.str fi_InvalidText tf_InvalidText))
    (rr2_InvalidText : ((P.main.file : Str) == fi_InvalidText) = true)
    (e0_InvalidText : K.lookup cc_InvalidText = some ⟨cl2_InvalidText, cd2_InvalidText, .cell (some (.ref C_InvalidText)), sl2_InvalidText⟩)
    (eb_InvalidVoice : PySem.W.subIn K (.ref C_InvalidVoice) (.type "BaseException") = some true)
    (et_InvalidVoice : PySem.W.typeIn K (.ref C_InvalidVoice) = some (.type "type"))
    (ek_InvalidVoice : PySem.W.keepIn K (.ref C_InvalidVoice) = true)
    (eh_InvalidVoice : PySem.W.hasDictIn K C_InvalidVoice = true)
    (kr_InvalidVoice : PySem.W.excInitIn K C_InvalidVoice [.type "ValueError", .type "Exception", .type "BaseException", .type "object"] "ValueError.__new__" = true)
    (kr2_InvalidVoice : PySem.W.excOver K C_InvalidVoice [.type "ValueError", .type "Exception", .type "BaseException", .type "object"] = true)
    (kr3_InvalidVoice : PySem.W.ks_superIn K C_InvalidVoice C_InvalidVoice "__init__" = some (some (.builtin "ValueError.__init__")))
    (e1_InvalidVoice : PySem.W.subIn K (.ref C_InvalidVoice) (.type "ValueError") = some true)
    (e2_InvalidVoice : PySem.W.mroIn K C_InvalidVoice (.ref C_InvalidVoice) = some true)
    (e3_InvalidVoice : PySem.W.findIn K (.ref C_InvalidVoice) "__setattr__" = some (some (.builtin "object.__setattr__")))
    (e4_InvalidVoice : PySem.W.takerIn K C_InvalidVoice "word" = some none)
    {fe_InvalidVoice cda_InvalidVoice cc_InvalidVoice : Addr} {oc_InvalidVoice kV_InvalidVoice dc_InvalidVoice pm_InvalidVoice ct_InvalidVoice cl1_InvalidVoice cl2_InvalidVoice : Value} {od_InvalidVoice an_InvalidVoice cd1_InvalidVoice cd2_InvalidVoice : Option Addr} {sl_InvalidVoice sl1_InvalidVoice sl2_InvalidVoice : Array (Option Value)} {vs_InvalidVoice : Array Value} {fi_InvalidVoice : Str} {tf_InvalidVoice : Tok}
    (e5_InvalidVoice : PySem.W.findIn K (.ref C_InvalidVoice) "__init__" = some (some (.ref fe_InvalidVoice)))
    (e6_InvalidVoice : PySem.W.typeIn K (.ref fe_InvalidVoice) = some (.type "function"))
    (e7_InvalidVoice : K.lookup fe_InvalidVoice = some ⟨oc_InvalidVoice, od_InvalidVoice, .func (PySem.W.ksFn "__init__" "InvalidVoice.__init__" (defArgs st_InvalidVoice_init) (defBody st_InvalidVoice_init) (defScope st_InvalidVoice_init) .none kV_InvalidVoice dc_InvalidVoice pm_InvalidVoice an_InvalidVoice (.ref cda_InvalidVoice) ct_InvalidVoice cc_InvalidVoice), sl_InvalidVoice⟩)
    (e8_InvalidVoice : PySem.W.codeIn K (.ref cda_InvalidVoice) "InvalidVoice.__init__" = true)
    (e9_InvalidVoice : K.lookup cda_InvalidVoice = some ⟨cl1_InvalidVoice, cd1_InvalidVoice, .fields vs_InvalidVoice, sl1_InvalidVoice⟩)
    (rr1_InvalidVoice : vs_InvalidVoice[2]? = some (.str fi_InvalidVoice tf_InvalidVoice))
    (rr2_InvalidVoice : ((P.main.file : Str) == fi_InvalidVoice) = true)
    (e0_InvalidVoice : K.lookup cc_InvalidVoice = some ⟨cl2_InvalidVoice, cd2_InvalidVoice, .cell (some (.ref C_InvalidVoice)), sl2_InvalidVoice⟩)
    (eb_InvalidFault : PySem.W.subIn K (.ref C_InvalidFault) (.type "BaseException") = some true)
    (et_InvalidFault : PySem.W.typeIn K (.ref C_InvalidFault) = some (.type "type"))
    (ek_InvalidFault : PySem.W.keepIn K (.ref C_InvalidFault) = true)
    (eh_InvalidFault : PySem.W.hasDictIn K C_InvalidFault = true)
    (kr_InvalidFault : PySem.W.excIn K C_InvalidFault [.type "ValueError", .type "Exception", .type "BaseException", .type "object"] "ValueError.__new__" = true)
    (ex_InvalidCall_InvalidCall : PySem.W.subIn K (.ref C_InvalidCall) (.ref C_InvalidCall) = some true)
    {f1 : Addr} {oc1 kV1 dc1 pm1 cd1 ct1 : Value} {od1 an1 : Option Addr} {sl1 : Array (Option Value)}
    (a1 : PySem.W.nsIn K mainGlobals "is_sequence" = some (some (.ref f1))) (l1 : K.lookup f1 = some ⟨oc1, od1, .func (PySem.W.fnOf "is_sequence" "is_sequence" (defArgs st_is_sequence) (defBody st_is_sequence) (defScope st_is_sequence) .none kV1 dc1 pm1 an1 cd1 ct1), sl1⟩) (c1 : PySem.W.codeIn K cd1 "is_sequence" = true) (k1 : PySem.W.keepIn K (.ref f1) = true)
    {f2 : Addr} {oc2 kV2 dc2 pm2 cd2 ct2 : Value} {od2 an2 : Option Addr} {sl2 : Array (Option Value)}
    (a2 : PySem.W.findIn K (.ref C_Voice) "__init__" = some (some (.ref f2))) (l2 : K.lookup f2 = some ⟨oc2, od2, .func (PySem.W.fnOf "__init__" "Voice.__init__" (defArgs st_Voice_init) (defBody st_Voice_init) (defScope st_Voice_init) .none kV2 dc2 pm2 an2 cd2 ct2), sl2⟩) (c2 : PySem.W.codeIn K cd2 "Voice.__init__" = true) (k2 : PySem.W.keepIn K (.ref f2) = true)
    (n2 : PySem.W.isFn K (.ref f2) = true)
    (m2 : PySem.W.makesIn K C_Voice = true) (q2 : PySem.W.keepIn K (.ref C_Voice) = true)
    {f3 : Addr} {oc3 kV3 dc3 pm3 cd3 ct3 : Value} {od3 an3 : Option Addr} {sl3 : Array (Option Value)}
    (a3 : PySem.W.nsIn K mainGlobals "is_name" = some (some (.ref f3))) (l3 : K.lookup f3 = some ⟨oc3, od3, .func (PySem.W.fnOf "is_name" "is_name" (defArgs st_is_name) (defBody st_is_name) (defScope st_is_name) .none kV3 dc3 pm3 an3 cd3 ct3), sl3⟩) (c3 : PySem.W.codeIn K cd3 "is_name" = true) (k3 : PySem.W.keepIn K (.ref f3) = true)
    {f4 : Addr} {oc4 kV4 dc4 pm4 cd4 ct4 : Value} {od4 an4 : Option Addr} {sl4 : Array (Option Value)}
    (a4 : PySem.W.nsIn K mainGlobals "is_integer" = some (some (.ref f4))) (l4 : K.lookup f4 = some ⟨oc4, od4, .func (PySem.W.fnOf "is_integer" "is_integer" (defArgs st_is_integer) (defBody st_is_integer) (defScope st_is_integer) .none kV4 dc4 pm4 an4 cd4 ct4), sl4⟩) (c4 : PySem.W.codeIn K cd4 "is_integer" = true) (k4 : PySem.W.keepIn K (.ref f4) = true)
    {f5 : Addr} {oc5 kV5 dc5 pm5 cd5 ct5 : Value} {od5 an5 : Option Addr} {sl5 : Array (Option Value)}
    (a5 : PySem.W.nsIn K mainGlobals "is_within" = some (some (.ref f5))) (l5 : K.lookup f5 = some ⟨oc5, od5, .func (PySem.W.fnOf "is_within" "is_within" (defArgs st_is_within) (defBody st_is_within) (defScope st_is_within) .none kV5 dc5 pm5 an5 cd5 ct5), sl5⟩) (c5 : PySem.W.codeIn K cd5 "is_within" = true) (k5 : PySem.W.keepIn K (.ref f5) = true)
    {f6 : Addr} {oc6 kV6 dc6 pm6 cd6 ct6 : Value} {od6 an6 : Option Addr} {sl6 : Array (Option Value)}
    (a6 : PySem.W.nsIn K mainGlobals "is_word" = some (some (.ref f6))) (l6 : K.lookup f6 = some ⟨oc6, od6, .func (PySem.W.fnOf "is_word" "is_word" (defArgs st_is_word) (defBody st_is_word) (defScope st_is_word) .none kV6 dc6 pm6 an6 cd6 ct6), sl6⟩) (c6 : PySem.W.codeIn K cd6 "is_word" = true) (k6 : PySem.W.keepIn K (.ref f6) = true)
    {f7 : Addr} {oc7 kV7 dc7 pm7 cd7 ct7 : Value} {od7 an7 : Option Addr} {sl7 : Array (Option Value)}
    (a7 : PySem.W.nsIn K mainGlobals "need" = some (some (.ref f7))) (l7 : K.lookup f7 = some ⟨oc7, od7, .func (PySem.W.fnOf "need" "need" (defArgs st_need) (defBody st_need) (defScope st_need) .none kV7 dc7 pm7 an7 cd7 ct7), sl7⟩) (c7 : PySem.W.codeIn K cd7 "need" = true) (k7 : PySem.W.keepIn K (.ref f7) = true)
    {f8 : Addr} {oc8 kV8 dc8 pm8 cd8 ct8 : Value} {od8 an8 : Option Addr} {sl8 : Array (Option Value)} {T8 : Addr}
    (a8 : PySem.W.findIn K (.ref C_Call) "__init__" = some (some (.ref f8))) (l8 : K.lookup f8 = some ⟨oc8, od8, .func (PySem.W.fnOf "__init__" "Call.__init__" (defArgs st_Call_init) (defBody st_Call_init) (defScope st_Call_init) (.ref T8) kV8 dc8 pm8 an8 cd8 ct8), sl8⟩) (c8 : PySem.W.codeIn K cd8 "Call.__init__" = true) (k8 : PySem.W.keepIn K (.ref f8) = true)
    {t8_0 t8_1 t8_2 : Tok} {tc8 : Value} {td8 : Option Addr} {tn8 : Nat} {ts8 : Array (Option Value)} (t8 : K.lookup T8 = some ⟨tc8, td8, .seq #[.str "wait" t8_0, .int 1 t8_1, .int 0 t8_2] tn8, ts8⟩)
    (n8 : PySem.W.isFn K (.ref f8) = true)
    (m8 : PySem.W.makesIn K C_Call = true) (q8 : PySem.W.keepIn K (.ref C_Call) = true)
    {f9 : Addr} {oc9 kV9 dc9 pm9 cd9 ct9 : Value} {od9 an9 : Option Addr} {sl9 : Array (Option Value)}
    (a9 : PySem.W.nsIn K mainGlobals "number_in" = some (some (.ref f9))) (l9 : K.lookup f9 = some ⟨oc9, od9, .func (PySem.W.fnOf "number_in" "number_in" (defArgs st_number_in) (defBody st_number_in) (defScope st_number_in) .none kV9 dc9 pm9 an9 cd9 ct9), sl9⟩) (c9 : PySem.W.codeIn K cd9 "number_in" = true) (k9 : PySem.W.keepIn K (.ref f9) = true)
    {f10 : Addr} {oc10 kV10 dc10 pm10 cd10 ct10 : Value} {od10 an10 : Option Addr} {sl10 : Array (Option Value)}
    (a10 : PySem.W.nsIn K mainGlobals "call_in" = some (some (.ref f10))) (l10 : K.lookup f10 = some ⟨oc10, od10, .func (PySem.W.fnOf "call_in" "call_in" (defArgs st_call_in) (defBody st_call_in) (defScope st_call_in) .none kV10 dc10 pm10 an10 cd10 ct10), sl10⟩) (c10 : PySem.W.codeIn K cd10 "call_in" = true) (k10 : PySem.W.keepIn K (.ref f10) = true)
    {f11 : Addr} {oc11 kV11 dc11 pm11 cd11 ct11 : Value} {od11 an11 : Option Addr} {sl11 : Array (Option Value)}
    {pa11 : Addr} {re11 : List Value} (r111 : PySem.W.readsIn K C_Voice (.type "type") = true) (r211 : PySem.W.specialIn K (.ref C_Voice) "__getattribute__" = some (some (.builtin "type.__getattribute__"))) (r311 : PySem.W.findCls K (.ref C_Voice) (.type "type") "read" = some (.get (.builtin "classmethod.__get__") (.ref pa11) .none (.ref C_Voice))) (r411 : PySem.W.recIn K pa11 "classmethod" = some (.ref f11 :: re11)) (r511 : PySem.W.fnIn K f11 = true)
    (l11 : K.lookup f11 = some ⟨oc11, od11, .func (PySem.W.fnOf "read" "Voice.read" (defArgs st_Voice_read) (defBody st_Voice_read) (defScope st_Voice_read) .none kV11 dc11 pm11 an11 cd11 ct11), sl11⟩) (c11 : PySem.W.codeIn K cd11 "Voice.read" = true) (k11 : PySem.W.keepIn K (.ref f11) = true)
    {f12 : Addr} {oc12 kV12 dc12 pm12 cd12 ct12 : Value} {od12 an12 : Option Addr} {sl12 : Array (Option Value)}
    (a12 : PySem.W.nsIn K mainGlobals "_law_number" = some (some (.ref f12))) (l12 : K.lookup f12 = some ⟨oc12, od12, .func (PySem.W.fnOf "_law_number" "_law_number" (defArgs st_l_number) (defBody st_l_number) (defScope st_l_number) .none kV12 dc12 pm12 an12 cd12 ct12), sl12⟩) (c12 : PySem.W.codeIn K cd12 "_law_number" = true) (k12 : PySem.W.keepIn K (.ref f12) = true)
    {f13 : Addr} {oc13 kV13 dc13 pm13 cd13 ct13 : Value} {od13 an13 : Option Addr} {sl13 : Array (Option Value)}
    (a13 : PySem.W.findIn K (.ref C_Walk) "take" = some (some (.ref f13))) (l13 : K.lookup f13 = some ⟨oc13, od13, .func (PySem.W.fnOf "take" "Walk.take" (defArgs st_Walk_take) (defBody st_Walk_take) (defScope st_Walk_take) .none kV13 dc13 pm13 an13 cd13 ct13), sl13⟩) (c13 : PySem.W.codeIn K cd13 "Walk.take" = true) (k13 : PySem.W.keepIn K (.ref f13) = true)
    (n13 : PySem.W.isFn K (.ref f13) = true)
    {f14 : Addr} {oc14 kV14 dc14 pm14 cd14 ct14 : Value} {od14 an14 : Option Addr} {sl14 : Array (Option Value)}
    (a14 : PySem.W.findIn K (.ref C_Follow) "__init__" = some (some (.ref f14))) (l14 : K.lookup f14 = some ⟨oc14, od14, .func (PySem.W.fnOf "__init__" "Follow.__init__" (defArgs st_Follow_init) (defBody st_Follow_init) (defScope st_Follow_init) .none kV14 dc14 pm14 an14 cd14 ct14), sl14⟩) (c14 : PySem.W.codeIn K cd14 "Follow.__init__" = true) (k14 : PySem.W.keepIn K (.ref f14) = true)
    (n14 : PySem.W.isFn K (.ref f14) = true)
    (m14 : PySem.W.makesIn K C_Follow = true) (q14 : PySem.W.keepIn K (.ref C_Follow) = true)
    {f15 : Addr} {oc15 kV15 dc15 pm15 cd15 ct15 : Value} {od15 an15 : Option Addr} {sl15 : Array (Option Value)}
    (a15 : PySem.W.nsIn K mainGlobals "open_leg" = some (some (.ref f15))) (l15 : K.lookup f15 = some ⟨oc15, od15, .func (PySem.W.fnOf "open_leg" "open_leg" (defArgs st_open_leg) (defBody st_open_leg) (defScope st_open_leg) .none kV15 dc15 pm15 an15 cd15 ct15), sl15⟩) (c15 : PySem.W.codeIn K cd15 "open_leg" = true) (k15 : PySem.W.keepIn K (.ref f15) = true)
    {f16 : Addr} {oc16 kV16 dc16 pm16 cd16 ct16 : Value} {od16 an16 : Option Addr} {sl16 : Array (Option Value)}
    (a16 : PySem.W.nsIn K mainGlobals "turn_at" = some (some (.ref f16))) (l16 : K.lookup f16 = some ⟨oc16, od16, .func (PySem.W.fnOf "turn_at" "turn_at" (defArgs st_turn_at) (defBody st_turn_at) (defScope st_turn_at) .none kV16 dc16 pm16 an16 cd16 ct16), sl16⟩) (c16 : PySem.W.codeIn K cd16 "turn_at" = true) (k16 : PySem.W.keepIn K (.ref f16) = true)
    {f17 : Addr} {oc17 kV17 dc17 pm17 cd17 ct17 : Value} {od17 an17 : Option Addr} {sl17 : Array (Option Value)}
    (a17 : PySem.W.nsIn K mainGlobals "extended" = some (some (.ref f17))) (l17 : K.lookup f17 = some ⟨oc17, od17, .func (PySem.W.fnOf "extended" "extended" (defArgs st_extended) (defBody st_extended) (defScope st_extended) .none kV17 dc17 pm17 an17 cd17 ct17), sl17⟩) (c17 : PySem.W.codeIn K cd17 "extended" = true) (k17 : PySem.W.keepIn K (.ref f17) = true)
    {f18 : Addr} {oc18 kV18 dc18 pm18 cd18 ct18 : Value} {od18 an18 : Option Addr} {sl18 : Array (Option Value)}
    (a18 : PySem.W.nsIn K mainGlobals "beginnings" = some (some (.ref f18))) (l18 : K.lookup f18 = some ⟨oc18, od18, .func (PySem.W.fnOf "beginnings" "beginnings" (defArgs st_beginnings) (defBody st_beginnings) (defScope st_beginnings) .none kV18 dc18 pm18 an18 cd18 ct18), sl18⟩) (c18 : PySem.W.codeIn K cd18 "beginnings" = true) (k18 : PySem.W.keepIn K (.ref f18) = true)
    {f19 : Addr} {oc19 kV19 dc19 pm19 cd19 ct19 : Value} {od19 an19 : Option Addr} {sl19 : Array (Option Value)}
    (a19 : PySem.W.findIn K (.ref C_Course) "state" = some (some (.ref f19))) (l19 : K.lookup f19 = some ⟨oc19, od19, .func (PySem.W.fnOf "state" "Course.state" (defArgs st_Course_state) (defBody st_Course_state) (defScope st_Course_state) .none kV19 dc19 pm19 an19 cd19 ct19), sl19⟩) (c19 : PySem.W.codeIn K cd19 "Course.state" = true) (k19 : PySem.W.keepIn K (.ref f19) = true)
    (n19 : PySem.W.isFn K (.ref f19) = true)
    {f20 : Addr} {oc20 kV20 dc20 pm20 cd20 ct20 : Value} {od20 an20 : Option Addr} {sl20 : Array (Option Value)}
    (a20 : PySem.W.findIn K (.ref C_Course) "tells_nearest" = some (some (.ref f20))) (l20 : K.lookup f20 = some ⟨oc20, od20, .func (PySem.W.fnOf "tells_nearest" "Course.tells_nearest" (defArgs st_Course_tells_nearest) (defBody st_Course_tells_nearest) (defScope st_Course_tells_nearest) .none kV20 dc20 pm20 an20 cd20 ct20), sl20⟩) (c20 : PySem.W.codeIn K cd20 "Course.tells_nearest" = true) (k20 : PySem.W.keepIn K (.ref f20) = true)
    (n20 : PySem.W.isFn K (.ref f20) = true)
    {f21 : Addr} {oc21 kV21 dc21 pm21 cd21 ct21 : Value} {od21 an21 : Option Addr} {sl21 : Array (Option Value)}
    (a21 : PySem.W.findIn K (.ref C_Course) "step" = some (some (.ref f21))) (l21 : K.lookup f21 = some ⟨oc21, od21, .func (PySem.W.fnOf "step" "Course.step" (defArgs st_Course_step) (defBody st_Course_step) (defScope st_Course_step) .none kV21 dc21 pm21 an21 cd21 ct21), sl21⟩) (c21 : PySem.W.codeIn K cd21 "Course.step" = true) (k21 : PySem.W.keepIn K (.ref f21) = true)
    (n21 : PySem.W.isFn K (.ref f21) = true)
    {f22 : Addr} {oc22 kV22 dc22 pm22 cd22 ct22 : Value} {od22 an22 : Option Addr} {sl22 : Array (Option Value)}
    (a22 : PySem.W.nsIn K mainGlobals "placed" = some (some (.ref f22))) (l22 : K.lookup f22 = some ⟨oc22, od22, .func (PySem.W.fnOf "placed" "placed" (defArgs st_placed) (defBody st_placed) (defScope st_placed) .none kV22 dc22 pm22 an22 cd22 ct22), sl22⟩) (c22 : PySem.W.codeIn K cd22 "placed" = true) (k22 : PySem.W.keepIn K (.ref f22) = true)
    {f23 : Addr} {oc23 kV23 dc23 pm23 cd23 ct23 : Value} {od23 an23 : Option Addr} {sl23 : Array (Option Value)}
    (a23 : PySem.W.findIn K (.ref C_Course) "__init__" = some (some (.ref f23))) (l23 : K.lookup f23 = some ⟨oc23, od23, .func (PySem.W.fnOf "__init__" "Course.__init__" (defArgs st_Course_init) (defBody st_Course_init) (defScope st_Course_init) .none kV23 dc23 pm23 an23 cd23 ct23), sl23⟩) (c23 : PySem.W.codeIn K cd23 "Course.__init__" = true) (k23 : PySem.W.keepIn K (.ref f23) = true)
    (n23 : PySem.W.isFn K (.ref f23) = true)
    (m23 : PySem.W.makesIn K C_Course = true) (q23 : PySem.W.keepIn K (.ref C_Course) = true)
    {f24 : Addr} {oc24 kV24 dc24 pm24 cd24 ct24 : Value} {od24 an24 : Option Addr} {sl24 : Array (Option Value)}
    (a24 : PySem.W.findIn K (.ref C_Course) "is_joined" = some (some (.ref f24))) (l24 : K.lookup f24 = some ⟨oc24, od24, .func (PySem.W.fnOf "is_joined" "Course.is_joined" (defArgs st_Course_is_joined) (defBody st_Course_is_joined) (defScope st_Course_is_joined) .none kV24 dc24 pm24 an24 cd24 ct24), sl24⟩) (c24 : PySem.W.codeIn K cd24 "Course.is_joined" = true) (k24 : PySem.W.keepIn K (.ref f24) = true)
    (n24 : PySem.W.isFn K (.ref f24) = true)
    {f25 : Addr} {oc25 kV25 dc25 pm25 cd25 ct25 : Value} {od25 an25 : Option Addr} {sl25 : Array (Option Value)}
    (a25 : PySem.W.findIn K (.ref C_Course) "begin" = some (some (.ref f25))) (l25 : K.lookup f25 = some ⟨oc25, od25, .func (PySem.W.fnOf "begin" "Course.begin" (defArgs st_Course_begin) (defBody st_Course_begin) (defScope st_Course_begin) .none kV25 dc25 pm25 an25 cd25 ct25), sl25⟩) (c25 : PySem.W.codeIn K cd25 "Course.begin" = true) (k25 : PySem.W.keepIn K (.ref f25) = true)
    (n25 : PySem.W.isFn K (.ref f25) = true)
    {f26 : Addr} {oc26 kV26 dc26 pm26 cd26 ct26 : Value} {od26 an26 : Option Addr} {sl26 : Array (Option Value)}
    (a26 : PySem.W.findIn K (.ref C_Course) "become_due" = some (some (.ref f26))) (l26 : K.lookup f26 = some ⟨oc26, od26, .func (PySem.W.fnOf "become_due" "Course.become_due" (defArgs st_Course_become_due) (defBody st_Course_become_due) (defScope st_Course_become_due) .none kV26 dc26 pm26 an26 cd26 ct26), sl26⟩) (c26 : PySem.W.codeIn K cd26 "Course.become_due" = true) (k26 : PySem.W.keepIn K (.ref f26) = true)
    (n26 : PySem.W.isFn K (.ref f26) = true)
    {f27 : Addr} {oc27 kV27 dc27 pm27 cd27 ct27 : Value} {od27 an27 : Option Addr} {sl27 : Array (Option Value)}
    (a27 : PySem.W.findIn K (.ref C_Course) "all_due" = some (some (.ref f27))) (l27 : K.lookup f27 = some ⟨oc27, od27, .func (PySem.W.fnOf "all_due" "Course.all_due" (defArgs st_Course_all_due) (defBody st_Course_all_due) (defScope st_Course_all_due) .none kV27 dc27 pm27 an27 cd27 ct27), sl27⟩) (c27 : PySem.W.codeIn K cd27 "Course.all_due" = true) (k27 : PySem.W.keepIn K (.ref f27) = true)
    (n27 : PySem.W.isFn K (.ref f27) = true)
    {f28 : Addr} {oc28 kV28 dc28 pm28 cd28 ct28 : Value} {od28 an28 : Option Addr} {sl28 : Array (Option Value)}
    (a28 : PySem.W.findIn K (.ref C_Course) "speak" = some (some (.ref f28))) (l28 : K.lookup f28 = some ⟨oc28, od28, .func (PySem.W.fnOf "speak" "Course.speak" (defArgs st_Course_speak) (defBody st_Course_speak) (defScope st_Course_speak) .none kV28 dc28 pm28 an28 cd28 ct28), sl28⟩) (c28 : PySem.W.codeIn K cd28 "Course.speak" = true) (k28 : PySem.W.keepIn K (.ref f28) = true)
    (n28 : PySem.W.isFn K (.ref f28) = true)
    {f29 : Addr} {oc29 kV29 dc29 pm29 cd29 ct29 : Value} {od29 an29 : Option Addr} {sl29 : Array (Option Value)}
    (a29 : PySem.W.nsIn K mainGlobals "spoken_tick" = some (some (.ref f29))) (l29 : K.lookup f29 = some ⟨oc29, od29, .func (PySem.W.fnOf "spoken_tick" "spoken_tick" (defArgs st_spoken_tick) (defBody st_spoken_tick) (defScope st_spoken_tick) .none kV29 dc29 pm29 an29 cd29 ct29), sl29⟩) (c29 : PySem.W.codeIn K cd29 "spoken_tick" = true) (k29 : PySem.W.keepIn K (.ref f29) = true)
    {f30 : Addr} {oc30 kV30 dc30 pm30 cd30 ct30 : Value} {od30 an30 : Option Addr} {sl30 : Array (Option Value)}
    (a30 : PySem.W.nsIn K mainGlobals "followed" = some (some (.ref f30))) (l30 : K.lookup f30 = some ⟨oc30, od30, .func (PySem.W.fnOf "followed" "followed" (defArgs st_followed) (defBody st_followed) (defScope st_followed) .none kV30 dc30 pm30 an30 cd30 ct30), sl30⟩) (c30 : PySem.W.codeIn K cd30 "followed" = true) (k30 : PySem.W.keepIn K (.ref f30) = true)
    {f31 : Addr} {oc31 kV31 dc31 pm31 cd31 ct31 : Value} {od31 an31 : Option Addr} {sl31 : Array (Option Value)}
    (a31 : PySem.W.findIn K (.ref C_Walk) "__init__" = some (some (.ref f31))) (l31 : K.lookup f31 = some ⟨oc31, od31, .func (PySem.W.fnOf "__init__" "Walk.__init__" (defArgs st_Walk_init) (defBody st_Walk_init) (defScope st_Walk_init) .none kV31 dc31 pm31 an31 cd31 ct31), sl31⟩) (c31 : PySem.W.codeIn K cd31 "Walk.__init__" = true) (k31 : PySem.W.keepIn K (.ref f31) = true)
    (n31 : PySem.W.isFn K (.ref f31) = true)
    (m31 : PySem.W.makesIn K C_Walk = true) (q31 : PySem.W.keepIn K (.ref C_Walk) = true)
    {f32 : Addr} {oc32 kV32 dc32 pm32 cd32 ct32 : Value} {od32 an32 : Option Addr} {sl32 : Array (Option Value)} {T32 : Addr}
    (a32 : PySem.W.nsIn K mainGlobals "faults" = some (some (.ref f32))) (l32 : K.lookup f32 = some ⟨oc32, od32, .func (PySem.W.fnOf "faults" "faults" (defArgs st_faults) (defBody st_faults) (defScope st_faults) (.ref T32) kV32 dc32 pm32 an32 cd32 ct32), sl32⟩) (c32 : PySem.W.codeIn K cd32 "faults" = true) (k32 : PySem.W.keepIn K (.ref f32) = true)
    {t32_0 : Tok} {tc32 : Value} {td32 : Option Addr} {tn32 : Nat} {ts32 : Array (Option Value)} (t32 : K.lookup T32 = some ⟨tc32, td32, .seq #[.int 1 t32_0] tn32, ts32⟩)
    {f33 : Addr} {oc33 kV33 dc33 pm33 cd33 ct33 : Value} {od33 an33 : Option Addr} {sl33 : Array (Option Value)}
    (a33 : PySem.W.nsIn K mainGlobals "is_fault" = some (some (.ref f33))) (l33 : K.lookup f33 = some ⟨oc33, od33, .func (PySem.W.fnOf "is_fault" "is_fault" (defArgs st_is_fault) (defBody st_is_fault) (defScope st_is_fault) .none kV33 dc33 pm33 an33 cd33 ct33), sl33⟩) (c33 : PySem.W.codeIn K cd33 "is_fault" = true) (k33 : PySem.W.keepIn K (.ref f33) = true)
    {f34 : Addr} {oc34 kV34 dc34 pm34 cd34 ct34 : Value} {od34 an34 : Option Addr} {sl34 : Array (Option Value)}
    (a34 : PySem.W.nsIn K mainGlobals "need_fault" = some (some (.ref f34))) (l34 : K.lookup f34 = some ⟨oc34, od34, .func (PySem.W.fnOf "need_fault" "need_fault" (defArgs st_need_fault) (defBody st_need_fault) (defScope st_need_fault) .none kV34 dc34 pm34 an34 cd34 ct34), sl34⟩) (c34 : PySem.W.codeIn K cd34 "need_fault" = true) (k34 : PySem.W.keepIn K (.ref f34) = true)
    {f35 : Addr} {oc35 kV35 dc35 pm35 cd35 ct35 : Value} {od35 an35 : Option Addr} {sl35 : Array (Option Value)} {T35 : Addr}
    (a35 : PySem.W.nsIn K mainGlobals "happens" = some (some (.ref f35))) (l35 : K.lookup f35 = some ⟨oc35, od35, .func (PySem.W.fnOf "happens" "happens" (defArgs st_happens) (defBody st_happens) (defScope st_happens) (.ref T35) kV35 dc35 pm35 an35 cd35 ct35), sl35⟩) (c35 : PySem.W.codeIn K cd35 "happens" = true) (k35 : PySem.W.keepIn K (.ref f35) = true)
    {t35_0 : Tok} {tc35 : Value} {td35 : Option Addr} {tn35 : Nat} {ts35 : Array (Option Value)} (t35 : K.lookup T35 = some ⟨tc35, td35, .seq #[.int 1 t35_0] tn35, ts35⟩)
    {f36 : Addr} {oc36 kV36 dc36 pm36 cd36 ct36 : Value} {od36 an36 : Option Addr} {sl36 : Array (Option Value)}
    (a36 : PySem.W.nsIn K mainGlobals "least_leg" = some (some (.ref f36))) (l36 : K.lookup f36 = some ⟨oc36, od36, .func (PySem.W.fnOf "least_leg" "least_leg" (defArgs st_least_leg) (defBody st_least_leg) (defScope st_least_leg) .none kV36 dc36 pm36 an36 cd36 ct36), sl36⟩) (c36 : PySem.W.codeIn K cd36 "least_leg" = true) (k36 : PySem.W.keepIn K (.ref f36) = true)
    {f37 : Addr} {oc37 kV37 dc37 pm37 cd37 ct37 : Value} {od37 an37 : Option Addr} {sl37 : Array (Option Value)}
    (a37 : PySem.W.nsIn K mainGlobals "told_story" = some (some (.ref f37))) (l37 : K.lookup f37 = some ⟨oc37, od37, .func (PySem.W.fnOf "told_story" "told_story" (defArgs st_told_story) (defBody st_told_story) (defScope st_told_story) .none kV37 dc37 pm37 an37 cd37 ct37), sl37⟩) (c37 : PySem.W.codeIn K cd37 "told_story" = true) (k37 : PySem.W.keepIn K (.ref f37) = true)
    {f38 : Addr} {oc38 kV38 dc38 pm38 cd38 ct38 : Value} {od38 an38 : Option Addr} {sl38 : Array (Option Value)}
    (a38 : PySem.W.findIn K (.ref C_Walk) "story_of" = some (some (.ref f38))) (l38 : K.lookup f38 = some ⟨oc38, od38, .func (PySem.W.fnOf "story_of" "Walk.story_of" (defArgs st_Walk_story_of) (defBody st_Walk_story_of) (defScope st_Walk_story_of) .none kV38 dc38 pm38 an38 cd38 ct38), sl38⟩) (c38 : PySem.W.codeIn K cd38 "Walk.story_of" = true) (k38 : PySem.W.keepIn K (.ref f38) = true)
    (n38 : PySem.W.isFn K (.ref f38) = true)
    {f39 : Addr} {oc39 kV39 dc39 pm39 cd39 ct39 : Value} {od39 an39 : Option Addr} {sl39 : Array (Option Value)} {T39 : Addr}
    (a39 : PySem.W.nsIn K mainGlobals "story" = some (some (.ref f39))) (l39 : K.lookup f39 = some ⟨oc39, od39, .func (PySem.W.fnOf "story" "story" (defArgs st_story) (defBody st_story) (defScope st_story) (.ref T39) kV39 dc39 pm39 an39 cd39 ct39), sl39⟩) (c39 : PySem.W.codeIn K cd39 "story" = true) (k39 : PySem.W.keepIn K (.ref f39) = true)
    {t39_0 : Tok} {tc39 : Value} {td39 : Option Addr} {tn39 : Nat} {ts39 : Array (Option Value)} (t39 : K.lookup T39 = some ⟨tc39, td39, .seq #[.int 1 t39_0] tn39, ts39⟩)
    {f40 : Addr} {oc40 kV40 dc40 pm40 cd40 ct40 : Value} {od40 an40 : Option Addr} {sl40 : Array (Option Value)}
    (a40 : PySem.W.nsIn K mainGlobals "law" = some (some (.ref f40))) (l40 : K.lookup f40 = some ⟨oc40, od40, .func (PySem.W.fnOf "law" "law" (defArgs st_law) (defBody st_law) (defScope st_law) .none kV40 dc40 pm40 an40 cd40 ct40), sl40⟩) (c40 : PySem.W.codeIn K cd40 "law" = true) (k40 : PySem.W.keepIn K (.ref f40) = true)
    (z_len : PySem.W.nsIn K mainGlobals "len" = some none)
    (z_all : PySem.W.nsIn K mainGlobals "all" = some none)
    (z_int : PySem.W.nsIn K mainGlobals "int" = some none)
    (z_isinstance : PySem.W.nsIn K mainGlobals "isinstance" = some none)
    (z_str : PySem.W.nsIn K mainGlobals "str" = some none)
    (z_bool : PySem.W.nsIn K mainGlobals "bool" = some none)
    (z_enumerate : PySem.W.nsIn K mainGlobals "enumerate" = some none)
    (z_list : PySem.W.nsIn K mainGlobals "list" = some none)
    (z_tuple : PySem.W.nsIn K mainGlobals "tuple" = some none)
    (z_set : PySem.W.nsIn K mainGlobals "set" = some none)
    (z_max : PySem.W.nsIn K mainGlobals "max" = some none)
    (z_abs : PySem.W.nsIn K mainGlobals "abs" = some none)
    (z_range : PySem.W.nsIn K mainGlobals "range" = some none)
    (z_zip : PySem.W.nsIn K mainGlobals "zip" = some none)
    {p_BUSY : Addr} {t_BUSY_0 t_BUSY_1 t_BUSY_2 : Tok} {td_BUSY : Option Addr} {tn_BUSY : Nat} {ts_BUSY : Array (Option Value)} (c_BUSY : PySem.W.nsIn K mainGlobals "BUSY" = some (some (.ref p_BUSY))) (d_BUSY : K.lookup p_BUSY = some ⟨.type "tuple", td_BUSY, .seq #[.str "wait" t_BUSY_0, .str "drop" t_BUSY_1, .str "cut" t_BUSY_2] tn_BUSY, ts_BUSY⟩)
    {t_DIGITS : Tok} (c_DIGITS : PySem.W.nsIn K mainGlobals "DIGITS" = some (some (.str "0123456789" t_DIGITS)))
    {t_FARTHER : Tok} (c_FARTHER : PySem.W.nsIn K mainGlobals "FARTHER" = some (some (.int 8 t_FARTHER)))
    {p_FAULTS : Addr} {t_FAULTS_0 t_FAULTS_1 t_FAULTS_2 t_FAULTS_3 t_FAULTS_4 : Tok} {td_FAULTS : Option Addr} {tn_FAULTS : Nat} {ts_FAULTS : Array (Option Value)} (c_FAULTS : PySem.W.nsIn K mainGlobals "FAULTS" = some (some (.ref p_FAULTS))) (d_FAULTS : K.lookup p_FAULTS = some ⟨.type "tuple", td_FAULTS, .seq #[.str "ahead" t_FAULTS_0, .str "behind" t_FAULTS_1, .str "crowd" t_FAULTS_2, .str "cut" t_FAULTS_3, .str "untold" t_FAULTS_4] tn_FAULTS, ts_FAULTS⟩)
    {t_GREATEST_DISTANCE : Tok} (c_GREATEST_DISTANCE : PySem.W.nsIn K mainGlobals "GREATEST_DISTANCE" = some (some (.int 4 t_GREATEST_DISTANCE)))
    {t_GREATEST_JOINS : Tok} (c_GREATEST_JOINS : PySem.W.nsIn K mainGlobals "GREATEST_JOINS" = some (some (.int 3 t_GREATEST_JOINS)))
    {t_GREATEST_LEAST : Tok} (c_GREATEST_LEAST : PySem.W.nsIn K mainGlobals "GREATEST_LEAST" = some (some (.int 4 t_GREATEST_LEAST)))
    {t_GREATEST_LENGTH : Tok} (c_GREATEST_LENGTH : PySem.W.nsIn K mainGlobals "GREATEST_LENGTH" = some (some (.int 3 t_GREATEST_LENGTH)))
    {t_LETTERS : Tok} (c_LETTERS : PySem.W.nsIn K mainGlobals "LETTERS" = some (some (.str "abcdefghijklmnopqrstuvwxyz" t_LETTERS)))
    {t_LONGEST : Tok} (c_LONGEST : PySem.W.nsIn K mainGlobals "LONGEST" = some (some (.int 4 t_LONGEST)))
    {t_MOST_DIGITS : Tok} (c_MOST_DIGITS : PySem.W.nsIn K mainGlobals "MOST_DIGITS" = some (some (.int 4 t_MOST_DIGITS)))
    {t_MOST_LETTERS : Tok} (c_MOST_LETTERS : PySem.W.nsIn K mainGlobals "MOST_LETTERS" = some (some (.int 4 t_MOST_LETTERS)))
    : ∃ fd : FuncData, Fun K "law" "law" st_law fa fd ∧ (∀ (s : Shared) (u : Value), BindsTo s fd ⟨[u], []⟩ [("_law_script", u)]) ∧ ∃ cl : Str → Addr, ∀ (base : Heap) (cdv : Value) (A : Around) (outer : List PySem.Env) (s0 : Shared) (H : Hp) (E : XK),
      A.guards = some [] → Room 10 (A.deeper (envOfC "law" (defScope st_law) s0.heap.objs.size fa cdv)) →
        PSs (cxOf (L2.CX P w) P w K mg base ["_law_script", "_law_zsome", "_law_zturn", "_law_zmade", "_law_zsize", "_law_zword", "_law_zdue"] "law" (defScope st_law) fa cdv A outer s0 H E) (defBody st_law) (tS ⟨K, cl, none, w⟩ (fun c d _ H' => E c d H') s_law) := by
  have e := hfa.symm.trans (PySem.W.mg_of X G a40)
  cases e
  let cl : Str → Addr := fun c => if c = "Voice" then C_Voice else if c = "Call" then C_Call else if c = "Walk" then C_Walk else if c = "Follow" then C_Follow else if c = "Course" then C_Course else if c = "InvalidCall" then C_InvalidCall else if c = "InvalidText" then C_InvalidText else if c = "InvalidVoice" then C_InvalidVoice else if c = "InvalidFault" then C_InvalidFault else 0
  have hcl_Voice : (⟨K, cl, none, w⟩ : Kx).cl "Voice" = C_Voice := by dsimp only [cl]; repeat (first | rw [if_pos rfl] | rw [if_neg (by decide)])
  have hcl_Call : (⟨K, cl, none, w⟩ : Kx).cl "Call" = C_Call := by dsimp only [cl]; repeat (first | rw [if_pos rfl] | rw [if_neg (by decide)])
  have hcl_Walk : (⟨K, cl, none, w⟩ : Kx).cl "Walk" = C_Walk := by dsimp only [cl]; repeat (first | rw [if_pos rfl] | rw [if_neg (by decide)])
  have hcl_Follow : (⟨K, cl, none, w⟩ : Kx).cl "Follow" = C_Follow := by dsimp only [cl]; repeat (first | rw [if_pos rfl] | rw [if_neg (by decide)])
  have hcl_Course : (⟨K, cl, none, w⟩ : Kx).cl "Course" = C_Course := by dsimp only [cl]; repeat (first | rw [if_pos rfl] | rw [if_neg (by decide)])
  have hcl_InvalidCall : (⟨K, cl, none, w⟩ : Kx).cl "InvalidCall" = C_InvalidCall := by dsimp only [cl]; repeat (first | rw [if_pos rfl] | rw [if_neg (by decide)])
  have hcl_InvalidText : (⟨K, cl, none, w⟩ : Kx).cl "InvalidText" = C_InvalidText := by dsimp only [cl]; repeat (first | rw [if_pos rfl] | rw [if_neg (by decide)])
  have hcl_InvalidVoice : (⟨K, cl, none, w⟩ : Kx).cl "InvalidVoice" = C_InvalidVoice := by dsimp only [cl]; repeat (first | rw [if_pos rfl] | rw [if_neg (by decide)])
  have hcl_InvalidFault : (⟨K, cl, none, w⟩ : Kx).cl "InvalidFault" = C_InvalidFault := by dsimp only [cl]; repeat (first | rw [if_pos rfl] | rw [if_neg (by decide)])
  have F8 : FunD K "__init__" "Call.__init__" (defArgs st_Call_init) (defBody st_Call_init) (defScope st_Call_init) [.str "wait", .int 1, .int 0] [] f8 (PySem.W.fnOf "__init__" "Call.__init__" (defArgs st_Call_init) (defBody st_Call_init) (defScope st_Call_init) (.ref T8) kV8 dc8 pm8 an8 cd8 ct8) := ⟨⟨oc8, od8, .ref T8, kV8, dc8, pm8, an8, cd8, ct8, sl8, rfl, l8, c8, .inr ⟨by simp, T8, _, [.str "wait" t8_0, .int 1 t8_1, .int 0 t8_2], tn8, rfl, t8, rfl, (.cons ⟨t8_0, rfl⟩ (.cons ⟨t8_1, rfl⟩ (.cons ⟨t8_2, rfl⟩ .nil)))⟩, .inl rfl⟩, k8⟩
  have F32 : FunD K "faults" "faults" (defArgs st_faults) (defBody st_faults) (defScope st_faults) [.int 1] [] f32 (PySem.W.fnOf "faults" "faults" (defArgs st_faults) (defBody st_faults) (defScope st_faults) (.ref T32) kV32 dc32 pm32 an32 cd32 ct32) := ⟨⟨oc32, od32, .ref T32, kV32, dc32, pm32, an32, cd32, ct32, sl32, rfl, l32, c32, .inr ⟨by simp, T32, _, [.int 1 t32_0], tn32, rfl, t32, rfl, (.cons ⟨t32_0, rfl⟩ .nil)⟩, .inl rfl⟩, k32⟩
  have F35 : FunD K "happens" "happens" (defArgs st_happens) (defBody st_happens) (defScope st_happens) [.int 1] [] f35 (PySem.W.fnOf "happens" "happens" (defArgs st_happens) (defBody st_happens) (defScope st_happens) (.ref T35) kV35 dc35 pm35 an35 cd35 ct35) := ⟨⟨oc35, od35, .ref T35, kV35, dc35, pm35, an35, cd35, ct35, sl35, rfl, l35, c35, .inr ⟨by simp, T35, _, [.int 1 t35_0], tn35, rfl, t35, rfl, (.cons ⟨t35_0, rfl⟩ .nil)⟩, .inl rfl⟩, k35⟩
  have F39 : FunD K "story" "story" (defArgs st_story) (defBody st_story) (defScope st_story) [.int 1] [] f39 (PySem.W.fnOf "story" "story" (defArgs st_story) (defBody st_story) (defScope st_story) (.ref T39) kV39 dc39 pm39 an39 cd39 ct39) := ⟨⟨oc39, od39, .ref T39, kV39, dc39, pm39, an39, cd39, ct39, sl39, rfl, l39, c39, .inr ⟨by simp, T39, _, [.int 1 t39_0], tn39, rfl, t39, rfl, (.cons ⟨t39_0, rfl⟩ .nil)⟩, .inl rfl⟩, k39⟩
  have T : Tx P ⟨K, cl, none, w⟩ mg ⟨f1, (PySem.W.fnOf "is_sequence" "is_sequence" (defArgs st_is_sequence) (defBody st_is_sequence) (defScope st_is_sequence) .none kV1 dc1 pm1 an1 cd1 ct1), f2, (PySem.W.fnOf "__init__" "Voice.__init__" (defArgs st_Voice_init) (defBody st_Voice_init) (defScope st_Voice_init) .none kV2 dc2 pm2 an2 cd2 ct2), f3, (PySem.W.fnOf "is_name" "is_name" (defArgs st_is_name) (defBody st_is_name) (defScope st_is_name) .none kV3 dc3 pm3 an3 cd3 ct3), f4, (PySem.W.fnOf "is_integer" "is_integer" (defArgs st_is_integer) (defBody st_is_integer) (defScope st_is_integer) .none kV4 dc4 pm4 an4 cd4 ct4), f5, (PySem.W.fnOf "is_within" "is_within" (defArgs st_is_within) (defBody st_is_within) (defScope st_is_within) .none kV5 dc5 pm5 an5 cd5 ct5), f6, (PySem.W.fnOf "is_word" "is_word" (defArgs st_is_word) (defBody st_is_word) (defScope st_is_word) .none kV6 dc6 pm6 an6 cd6 ct6), f7, (PySem.W.fnOf "need" "need" (defArgs st_need) (defBody st_need) (defScope st_need) .none kV7 dc7 pm7 an7 cd7 ct7), f8, (PySem.W.fnOf "__init__" "Call.__init__" (defArgs st_Call_init) (defBody st_Call_init) (defScope st_Call_init) (.ref T8) kV8 dc8 pm8 an8 cd8 ct8), f9, (PySem.W.fnOf "number_in" "number_in" (defArgs st_number_in) (defBody st_number_in) (defScope st_number_in) .none kV9 dc9 pm9 an9 cd9 ct9), f10, (PySem.W.fnOf "call_in" "call_in" (defArgs st_call_in) (defBody st_call_in) (defScope st_call_in) .none kV10 dc10 pm10 an10 cd10 ct10), f11, (PySem.W.fnOf "read" "Voice.read" (defArgs st_Voice_read) (defBody st_Voice_read) (defScope st_Voice_read) .none kV11 dc11 pm11 an11 cd11 ct11), f12, (PySem.W.fnOf "_law_number" "_law_number" (defArgs st_l_number) (defBody st_l_number) (defScope st_l_number) .none kV12 dc12 pm12 an12 cd12 ct12), f13, (PySem.W.fnOf "take" "Walk.take" (defArgs st_Walk_take) (defBody st_Walk_take) (defScope st_Walk_take) .none kV13 dc13 pm13 an13 cd13 ct13), f14, (PySem.W.fnOf "__init__" "Follow.__init__" (defArgs st_Follow_init) (defBody st_Follow_init) (defScope st_Follow_init) .none kV14 dc14 pm14 an14 cd14 ct14), f15, (PySem.W.fnOf "open_leg" "open_leg" (defArgs st_open_leg) (defBody st_open_leg) (defScope st_open_leg) .none kV15 dc15 pm15 an15 cd15 ct15), f16, (PySem.W.fnOf "turn_at" "turn_at" (defArgs st_turn_at) (defBody st_turn_at) (defScope st_turn_at) .none kV16 dc16 pm16 an16 cd16 ct16), f17, (PySem.W.fnOf "extended" "extended" (defArgs st_extended) (defBody st_extended) (defScope st_extended) .none kV17 dc17 pm17 an17 cd17 ct17), f18, (PySem.W.fnOf "beginnings" "beginnings" (defArgs st_beginnings) (defBody st_beginnings) (defScope st_beginnings) .none kV18 dc18 pm18 an18 cd18 ct18), f19, (PySem.W.fnOf "state" "Course.state" (defArgs st_Course_state) (defBody st_Course_state) (defScope st_Course_state) .none kV19 dc19 pm19 an19 cd19 ct19), f20, (PySem.W.fnOf "tells_nearest" "Course.tells_nearest" (defArgs st_Course_tells_nearest) (defBody st_Course_tells_nearest) (defScope st_Course_tells_nearest) .none kV20 dc20 pm20 an20 cd20 ct20), f21, (PySem.W.fnOf "step" "Course.step" (defArgs st_Course_step) (defBody st_Course_step) (defScope st_Course_step) .none kV21 dc21 pm21 an21 cd21 ct21), f22, (PySem.W.fnOf "placed" "placed" (defArgs st_placed) (defBody st_placed) (defScope st_placed) .none kV22 dc22 pm22 an22 cd22 ct22), f23, (PySem.W.fnOf "__init__" "Course.__init__" (defArgs st_Course_init) (defBody st_Course_init) (defScope st_Course_init) .none kV23 dc23 pm23 an23 cd23 ct23), f24, (PySem.W.fnOf "is_joined" "Course.is_joined" (defArgs st_Course_is_joined) (defBody st_Course_is_joined) (defScope st_Course_is_joined) .none kV24 dc24 pm24 an24 cd24 ct24), f25, (PySem.W.fnOf "begin" "Course.begin" (defArgs st_Course_begin) (defBody st_Course_begin) (defScope st_Course_begin) .none kV25 dc25 pm25 an25 cd25 ct25), f26, (PySem.W.fnOf "become_due" "Course.become_due" (defArgs st_Course_become_due) (defBody st_Course_become_due) (defScope st_Course_become_due) .none kV26 dc26 pm26 an26 cd26 ct26), f27, (PySem.W.fnOf "all_due" "Course.all_due" (defArgs st_Course_all_due) (defBody st_Course_all_due) (defScope st_Course_all_due) .none kV27 dc27 pm27 an27 cd27 ct27), f28, (PySem.W.fnOf "speak" "Course.speak" (defArgs st_Course_speak) (defBody st_Course_speak) (defScope st_Course_speak) .none kV28 dc28 pm28 an28 cd28 ct28), f29, (PySem.W.fnOf "spoken_tick" "spoken_tick" (defArgs st_spoken_tick) (defBody st_spoken_tick) (defScope st_spoken_tick) .none kV29 dc29 pm29 an29 cd29 ct29), f30, (PySem.W.fnOf "followed" "followed" (defArgs st_followed) (defBody st_followed) (defScope st_followed) .none kV30 dc30 pm30 an30 cd30 ct30), f31, (PySem.W.fnOf "__init__" "Walk.__init__" (defArgs st_Walk_init) (defBody st_Walk_init) (defScope st_Walk_init) .none kV31 dc31 pm31 an31 cd31 ct31), f32, (PySem.W.fnOf "faults" "faults" (defArgs st_faults) (defBody st_faults) (defScope st_faults) (.ref T32) kV32 dc32 pm32 an32 cd32 ct32), f33, (PySem.W.fnOf "is_fault" "is_fault" (defArgs st_is_fault) (defBody st_is_fault) (defScope st_is_fault) .none kV33 dc33 pm33 an33 cd33 ct33), f34, (PySem.W.fnOf "need_fault" "need_fault" (defArgs st_need_fault) (defBody st_need_fault) (defScope st_need_fault) .none kV34 dc34 pm34 an34 cd34 ct34), f35, (PySem.W.fnOf "happens" "happens" (defArgs st_happens) (defBody st_happens) (defScope st_happens) (.ref T35) kV35 dc35 pm35 an35 cd35 ct35), f36, (PySem.W.fnOf "least_leg" "least_leg" (defArgs st_least_leg) (defBody st_least_leg) (defScope st_least_leg) .none kV36 dc36 pm36 an36 cd36 ct36), f37, (PySem.W.fnOf "told_story" "told_story" (defArgs st_told_story) (defBody st_told_story) (defScope st_told_story) .none kV37 dc37 pm37 an37 cd37 ct37), f38, (PySem.W.fnOf "story_of" "Walk.story_of" (defArgs st_Walk_story_of) (defBody st_Walk_story_of) (defScope st_Walk_story_of) .none kV38 dc38 pm38 an38 cd38 ct38), f39, (PySem.W.fnOf "story" "story" (defArgs st_story) (defBody st_story) (defScope st_story) (.ref T39) kV39 dc39 pm39 an39 cd39 ct39), fa, (PySem.W.fnOf "law" "law" (defArgs st_law) (defBody st_law) (defScope st_law) .none kV40 dc40 pm40 an40 cd40 ct40)⟩ :=
    { g_Voice := by rw [hcl_Voice]; exact PySem.W.mg_of X G a_Voice,
      K_Voice := ⟨by show ClsT K _; rw [hcl_Voice]; exact ⟨⟨o1_Voice, o2_Voice, o3_Voice, o4_Voice⟩, o5_Voice, o6_Voice, o7_Voice, o8_Voice⟩, by intro n hn; show PySem.W.kitOne K _ (.ref _) = _; rw [hcl_Voice]; exact kit_mk ic_Voice ty_Voice (six (P := fun n => PySem.W.subIn K (.type n) (.ref C_Voice) = some false) s0_Voice s1_Voice s2_Voice s3_Voice s4_Voice s5_Voice) n hn⟩,
      g_Call := by rw [hcl_Call]; exact PySem.W.mg_of X G a_Call,
      K_Call := ⟨by show ClsT K _; rw [hcl_Call]; exact ⟨⟨o1_Call, o2_Call, o3_Call, o4_Call⟩, o5_Call, o6_Call, o7_Call, o8_Call⟩, by intro n hn; show PySem.W.kitOne K _ (.ref _) = _; rw [hcl_Call]; exact kit_mk ic_Call ty_Call (six (P := fun n => PySem.W.subIn K (.type n) (.ref C_Call) = some false) s0_Call s1_Call s2_Call s3_Call s4_Call s5_Call) n hn⟩,
      g_Walk := by rw [hcl_Walk]; exact PySem.W.mg_of X G a_Walk,
      K_Walk := ⟨by show ClsT K _; rw [hcl_Walk]; exact ⟨⟨o1_Walk, o2_Walk, o3_Walk, o4_Walk⟩, o5_Walk, o6_Walk, o7_Walk, o8_Walk⟩, by intro n hn; show PySem.W.kitOne K _ (.ref _) = _; rw [hcl_Walk]; exact kit_mk ic_Walk ty_Walk (six (P := fun n => PySem.W.subIn K (.type n) (.ref C_Walk) = some false) s0_Walk s1_Walk s2_Walk s3_Walk s4_Walk s5_Walk) n hn⟩,
      g_Follow := by rw [hcl_Follow]; exact PySem.W.mg_of X G a_Follow,
      K_Follow := ⟨by show ClsT K _; rw [hcl_Follow]; exact ⟨⟨o1_Follow, o2_Follow, o3_Follow, o4_Follow⟩, o5_Follow, o6_Follow, o7_Follow, o8_Follow⟩, by intro n hn; show PySem.W.kitOne K _ (.ref _) = _; rw [hcl_Follow]; exact kit_mk ic_Follow ty_Follow (six (P := fun n => PySem.W.subIn K (.type n) (.ref C_Follow) = some false) s0_Follow s1_Follow s2_Follow s3_Follow s4_Follow s5_Follow) n hn⟩,
      g_Course := by rw [hcl_Course]; exact PySem.W.mg_of X G a_Course,
      K_Course := ⟨by show ClsT K _; rw [hcl_Course]; exact ⟨⟨o1_Course, o2_Course, o3_Course, o4_Course⟩, o5_Course, o6_Course, o7_Course, o8_Course⟩, by intro n hn; show PySem.W.kitOne K _ (.ref _) = _; rw [hcl_Course]; exact kit_mk ic_Course ty_Course (six (P := fun n => PySem.W.subIn K (.type n) (.ref C_Course) = some false) s0_Course s1_Course s2_Course s3_Course s4_Course s5_Course) n hn⟩,
      n_Call_busy := by show PySem.W.findIn K (.ref _) _ = _; rw [hcl_Call]; exact n_Call_busy,
      n_Call_distance := by show PySem.W.findIn K (.ref _) _ = _; rw [hcl_Call]; exact n_Call_distance,
      n_Call_joins := by show PySem.W.findIn K (.ref _) _ = _; rw [hcl_Call]; exact n_Call_joins,
      n_Call_least := by show PySem.W.findIn K (.ref _) _ = _; rw [hcl_Call]; exact n_Call_least,
      n_Call_length := by show PySem.W.findIn K (.ref _) _ = _; rw [hcl_Call]; exact n_Call_length,
      n_Call_name := by show PySem.W.findIn K (.ref _) _ = _; rw [hcl_Call]; exact n_Call_name,
      n_Course_met := by show PySem.W.findIn K (.ref _) _ = _; rw [hcl_Course]; exact n_Course_met,
      n_Course_speaker := by show PySem.W.findIn K (.ref _) _ = _; rw [hcl_Course]; exact n_Course_speaker,
      n_Course_speech := by show PySem.W.findIn K (.ref _) _ = _; rw [hcl_Course]; exact n_Course_speech,
      n_Course_told_now := by show PySem.W.findIn K (.ref _) _ = _; rw [hcl_Course]; exact n_Course_told_now,
      n_Course_turns := by show PySem.W.findIn K (.ref _) _ = _; rw [hcl_Course]; exact n_Course_turns,
      n_Course_waiting := by show PySem.W.findIn K (.ref _) _ = _; rw [hcl_Course]; exact n_Course_waiting,
      n_Follow_chosen := by show PySem.W.findIn K (.ref _) _ = _; rw [hcl_Follow]; exact n_Follow_chosen,
      n_Follow_is_near := by show PySem.W.findIn K (.ref _) _ = _; rw [hcl_Follow]; exact n_Follow_is_near,
      n_Follow_later := by show PySem.W.findIn K (.ref _) _ = _; rw [hcl_Follow]; exact n_Follow_later,
      n_Follow_said := by show PySem.W.findIn K (.ref _) _ = _; rw [hcl_Follow]; exact n_Follow_said,
      n_Follow_word := by show PySem.W.findIn K (.ref _) _ = _; rw [hcl_Follow]; exact n_Follow_word,
      n_Follow_wrong := by show PySem.W.findIn K (.ref _) _ = _; rw [hcl_Follow]; exact n_Follow_wrong,
      n_Voice_calls := by show PySem.W.findIn K (.ref _) _ = _; rw [hcl_Voice]; exact n_Voice_calls,
      n_Voice_names := by show PySem.W.findIn K (.ref _) _ = _; rw [hcl_Voice]; exact n_Voice_names,
      n_Voice_reach := by show PySem.W.findIn K (.ref _) _ = _; rw [hcl_Voice]; exact n_Voice_reach,
      n_Walk_came_by := by show PySem.W.findIn K (.ref _) _ = _; rw [hcl_Walk]; exact n_Walk_came_by,
      n_Walk_first_met := by show PySem.W.findIn K (.ref _) _ = _; rw [hcl_Walk]; exact n_Walk_first_met,
      n_Walk_order := by show PySem.W.findIn K (.ref _) _ = _; rw [hcl_Walk]; exact n_Walk_order,
      n_Walk_reach := by show PySem.W.findIn K (.ref _) _ = _; rw [hcl_Walk]; exact n_Walk_reach,
      g_InvalidCall := by rw [hcl_InvalidCall]; exact PySem.W.mg_of X G a_InvalidCall,
      g_InvalidText := by rw [hcl_InvalidText]; exact PySem.W.mg_of X G a_InvalidText,
      g_InvalidVoice := by rw [hcl_InvalidVoice]; exact PySem.W.mg_of X G a_InvalidVoice,
      g_InvalidFault := by rw [hcl_InvalidFault]; exact PySem.W.mg_of X G a_InvalidFault,
      R_InvalidCall := by show ∃ fI, SupC P K mg _ _ _ _ _ _ _ fI; rw [hcl_InvalidCall]; exact ⟨fe_InvalidCall, ⟨PySem.F.excBase_ValueError, PySem.W.kxs_ValueError, PySem.F.store_ValueError, kr_InvalidCall, kr2_InvalidCall, PySem.W.any_some eh_InvalidCall, kr3_InvalidCall, e_op, e1_InvalidCall, e2_InvalidCall, e3_InvalidCall, e4_InvalidCall, eb_InvalidCall, et_InvalidCall, ek_InvalidCall, e5_InvalidCall, e6_InvalidCall, ⟨_, _, _, _, _, _, _, _, _, _, _, _, _, _, _, _, _, _, _, _, _, _, _, _, e7_InvalidCall, e8_InvalidCall, sb_InvalidCall, ss_InvalidCall, rfl, fun _ _ => rfl, e9_InvalidCall, rr1_InvalidCall, rr2_InvalidCall, e0_InvalidCall⟩, PySem.W.mg_none_of X G e_sup, rr_top, by decide, by decide⟩⟩,
      R_InvalidText := by show ∃ fI, SupC P K mg _ _ _ _ _ _ _ fI; rw [hcl_InvalidText]; exact ⟨fe_InvalidText, ⟨PySem.F.excBase_ValueError, PySem.W.kxs_ValueError, PySem.F.store_ValueError, kr_InvalidText, kr2_InvalidText, PySem.W.any_some eh_InvalidText, kr3_InvalidText, e_op, e1_InvalidText, e2_InvalidText, e3_InvalidText, e4_InvalidText, eb_InvalidText, et_InvalidText, ek_InvalidText, e5_InvalidText, e6_InvalidText, ⟨_, _, _, _, _, _, _, _, _, _, _, _, _, _, _, _, _, _, _, _, _, _, _, _, e7_InvalidText, e8_InvalidText, sb_InvalidText, ss_InvalidText, rfl, fun _ _ => rfl, e9_InvalidText, rr1_InvalidText, rr2_InvalidText, e0_InvalidText⟩, PySem.W.mg_none_of X G e_sup, rr_top, by decide, by decide⟩⟩,
      R_InvalidVoice := by show ∃ fI, SupC P K mg _ _ _ _ _ _ _ fI; rw [hcl_InvalidVoice]; exact ⟨fe_InvalidVoice, ⟨PySem.F.excBase_ValueError, PySem.W.kxs_ValueError, PySem.F.store_ValueError, kr_InvalidVoice, kr2_InvalidVoice, PySem.W.any_some eh_InvalidVoice, kr3_InvalidVoice, e_op, e1_InvalidVoice, e2_InvalidVoice, e3_InvalidVoice, e4_InvalidVoice, eb_InvalidVoice, et_InvalidVoice, ek_InvalidVoice, e5_InvalidVoice, e6_InvalidVoice, ⟨_, _, _, _, _, _, _, _, _, _, _, _, _, _, _, _, _, _, _, _, _, _, _, _, e7_InvalidVoice, e8_InvalidVoice, sb_InvalidVoice, ss_InvalidVoice, rfl, fun _ _ => rfl, e9_InvalidVoice, rr1_InvalidVoice, rr2_InvalidVoice, e0_InvalidVoice⟩, PySem.W.mg_none_of X G e_sup, rr_top, by decide, by decide⟩⟩,
      R_InvalidFault := by show Sup0 K _ _ _ _ _; rw [hcl_InvalidFault]; exact ⟨PySem.F.excBase_ValueError, kr_InvalidFault, eb_InvalidFault, et_InvalidFault, ek_InvalidFault⟩,
      x_InvalidCall_InvalidCall := by show PySem.W.exmOne K (.ref _) (.ref _) = _; rw [hcl_InvalidCall]; exact PySem.W.exm_ref eb_InvalidCall eh_InvalidCall et_InvalidCall ex_InvalidCall_InvalidCall,
      F_is_sequence := fun_mk (st := st_is_sequence) l1 c1 k1,
      b_is_sequence := (fun_mk (st := st_is_sequence) l1 c1 k1).binds (ps := ["value"]) fun _ _ _ _ _ _ us hl => match us, hl with | [_], _ => rfl,
      g_is_sequence := PySem.W.mg_of X G a1,
      F_Voice_init := fun_mk (st := st_Voice_init) l2 c2 k2,
      b_Voice_init := (fun_mk (st := st_Voice_init) l2 c2 k2).binds (ps := ["self", "calls"]) fun _ _ _ _ _ _ us hl => match us, hl with | [_, _], _ => rfl,
      M_Voice := by show Mk K _ _; rw [hcl_Voice]; exact ⟨m2, a2, n2, q2⟩,
      F_is_name := fun_mk (st := st_is_name) l3 c3 k3,
      b_is_name := (fun_mk (st := st_is_name) l3 c3 k3).binds (ps := ["value"]) fun _ _ _ _ _ _ us hl => match us, hl with | [_], _ => rfl,
      g_is_name := PySem.W.mg_of X G a3,
      F_is_integer := fun_mk (st := st_is_integer) l4 c4 k4,
      b_is_integer := (fun_mk (st := st_is_integer) l4 c4 k4).binds (ps := ["value"]) fun _ _ _ _ _ _ us hl => match us, hl with | [_], _ => rfl,
      g_is_integer := PySem.W.mg_of X G a4,
      F_is_within := fun_mk (st := st_is_within) l5 c5 k5,
      b_is_within := (fun_mk (st := st_is_within) l5 c5 k5).binds (ps := ["value", "least", "most"]) fun _ _ _ _ _ _ us hl => match us, hl with | [_, _, _], _ => rfl,
      g_is_within := PySem.W.mg_of X G a5,
      F_is_word := fun_mk (st := st_is_word) l6 c6 k6,
      b_is_word := (fun_mk (st := st_is_word) l6 c6 k6).binds (ps := ["value", "words"]) fun _ _ _ _ _ _ us hl => match us, hl with | [_, _], _ => rfl,
      g_is_word := PySem.W.mg_of X G a6,
      F_need := fun_mk (st := st_need) l7 c7 k7,
      b_need := (fun_mk (st := st_need) l7 c7 k7).binds (ps := ["word", "is_right"]) fun _ _ _ _ _ _ us hl => match us, hl with | [_, _], _ => rfl,
      g_need := PySem.W.mg_of X G a7,
      F_Call_init := F8,
      b7_Call_init := F8.binds1 (ps := ["self", "name", "distance", "length", "busy", "least", "joins"]) 7 3 (by simp) rfl fun _ _ _ _ _ _ _ us its hl hi => match us, its, hl, hi with | [_, _, _, _, _, _, _], [_, _, _], _, _ => ⟨_, rfl, rfl⟩,
      M_Call := by show Mk K _ _; rw [hcl_Call]; exact ⟨m8, a8, n8, q8⟩,
      F_number_in := fun_mk (st := st_number_in) l9 c9 k9,
      b_number_in := (fun_mk (st := st_number_in) l9 c9 k9).binds (ps := ["word"]) fun _ _ _ _ _ _ us hl => match us, hl with | [_], _ => rfl,
      g_number_in := PySem.W.mg_of X G a9,
      F_call_in := fun_mk (st := st_call_in) l10 c10 k10,
      b_call_in := (fun_mk (st := st_call_in) l10 c10 k10).binds (ps := ["text"]) fun _ _ _ _ _ _ us hl => match us, hl with | [_], _ => rfl,
      g_call_in := PySem.W.mg_of X G a10,
      cm_Voice_read := by show ∃ (mc : Value) (pa : Addr), ClX.CRead K _ mc ∧ ClX.CMet K _ mc _ pa _; rw [hcl_Voice]; exact ⟨.type "type", pa11, ⟨r111, r211⟩, ⟨r311, ⟨re11, r411⟩, r511⟩⟩,
      F_Voice_read := fun_mk (st := st_Voice_read) l11 c11 k11,
      b_Voice_read := (fun_mk (st := st_Voice_read) l11 c11 k11).binds (ps := ["cls", "text"]) fun _ _ _ _ _ _ us hl => match us, hl with | [_, _], _ => rfl,
      F_l_number := fun_mk (st := st_l_number) l12 c12 k12,
      b_l_number := (fun_mk (st := st_l_number) l12 c12 k12).binds (ps := ["_law_script", "_law_zturn"]) fun _ _ _ _ _ _ us hl => match us, hl with | [_, _], _ => rfl,
      g_l_number := PySem.W.mg_of X G a12,
      F_Walk_take := fun_mk (st := st_Walk_take) l13 c13 k13,
      b_Walk_take := (fun_mk (st := st_Walk_take) l13 c13 k13).binds (ps := ["self", "follow", "ahead"]) fun _ _ _ _ _ _ us hl => match us, hl with | [_, _, _], _ => rfl,
      mt_Walk_take := by show Meth K _ _ _; rw [hcl_Walk]; exact ⟨a13, n13, k13⟩,
      F_Follow_init := fun_mk (st := st_Follow_init) l14 c14 k14,
      b_Follow_init := (fun_mk (st := st_Follow_init) l14 c14 k14).binds (ps := ["self", "word", "chosen", "is_near", "later"]) fun _ _ _ _ _ _ us hl => match us, hl with | [_, _, _, _, _], _ => rfl,
      M_Follow := by show Mk K _ _; rw [hcl_Follow]; exact ⟨m14, a14, n14, q14⟩,
      F_open_leg := fun_mk (st := st_open_leg) l15 c15 k15,
      b_open_leg := (fun_mk (st := st_open_leg) l15 c15 k15).binds (ps := ["leg"]) fun _ _ _ _ _ _ us hl => match us, hl with | [_], _ => rfl,
      g_open_leg := PySem.W.mg_of X G a15,
      F_turn_at := fun_mk (st := st_turn_at) l16 c16 k16,
      b_turn_at := (fun_mk (st := st_turn_at) l16 c16 k16).binds (ps := ["voice", "distance", "is_open", "leg"]) fun _ _ _ _ _ _ us hl => match us, hl with | [_, _, _, _], _ => rfl,
      g_turn_at := PySem.W.mg_of X G a16,
      F_extended := fun_mk (st := st_extended) l17 c17 k17,
      b_extended := (fun_mk (st := st_extended) l17 c17 k17).binds (ps := ["voice", "state", "leg", "reach"]) fun _ _ _ _ _ _ us hl => match us, hl with | [_, _, _, _], _ => rfl,
      g_extended := PySem.W.mg_of X G a17,
      F_beginnings := fun_mk (st := st_beginnings) l18 c18 k18,
      b_beginnings := (fun_mk (st := st_beginnings) l18 c18 k18).binds (ps := ["voice", "leg", "reach"]) fun _ _ _ _ _ _ us hl => match us, hl with | [_, _, _], _ => rfl,
      g_beginnings := PySem.W.mg_of X G a18,
      F_Course_state := fun_mk (st := st_Course_state) l19 c19 k19,
      b_Course_state := (fun_mk (st := st_Course_state) l19 c19 k19).binds (ps := ["self"]) fun _ _ _ _ _ _ us hl => match us, hl with | [_], _ => rfl,
      mt_Course_state := by show Meth K _ _ _; rw [hcl_Course]; exact ⟨a19, n19, k19⟩,
      F_Course_tells_nearest := fun_mk (st := st_Course_tells_nearest) l20 c20 k20,
      b_Course_tells_nearest := (fun_mk (st := st_Course_tells_nearest) l20 c20 k20).binds (ps := ["self"]) fun _ _ _ _ _ _ us hl => match us, hl with | [_], _ => rfl,
      mt_Course_tells_nearest := by show Meth K _ _ _; rw [hcl_Course]; exact ⟨a20, n20, k20⟩,
      F_Course_step := fun_mk (st := st_Course_step) l21 c21 k21,
      b_Course_step := (fun_mk (st := st_Course_step) l21 c21 k21).binds (ps := ["self"]) fun _ _ _ _ _ _ us hl => match us, hl with | [_], _ => rfl,
      mt_Course_step := by show Meth K _ _ _; rw [hcl_Course]; exact ⟨a21, n21, k21⟩,
      F_placed := fun_mk (st := st_placed) l22 c22 k22,
      b_placed := (fun_mk (st := st_placed) l22 c22 k22).binds (ps := ["ahead", "is_near", "reach"]) fun _ _ _ _ _ _ us hl => match us, hl with | [_, _, _], _ => rfl,
      g_placed := PySem.W.mg_of X G a22,
      F_Course_init := fun_mk (st := st_Course_init) l23 c23 k23,
      b_Course_init := (fun_mk (st := st_Course_init) l23 c23 k23).binds (ps := ["self", "voice", "state"]) fun _ _ _ _ _ _ us hl => match us, hl with | [_, _, _], _ => rfl,
      M_Course := by show Mk K _ _; rw [hcl_Course]; exact ⟨m23, a23, n23, q23⟩,
      F_Course_is_joined := fun_mk (st := st_Course_is_joined) l24 c24 k24,
      b_Course_is_joined := (fun_mk (st := st_Course_is_joined) l24 c24 k24).binds (ps := ["self", "turn", "call"]) fun _ _ _ _ _ _ us hl => match us, hl with | [_, _, _], _ => rfl,
      mt_Course_is_joined := by show Meth K _ _ _; rw [hcl_Course]; exact ⟨a24, n24, k24⟩,
      F_Course_begin := fun_mk (st := st_Course_begin) l25 c25 k25,
      b_Course_begin := (fun_mk (st := st_Course_begin) l25 c25 k25).binds (ps := ["self", "turn", "number"]) fun _ _ _ _ _ _ us hl => match us, hl with | [_, _, _], _ => rfl,
      mt_Course_begin := by show Meth K _ _ _; rw [hcl_Course]; exact ⟨a25, n25, k25⟩,
      F_Course_become_due := fun_mk (st := st_Course_become_due) l26 c26 k26,
      b_Course_become_due := (fun_mk (st := st_Course_become_due) l26 c26 k26).binds (ps := ["self", "turn", "number"]) fun _ _ _ _ _ _ us hl => match us, hl with | [_, _, _], _ => rfl,
      mt_Course_become_due := by show Meth K _ _ _; rw [hcl_Course]; exact ⟨a26, n26, k26⟩,
      F_Course_all_due := fun_mk (st := st_Course_all_due) l27 c27 k27,
      b_Course_all_due := (fun_mk (st := st_Course_all_due) l27 c27 k27).binds (ps := ["self"]) fun _ _ _ _ _ _ us hl => match us, hl with | [_], _ => rfl,
      mt_Course_all_due := by show Meth K _ _ _; rw [hcl_Course]; exact ⟨a27, n27, k27⟩,
      F_Course_speak := fun_mk (st := st_Course_speak) l28 c28 k28,
      b_Course_speak := (fun_mk (st := st_Course_speak) l28 c28 k28).binds (ps := ["self"]) fun _ _ _ _ _ _ us hl => match us, hl with | [_], _ => rfl,
      mt_Course_speak := by show Meth K _ _ _; rw [hcl_Course]; exact ⟨a28, n28, k28⟩,
      F_spoken_tick := fun_mk (st := st_spoken_tick) l29 c29 k29,
      b_spoken_tick := (fun_mk (st := st_spoken_tick) l29 c29 k29).binds (ps := ["voice", "state"]) fun _ _ _ _ _ _ us hl => match us, hl with | [_, _], _ => rfl,
      g_spoken_tick := PySem.W.mg_of X G a29,
      F_followed := fun_mk (st := st_followed) l30 c30 k30,
      b_followed := (fun_mk (st := st_followed) l30 c30 k30).binds (ps := ["voice", "window", "leg", "reach"]) fun _ _ _ _ _ _ us hl => match us, hl with | [_, _, _, _], _ => rfl,
      g_followed := PySem.W.mg_of X G a30,
      F_Walk_init := fun_mk (st := st_Walk_init) l31 c31 k31,
      b_Walk_init := (fun_mk (st := st_Walk_init) l31 c31 k31).binds (ps := ["self", "voice", "leg"]) fun _ _ _ _ _ _ us hl => match us, hl with | [_, _, _], _ => rfl,
      M_Walk := by show Mk K _ _; rw [hcl_Walk]; exact ⟨m31, a31, n31, q31⟩,
      F_faults := F32,
      b2_faults := F32.binds1 (ps := ["voice", "leg"]) 2 1 (by simp) rfl fun _ _ _ _ _ _ _ us its hl hi => match us, its, hl, hi with | [_, _], [_], _, _ => ⟨_, rfl, rfl⟩,
      kb0_faults := kbf_dflt (ps := ["voice", "leg"]) F32 0 ["leg", "voice"] [1, 0] (by simp) fun _ _ _ _ _ _ _ us its ws hl hi hw => match us, its, ws, hl, hi, hw with | [], [_], [_, _], _, _, _ => ⟨_, rfl, rfl⟩,
      kb1_faults := kbf_dflt (ps := ["voice", "leg"]) F32 0 ["voice"] [0, 1] (by simp) fun _ _ _ _ _ _ _ us its ws hl hi hw => match us, its, ws, hl, hi, hw with | [], [_], [_], _, _, _ => ⟨_, rfl, rfl⟩,
      g_faults := PySem.W.mg_of X G a32,
      F_is_fault := fun_mk (st := st_is_fault) l33 c33 k33,
      b_is_fault := (fun_mk (st := st_is_fault) l33 c33 k33).binds (ps := ["value"]) fun _ _ _ _ _ _ us hl => match us, hl with | [_], _ => rfl,
      g_is_fault := PySem.W.mg_of X G a33,
      F_need_fault := fun_mk (st := st_need_fault) l34 c34 k34,
      b_need_fault := (fun_mk (st := st_need_fault) l34 c34 k34).binds (ps := ["fault"]) fun _ _ _ _ _ _ us hl => match us, hl with | [_], _ => rfl,
      g_need_fault := PySem.W.mg_of X G a34,
      F_happens := F35,
      b3_happens := F35.binds1 (ps := ["voice", "fault", "leg"]) 3 1 (by simp) rfl fun _ _ _ _ _ _ _ us its hl hi => match us, its, hl, hi with | [_, _, _], [_], _, _ => ⟨_, rfl, rfl⟩,
      kb0_happens := kbf_dflt (ps := ["voice", "fault", "leg"]) F35 0 ["leg", "fault", "voice"] [2, 1, 0] (by simp) fun _ _ _ _ _ _ _ us its ws hl hi hw => match us, its, ws, hl, hi, hw with | [], [_], [_, _, _], _, _, _ => ⟨_, rfl, rfl⟩,
      g_happens := PySem.W.mg_of X G a35,
      F_least_leg := fun_mk (st := st_least_leg) l36 c36 k36,
      b_least_leg := (fun_mk (st := st_least_leg) l36 c36 k36).binds (ps := ["voice", "fault"]) fun _ _ _ _ _ _ us hl => match us, hl with | [_, _], _ => rfl,
      kb0_least_leg := kbf_plain (ps := ["voice", "fault"]) (fun_mk (st := st_least_leg) l36 c36 k36) 0 ["fault", "voice"] [1, 0] fun _ _ _ _ _ _ us ws hl hw => match us, ws, hl, hw with | [], [_, _], _, _ => rfl,
      g_least_leg := PySem.W.mg_of X G a36,
      F_told_story := fun_mk (st := st_told_story) l37 c37 k37,
      b_told_story := (fun_mk (st := st_told_story) l37 c37 k37).binds (ps := ["follows", "reach"]) fun _ _ _ _ _ _ us hl => match us, hl with | [_, _], _ => rfl,
      g_told_story := PySem.W.mg_of X G a37,
      F_Walk_story_of := fun_mk (st := st_Walk_story_of) l38 c38 k38,
      b_Walk_story_of := (fun_mk (st := st_Walk_story_of) l38 c38 k38).binds (ps := ["self", "fault"]) fun _ _ _ _ _ _ us hl => match us, hl with | [_, _], _ => rfl,
      mt_Walk_story_of := by show Meth K _ _ _; rw [hcl_Walk]; exact ⟨a38, n38, k38⟩,
      F_story := F39,
      kb0_story := kbf_dflt (ps := ["voice", "fault", "leg"]) F39 0 ["fault", "voice", "leg"] [1, 0, 2] (by simp) fun _ _ _ _ _ _ _ us its ws hl hi hw => match us, its, ws, hl, hi, hw with | [], [_], [_, _, _], _, _, _ => ⟨_, rfl, rfl⟩,
      g_story := PySem.W.mg_of X G a39,
      F_law := fun_mk (st := st_law) l40 c40 k40,
      b_law := (fun_mk (st := st_law) l40 c40 k40).binds (ps := ["_law_script"]) fun _ _ _ _ _ _ us hl => match us, hl with | [_], _ => rfl,
      g_law := PySem.W.mg_of X G a40,
      z_len := PySem.W.mg_none_of X G z_len,
      z_all := PySem.W.mg_none_of X G z_all,
      z_int := PySem.W.mg_none_of X G z_int,
      z_isinstance := PySem.W.mg_none_of X G z_isinstance,
      z_str := PySem.W.mg_none_of X G z_str,
      z_bool := PySem.W.mg_none_of X G z_bool,
      z_enumerate := PySem.W.mg_none_of X G z_enumerate,
      z_list := PySem.W.mg_none_of X G z_list,
      z_tuple := PySem.W.mg_none_of X G z_tuple,
      z_set := PySem.W.mg_none_of X G z_set,
      z_max := PySem.W.mg_none_of X G z_max,
      z_abs := PySem.W.mg_none_of X G z_abs,
      z_range := PySem.W.mg_none_of X G z_range,
      z_zip := PySem.W.mg_none_of X G z_zip,
      c_BUSY := ⟨.ref p_BUSY, _, PySem.W.mg_of X G c_BUSY, rfl, fun W H => ⟨p_BUSY, [.str "wait", .str "drop", .str "cut"], rfl, .inr ⟨_, _, _, d_BUSY, rfl, rfl, by show 3 ≤ sizeLine; decide, (.cons ⟨t_BUSY_0, rfl⟩ (.cons ⟨t_BUSY_1, rfl⟩ (.cons ⟨t_BUSY_2, rfl⟩ .nil)))⟩, (rl_str (rl_str (rl_str rl_nil)))⟩⟩,
      c_DIGITS := ⟨.str "0123456789", _, PySem.W.mg_of X G c_DIGITS, ⟨t_DIGITS, rfl⟩, fun _ _ => rfl⟩,
      c_FARTHER := ⟨.int 8, _, PySem.W.mg_of X G c_FARTHER, ⟨t_FARTHER, rfl⟩, fun _ _ => rfl⟩,
      c_FAULTS := ⟨.ref p_FAULTS, _, PySem.W.mg_of X G c_FAULTS, rfl, fun W H => ⟨p_FAULTS, [.str "ahead", .str "behind", .str "crowd", .str "cut", .str "untold"], rfl, .inr ⟨_, _, _, d_FAULTS, rfl, rfl, by show 5 ≤ sizeLine; decide, (.cons ⟨t_FAULTS_0, rfl⟩ (.cons ⟨t_FAULTS_1, rfl⟩ (.cons ⟨t_FAULTS_2, rfl⟩ (.cons ⟨t_FAULTS_3, rfl⟩ (.cons ⟨t_FAULTS_4, rfl⟩ .nil)))))⟩, (rl_str (rl_str (rl_str (rl_str (rl_str rl_nil)))))⟩⟩,
      c_GREATEST_DISTANCE := ⟨.int 4, _, PySem.W.mg_of X G c_GREATEST_DISTANCE, ⟨t_GREATEST_DISTANCE, rfl⟩, fun _ _ => rfl⟩,
      c_GREATEST_JOINS := ⟨.int 3, _, PySem.W.mg_of X G c_GREATEST_JOINS, ⟨t_GREATEST_JOINS, rfl⟩, fun _ _ => rfl⟩,
      c_GREATEST_LEAST := ⟨.int 4, _, PySem.W.mg_of X G c_GREATEST_LEAST, ⟨t_GREATEST_LEAST, rfl⟩, fun _ _ => rfl⟩,
      c_GREATEST_LENGTH := ⟨.int 3, _, PySem.W.mg_of X G c_GREATEST_LENGTH, ⟨t_GREATEST_LENGTH, rfl⟩, fun _ _ => rfl⟩,
      c_LETTERS := ⟨.str "abcdefghijklmnopqrstuvwxyz", _, PySem.W.mg_of X G c_LETTERS, ⟨t_LETTERS, rfl⟩, fun _ _ => rfl⟩,
      c_LONGEST := ⟨.int 4, _, PySem.W.mg_of X G c_LONGEST, ⟨t_LONGEST, rfl⟩, fun _ _ => rfl⟩,
      c_MOST_DIGITS := ⟨.int 4, _, PySem.W.mg_of X G c_MOST_DIGITS, ⟨t_MOST_DIGITS, rfl⟩, fun _ _ => rfl⟩,
      c_MOST_LETTERS := ⟨.int 4, _, PySem.W.mg_of X G c_MOST_LETTERS, ⟨t_MOST_LETTERS, rfl⟩, fun _ _ => rfl⟩ }
  exact ⟨_, T.F_law, fun s v => .of_eq rfl, cl, fun base cdv A outer s0 H E hA hr => law_body T base cdv A outer s0 H E hA hr⟩
end K29
open PySem PySem.W PyProof.Rows
set_option maxRecDepth 100000 in
set_option maxHeartbeats 0 in
theorem PySem.Challenge.cw_turncalls_k29_deciding_by_names_holds : PySem.Challenge.rw_turncalls_k29_deciding_by_names.Holds := by
  w_on; o_law; k_head; (case hw => w_witness2)
  k_fill
  refine Mi.walk_law (l := PySem.Challenge.rw_turncalls_k29_deciding_by_names) (n := 63) (j := 10) (x := "_law_script") (st := K29.st_law) (N := ["_law_script", "_law_zsome", "_law_zturn", "_law_zmade", "_law_zsize", "_law_zword", "_law_zdue"]) (s := K29.s_law) (cl := fun _ _ => 0) rfl (by decide) rfl (by decide) (fun w h Y => PySem.W.kIn_of Y) K29.sc_law ?F K29.main
  case F =>
    intro w mg fa h KX G hmg
    refine' K29.all_mk KX G hmg ?a_Voice ?o1_Voice ?o2_Voice ?o3_Voice ?o4_Voice ?o5_Voice ?o6_Voice ?o7_Voice ?o8_Voice ?ic_Voice ?ty_Voice ?s0_Voice ?s1_Voice ?s2_Voice ?s3_Voice ?s4_Voice ?s5_Voice ?a_Call ?o1_Call ?o2_Call ?o3_Call ?o4_Call ?o5_Call ?o6_Call ?o7_Call ?o8_Call ?ic_Call ?ty_Call ?s0_Call ?s1_Call ?s2_Call ?s3_Call ?s4_Call ?s5_Call ?a_Walk ?o1_Walk ?o2_Walk ?o3_Walk ?o4_Walk ?o5_Walk ?o6_Walk ?o7_Walk ?o8_Walk ?ic_Walk ?ty_Walk ?s0_Walk ?s1_Walk ?s2_Walk ?s3_Walk ?s4_Walk ?s5_Walk ?a_Follow ?o1_Follow ?o2_Follow ?o3_Follow ?o4_Follow ?o5_Follow ?o6_Follow ?o7_Follow ?o8_Follow ?ic_Follow ?ty_Follow ?s0_Follow ?s1_Follow ?s2_Follow ?s3_Follow ?s4_Follow ?s5_Follow ?a_Course ?o1_Course ?o2_Course ?o3_Course ?o4_Course ?o5_Course ?o6_Course ?o7_Course ?o8_Course ?ic_Course ?ty_Course ?s0_Course ?s1_Course ?s2_Course ?s3_Course ?s4_Course ?s5_Course ?n_Call_busy ?n_Call_distance ?n_Call_joins ?n_Call_least ?n_Call_length ?n_Call_name ?n_Course_met ?n_Course_speaker ?n_Course_speech ?n_Course_told_now ?n_Course_turns ?n_Course_waiting ?n_Follow_chosen ?n_Follow_is_near ?n_Follow_later ?n_Follow_said ?n_Follow_word ?n_Follow_wrong ?n_Voice_calls ?n_Voice_names ?n_Voice_reach ?n_Walk_came_by ?n_Walk_first_met ?n_Walk_order ?n_Walk_reach ?a_InvalidCall ?a_InvalidText ?a_InvalidVoice ?a_InvalidFault ?eb_InvalidCall ?et_InvalidCall ?ek_InvalidCall ?eh_InvalidCall ?kr_InvalidCall ?kr2_InvalidCall ?kr3_InvalidCall ?e_op ?e1_InvalidCall ?e2_InvalidCall ?e3_InvalidCall ?e4_InvalidCall ?e5_InvalidCall ?e6_InvalidCall ?e7_InvalidCall ?e8_InvalidCall ?e9_InvalidCall ?rr1_InvalidCall ?rr2_InvalidCall ?e0_InvalidCall ?e_sup ?rr_top ?eb_InvalidText ?et_InvalidText ?ek_InvalidText ?eh_InvalidText ?kr_InvalidText ?kr2_InvalidText ?kr3_InvalidText ?e1_InvalidText ?e2_InvalidText ?e3_InvalidText ?e4_InvalidText ?e5_InvalidText ?e6_InvalidText ?e7_InvalidText ?e8_InvalidText ?e9_InvalidText ?rr1_InvalidText ?rr2_InvalidText ?e0_InvalidText ?eb_InvalidVoice ?et_InvalidVoice ?ek_InvalidVoice ?eh_InvalidVoice ?kr_InvalidVoice ?kr2_InvalidVoice ?kr3_InvalidVoice ?e1_InvalidVoice ?e2_InvalidVoice ?e3_InvalidVoice ?e4_InvalidVoice ?e5_InvalidVoice ?e6_InvalidVoice ?e7_InvalidVoice ?e8_InvalidVoice ?e9_InvalidVoice ?rr1_InvalidVoice ?rr2_InvalidVoice ?e0_InvalidVoice ?eb_InvalidFault ?et_InvalidFault ?ek_InvalidFault ?eh_InvalidFault ?kr_InvalidFault ?ex_InvalidCall_InvalidCall ?a1 ?l1 ?c1 ?k1 ?a2 ?l2 ?c2 ?k2 ?n2 ?m2 ?q2 ?a3 ?l3 ?c3 ?k3 ?a4 ?l4 ?c4 ?k4 ?a5 ?l5 ?c5 ?k5 ?a6 ?l6 ?c6 ?k6 ?a7 ?l7 ?c7 ?k7 ?a8 ?l8 ?c8 ?k8 ?t8 ?n8 ?m8 ?q8 ?a9 ?l9 ?c9 ?k9 ?a10 ?l10 ?c10 ?k10 ?r111 ?r211 ?r311 ?r411 ?r511 ?l11 ?c11 ?k11 ?a12 ?l12 ?c12 ?k12 ?a13 ?l13 ?c13 ?k13 ?n13 ?a14 ?l14 ?c14 ?k14 ?n14 ?m14 ?q14 ?a15 ?l15 ?c15 ?k15 ?a16 ?l16 ?c16 ?k16 ?a17 ?l17 ?c17 ?k17 ?a18 ?l18 ?c18 ?k18 ?a19 ?l19 ?c19 ?k19 ?n19 ?a20 ?l20 ?c20 ?k20 ?n20 ?a21 ?l21 ?c21 ?k21 ?n21 ?a22 ?l22 ?c22 ?k22 ?a23 ?l23 ?c23 ?k23 ?n23 ?m23 ?q23 ?a24 ?l24 ?c24 ?k24 ?n24 ?a25 ?l25 ?c25 ?k25 ?n25 ?a26 ?l26 ?c26 ?k26 ?n26 ?a27 ?l27 ?c27 ?k27 ?n27 ?a28 ?l28 ?c28 ?k28 ?n28 ?a29 ?l29 ?c29 ?k29 ?a30 ?l30 ?c30 ?k30 ?a31 ?l31 ?c31 ?k31 ?n31 ?m31 ?q31 ?a32 ?l32 ?c32 ?k32 ?t32 ?a33 ?l33 ?c33 ?k33 ?a34 ?l34 ?c34 ?k34 ?a35 ?l35 ?c35 ?k35 ?t35 ?a36 ?l36 ?c36 ?k36 ?a37 ?l37 ?c37 ?k37 ?a38 ?l38 ?c38 ?k38 ?n38 ?a39 ?l39 ?c39 ?k39 ?t39 ?a40 ?l40 ?c40 ?k40 ?z_len ?z_all ?z_int ?z_isinstance ?z_str ?z_bool ?z_enumerate ?z_list ?z_tuple ?z_set ?z_max ?z_abs ?z_range ?z_zip ?c_BUSY ?d_BUSY ?c_DIGITS ?c_FARTHER ?c_FAULTS ?d_FAULTS ?c_GREATEST_DISTANCE ?c_GREATEST_JOINS ?c_GREATEST_LEAST ?c_GREATEST_LENGTH ?c_LETTERS ?c_LONGEST ?c_MOST_DIGITS ?c_MOST_LETTERS
    (case a_Voice => k_is)
    (case o1_Voice => k_is)
    (case o2_Voice => k_is)
    (case o3_Voice => k_is)
    (case o4_Voice => k_is)
    (case o5_Voice => k_is)
    (case o6_Voice => k_is)
    (case o7_Voice => k_is)
    (case o8_Voice => k_is)
    (case ic_Voice => k_is)
    (case ty_Voice => k_is)
    (case s0_Voice => k_is)
    (case s1_Voice => k_is)
    (case s2_Voice => k_is)
    (case s3_Voice => k_is)
    (case s4_Voice => k_is)
    (case s5_Voice => k_is)
    (case a_Call => k_is)
    (case o1_Call => k_is)
    (case o2_Call => k_is)
    (case o3_Call => k_is)
    (case o4_Call => k_is)
    (case o5_Call => k_is)
    (case o6_Call => k_is)
    (case o7_Call => k_is)
    (case o8_Call => k_is)
    (case ic_Call => k_is)
    (case ty_Call => k_is)
    (case s0_Call => k_is)
    (case s1_Call => k_is)
    (case s2_Call => k_is)
    (case s3_Call => k_is)
    (case s4_Call => k_is)
    (case s5_Call => k_is)
    (case a_Walk => k_is)
    (case o1_Walk => k_is)
    (case o2_Walk => k_is)
    (case o3_Walk => k_is)
    (case o4_Walk => k_is)
    (case o5_Walk => k_is)
    (case o6_Walk => k_is)
    (case o7_Walk => k_is)
    (case o8_Walk => k_is)
    (case ic_Walk => k_is)
    (case ty_Walk => k_is)
    (case s0_Walk => k_is)
    (case s1_Walk => k_is)
    (case s2_Walk => k_is)
    (case s3_Walk => k_is)
    (case s4_Walk => k_is)
    (case s5_Walk => k_is)
    (case a_Follow => k_is)
    (case o1_Follow => k_is)
    (case o2_Follow => k_is)
    (case o3_Follow => k_is)
    (case o4_Follow => k_is)
    (case o5_Follow => k_is)
    (case o6_Follow => k_is)
    (case o7_Follow => k_is)
    (case o8_Follow => k_is)
    (case ic_Follow => k_is)
    (case ty_Follow => k_is)
    (case s0_Follow => k_is)
    (case s1_Follow => k_is)
    (case s2_Follow => k_is)
    (case s3_Follow => k_is)
    (case s4_Follow => k_is)
    (case s5_Follow => k_is)
    (case a_Course => k_is)
    (case o1_Course => k_is)
    (case o2_Course => k_is)
    (case o3_Course => k_is)
    (case o4_Course => k_is)
    (case o5_Course => k_is)
    (case o6_Course => k_is)
    (case o7_Course => k_is)
    (case o8_Course => k_is)
    (case ic_Course => k_is)
    (case ty_Course => k_is)
    (case s0_Course => k_is)
    (case s1_Course => k_is)
    (case s2_Course => k_is)
    (case s3_Course => k_is)
    (case s4_Course => k_is)
    (case s5_Course => k_is)
    (case n_Call_busy => k_is)
    (case n_Call_distance => k_is)
    (case n_Call_joins => k_is)
    (case n_Call_least => k_is)
    (case n_Call_length => k_is)
    (case n_Call_name => k_is)
    (case n_Course_met => k_is)
    (case n_Course_speaker => k_is)
    (case n_Course_speech => k_is)
    (case n_Course_told_now => k_is)
    (case n_Course_turns => k_is)
    (case n_Course_waiting => k_is)
    (case n_Follow_chosen => k_is)
    (case n_Follow_is_near => k_is)
    (case n_Follow_later => k_is)
    (case n_Follow_said => k_is)
    (case n_Follow_word => k_is)
    (case n_Follow_wrong => k_is)
    (case n_Voice_calls => k_is)
    (case n_Voice_names => k_is)
    (case n_Voice_reach => k_is)
    (case n_Walk_came_by => k_is)
    (case n_Walk_first_met => k_is)
    (case n_Walk_order => k_is)
    (case n_Walk_reach => k_is)
    (case a_InvalidCall => k_is)
    (case a_InvalidText => k_is)
    (case a_InvalidVoice => k_is)
    (case a_InvalidFault => k_is)
    (case eb_InvalidCall => k_is)
    (case et_InvalidCall => k_is)
    (case ek_InvalidCall => k_is)
    (case eh_InvalidCall => k_is)
    (case kr_InvalidCall => first | kernel_rfl | rfl | decide +kernel)
    (case kr2_InvalidCall => first | kernel_rfl | rfl | decide +kernel)
    (case kr3_InvalidCall => first | kernel_rfl | rfl | decide +kernel)
    (case e_op => k_is)
    (case e1_InvalidCall => k_is)
    (case e2_InvalidCall => k_is)
    (case e3_InvalidCall => k_is)
    (case e4_InvalidCall => k_is)
    (case e5_InvalidCall => k_is)
    (case e6_InvalidCall => k_is)
    (case e7_InvalidCall => k_is)
    (case e8_InvalidCall => k_is)
    (case e9_InvalidCall => k_is)
    (case rr1_InvalidCall => first | exact rfl | decide +kernel)
    (case rr2_InvalidCall => first | exact rfl | decide +kernel)
    (case e0_InvalidCall => k_is)
    (case e_sup => k_is)
    (case rr_top => first | exact rfl | decide +kernel)
    (case eb_InvalidText => k_is)
    (case et_InvalidText => k_is)
    (case ek_InvalidText => k_is)
    (case eh_InvalidText => k_is)
    (case kr_InvalidText => first | kernel_rfl | rfl | decide +kernel)
    (case kr2_InvalidText => first | kernel_rfl | rfl | decide +kernel)
    (case kr3_InvalidText => first | kernel_rfl | rfl | decide +kernel)
    (case e1_InvalidText => k_is)
    (case e2_InvalidText => k_is)
    (case e3_InvalidText => k_is)
    (case e4_InvalidText => k_is)
    (case e5_InvalidText => k_is)
    (case e6_InvalidText => k_is)
    (case e7_InvalidText => k_is)
    (case e8_InvalidText => k_is)
    (case e9_InvalidText => k_is)
    (case rr1_InvalidText => first | exact rfl | decide +kernel)
    (case rr2_InvalidText => first | exact rfl | decide +kernel)
    (case e0_InvalidText => k_is)
    (case eb_InvalidVoice => k_is)
    (case et_InvalidVoice => k_is)
    (case ek_InvalidVoice => k_is)
    (case eh_InvalidVoice => k_is)
    (case kr_InvalidVoice => first | kernel_rfl | rfl | decide +kernel)
    (case kr2_InvalidVoice => first | kernel_rfl | rfl | decide +kernel)
    (case kr3_InvalidVoice => first | kernel_rfl | rfl | decide +kernel)
    (case e1_InvalidVoice => k_is)
    (case e2_InvalidVoice => k_is)
    (case e3_InvalidVoice => k_is)
    (case e4_InvalidVoice => k_is)
    (case e5_InvalidVoice => k_is)
    (case e6_InvalidVoice => k_is)
    (case e7_InvalidVoice => k_is)
    (case e8_InvalidVoice => k_is)
    (case e9_InvalidVoice => k_is)
    (case rr1_InvalidVoice => first | exact rfl | decide +kernel)
    (case rr2_InvalidVoice => first | exact rfl | decide +kernel)
    (case e0_InvalidVoice => k_is)
    (case eb_InvalidFault => k_is)
    (case et_InvalidFault => k_is)
    (case ek_InvalidFault => k_is)
    (case eh_InvalidFault => k_is)
    (case kr_InvalidFault => first | kernel_rfl | rfl | decide +kernel)
    (case ex_InvalidCall_InvalidCall => k_is)
    (case a1 => k_is)
    (case l1 => k_is)
    (case c1 => k_is)
    (case k1 => k_is)
    (case a2 => k_is)
    (case l2 => k_is)
    (case c2 => k_is)
    (case k2 => k_is)
    (case n2 => k_is)
    (case m2 => k_is)
    (case q2 => k_is)
    (case a3 => k_is)
    (case l3 => k_is)
    (case c3 => k_is)
    (case k3 => k_is)
    (case a4 => k_is)
    (case l4 => k_is)
    (case c4 => k_is)
    (case k4 => k_is)
    (case a5 => k_is)
    (case l5 => k_is)
    (case c5 => k_is)
    (case k5 => k_is)
    (case a6 => k_is)
    (case l6 => k_is)
    (case c6 => k_is)
    (case k6 => k_is)
    (case a7 => k_is)
    (case l7 => k_is)
    (case c7 => k_is)
    (case k7 => k_is)
    (case a8 => k_is)
    (case l8 => k_is)
    (case c8 => k_is)
    (case k8 => k_is)
    (case t8 => k_is)
    (case n8 => k_is)
    (case m8 => k_is)
    (case q8 => k_is)
    (case a9 => k_is)
    (case l9 => k_is)
    (case c9 => k_is)
    (case k9 => k_is)
    (case a10 => k_is)
    (case l10 => k_is)
    (case c10 => k_is)
    (case k10 => k_is)
    (case r111 => k_is)
    (case r211 => k_is)
    (case r311 => k_is)
    (case r411 => k_is)
    (case r511 => k_is)
    (case l11 => k_is)
    (case c11 => k_is)
    (case k11 => k_is)
    (case a12 => k_is)
    (case l12 => k_is)
    (case c12 => k_is)
    (case k12 => k_is)
    (case a13 => k_is)
    (case l13 => k_is)
    (case c13 => k_is)
    (case k13 => k_is)
    (case n13 => k_is)
    (case a14 => k_is)
    (case l14 => k_is)
    (case c14 => k_is)
    (case k14 => k_is)
    (case n14 => k_is)
    (case m14 => k_is)
    (case q14 => k_is)
    (case a15 => k_is)
    (case l15 => k_is)
    (case c15 => k_is)
    (case k15 => k_is)
    (case a16 => k_is)
    (case l16 => k_is)
    (case c16 => k_is)
    (case k16 => k_is)
    (case a17 => k_is)
    (case l17 => k_is)
    (case c17 => k_is)
    (case k17 => k_is)
    (case a18 => k_is)
    (case l18 => k_is)
    (case c18 => k_is)
    (case k18 => k_is)
    (case a19 => k_is)
    (case l19 => k_is)
    (case c19 => k_is)
    (case k19 => k_is)
    (case n19 => k_is)
    (case a20 => k_is)
    (case l20 => k_is)
    (case c20 => k_is)
    (case k20 => k_is)
    (case n20 => k_is)
    (case a21 => k_is)
    (case l21 => k_is)
    (case c21 => k_is)
    (case k21 => k_is)
    (case n21 => k_is)
    (case a22 => k_is)
    (case l22 => k_is)
    (case c22 => k_is)
    (case k22 => k_is)
    (case a23 => k_is)
    (case l23 => k_is)
    (case c23 => k_is)
    (case k23 => k_is)
    (case n23 => k_is)
    (case m23 => k_is)
    (case q23 => k_is)
    (case a24 => k_is)
    (case l24 => k_is)
    (case c24 => k_is)
    (case k24 => k_is)
    (case n24 => k_is)
    (case a25 => k_is)
    (case l25 => k_is)
    (case c25 => k_is)
    (case k25 => k_is)
    (case n25 => k_is)
    (case a26 => k_is)
    (case l26 => k_is)
    (case c26 => k_is)
    (case k26 => k_is)
    (case n26 => k_is)
    (case a27 => k_is)
    (case l27 => k_is)
    (case c27 => k_is)
    (case k27 => k_is)
    (case n27 => k_is)
    (case a28 => k_is)
    (case l28 => k_is)
    (case c28 => k_is)
    (case k28 => k_is)
    (case n28 => k_is)
    (case a29 => k_is)
    (case l29 => k_is)
    (case c29 => k_is)
    (case k29 => k_is)
    (case a30 => k_is)
    (case l30 => k_is)
    (case c30 => k_is)
    (case k30 => k_is)
    (case a31 => k_is)
    (case l31 => k_is)
    (case c31 => k_is)
    (case k31 => k_is)
    (case n31 => k_is)
    (case m31 => k_is)
    (case q31 => k_is)
    (case a32 => k_is)
    (case l32 => k_is)
    (case c32 => k_is)
    (case k32 => k_is)
    (case t32 => k_is)
    (case a33 => k_is)
    (case l33 => k_is)
    (case c33 => k_is)
    (case k33 => k_is)
    (case a34 => k_is)
    (case l34 => k_is)
    (case c34 => k_is)
    (case k34 => k_is)
    (case a35 => k_is)
    (case l35 => k_is)
    (case c35 => k_is)
    (case k35 => k_is)
    (case t35 => k_is)
    (case a36 => k_is)
    (case l36 => k_is)
    (case c36 => k_is)
    (case k36 => k_is)
    (case a37 => k_is)
    (case l37 => k_is)
    (case c37 => k_is)
    (case k37 => k_is)
    (case a38 => k_is)
    (case l38 => k_is)
    (case c38 => k_is)
    (case k38 => k_is)
    (case n38 => k_is)
    (case a39 => k_is)
    (case l39 => k_is)
    (case c39 => k_is)
    (case k39 => k_is)
    (case t39 => k_is)
    (case a40 => k_is)
    (case l40 => k_is)
    (case c40 => k_is)
    (case k40 => k_is)
    (case z_len => k_is)
    (case z_all => k_is)
    (case z_int => k_is)
    (case z_isinstance => k_is)
    (case z_str => k_is)
    (case z_bool => k_is)
    (case z_enumerate => k_is)
    (case z_list => k_is)
    (case z_tuple => k_is)
    (case z_set => k_is)
    (case z_max => k_is)
    (case z_abs => k_is)
    (case z_range => k_is)
    (case z_zip => k_is)
    (case c_BUSY => k_is)
    (case d_BUSY => k_is)
    (case c_DIGITS => k_is)
    (case c_FARTHER => k_is)
    (case c_FAULTS => k_is)
    (case d_FAULTS => k_is)
    (case c_GREATEST_DISTANCE => k_is)
    (case c_GREATEST_JOINS => k_is)
    (case c_GREATEST_LEAST => k_is)
    (case c_GREATEST_LENGTH => k_is)
    (case c_LETTERS => k_is)
    (case c_LONGEST => k_is)
    (case c_MOST_DIGITS => k_is)
    (case c_MOST_LETTERS => k_is)
