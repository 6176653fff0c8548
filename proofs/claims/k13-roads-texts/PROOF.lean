import PyProof.Rows.All
import Wide.All
import OpenK.AllK
import Wide.FinOn
import HandS.ForMost
import HandS.ForExc
import HandS.CallSlots
import HandS.TupAny
import HandS.IsInst
import HandS.Style
import HandS.RaiseMore
import KE.GoesEnum
import KE.GoesMore
import PyProof.ReprRoads
import HandS.EndBits
import PySem.Challenge.RW_turncalls_k13_roads_and_their_texts
set_option Elab.async false
set_option linter.all false
set_option maxRecDepth 100000
set_option maxHeartbeats 4000000
namespace Mi
open PySem L2

/-! ### mirror values, errors, objects of the store -/
inductive Val where
  | non | bl (b : Bool) | int (i : Int) | str (x : Str)
  | tup (xs : List Val) | lst (xs : List Val) | rol (xs : List Val)
  | ins (c : Str) (ks : List Str) (xs : List Val)
  | ref (i : Nat)
structure Exc where
  cls : Str
  ks : List Str
  xs : List Val
inductive SO where
  | lst (xs : List Val)
  | ins (c : Str) (ks : List Str) (xs : List Val)
abbrev Env := List (Option Val)
abbrev Sto := List SO
abbrev Res (α : Type) := Option (Except Exc α × Sto)
abbrev M (α : Type) := Env → Sto → Res α

/-! ### how they stand in the heap -/
/-- what is fixed: the written part, where the classes stand -/
structure Kx where
  K : PySem.W.Frag
  cl : Str → Addr
structure Wd where
  rho : List Addr
  fz : Addr → Prop
/-- a list that is read alone: the script, a list of the module's own top -/
def RoL (k : Kx) (H : Hp) (p : Addr) (vs : List V) : Prop := (∃ o, H p = some (.frz o (.lst vs))) ∨ SqL k.K (fun _ => none) p vs
mutual
def RepV (k : Kx) (W : Wd) (H : Hp) : Val → V → Prop
  | .non, v => v = .non
  | .bl b, v => v = .bl b
  | .int i, v => v = .int i
  | .str x, v => v = .str x
  | .tup xs, v => ∃ p vs, v = .ref p ∧ SqT k.K H p vs ∧ RepL k W H xs vs
  | .lst xs, v => ∃ p vs, v = .ref p ∧ W.fz p ∧ H p = some (.lst vs) ∧ RepL k W H xs vs
  | .rol xs, v => ∃ p vs, v = .ref p ∧ RoL k H p vs ∧ RepL k W H xs vs
  | .ins c ks xs, v => ∃ p dx vs, v = .ref p ∧ W.fz p ∧ H p = some (.ins (k.cl c) dx (ks.zip vs)) ∧ ks.length = xs.length ∧ RepL k W H xs vs
  | .ref i, v => ∃ p, v = .ref p ∧ W.rho[i]? = some p
def RepL (k : Kx) (W : Wd) (H : Hp) : List Val → List V → Prop
  | [], vs => vs = []
  | x :: xs, vs => ∃ v r, vs = v :: r ∧ RepV k W H x v ∧ RepL k W H xs r
end
def Imm : HO → Prop
  | .tup _ => True
  | .frz _ _ => True
  | .xd _ => True
  | _ => False
structure Le (W W' : Wd) (H H' : Hp) : Prop where
  rho : ∃ more, W'.rho = W.rho ++ more
  fz : ∀ p, W.fz p → W'.fz p
  imm : ∀ p o, H p = some o → Imm o → H' p = some o
  keep : ∀ p o, H p = some o → W.fz p → H' p = some o
  rest : ∀ p o, H p = some o → p ∉ W.rho → H' p = some o
  newr : ∀ p, p ∈ W'.rho → p ∈ W.rho ∨ H p = none
  newf : ∀ p, W'.fz p → W.fz p ∨ H p = none
  dom : ∀ p, H p ≠ none → H' p ≠ none
theorem Le.refl (W : Wd) (H : Hp) : Le W W H H := ⟨⟨[], by simp⟩, fun _ h => h, fun _ _ h _ => h, fun _ _ h _ => h, fun _ _ h _ => h, fun _ h => .inl h, fun _ h => .inl h, fun _ h => h⟩
theorem Le.trans {W W1 W2 : Wd} {H H1 H2 : Hp} (a : Le W W1 H H1) (b : Le W1 W2 H1 H2) : Le W W2 H H2 := by
  obtain ⟨m1, e1⟩ := a.rho
  obtain ⟨m2, e2⟩ := b.rho
  have back : ∀ p, H1 p = none → H p = none := fun p h => by
    cases q : H p with
    | none => rfl
    | some o => exact absurd h (a.dom p (by rw [q]; exact fun z => nomatch z))
  refine ⟨⟨m1 ++ m2, by rw [e2, e1, List.append_assoc]⟩, fun p h => b.fz p (a.fz p h), fun p o h i => b.imm p o (a.imm p o h i) i, fun p o h f => b.keep p o (a.keep p o h f) (a.fz p f), fun p o h n => b.rest p o (a.rest p o h n) fun m => ?_, fun p m => ?_, fun p f => ?_, fun p h => b.dom p (a.dom p h)⟩
  · rcases a.newr p m with z | z
    · exact n z
    · rw [h] at z
      cases z
  · rcases b.newr p m with z | z
    · exact a.newr p z
    · exact .inr (back p z)
  · rcases b.newf p f with z | z
    · exact a.newf p z
    · exact .inr (back p z)
theorem Le.sqT {k : Kx} {W W' : Wd} {H H' : Hp} {p : Addr} {vs : List V} (l : Le W W' H H') (h : SqT k.K H p vs) : SqT k.K H' p vs := by
  rcases h with (h | ⟨o, h⟩) | h
  · exact .inl (.inl (l.imm _ _ h trivial))
  · exact .inl (.inr ⟨o, l.imm _ _ h trivial⟩)
  · exact .inr h
theorem Le.at {W W' : Wd} {H H' : Hp} {i : Nat} {p : Addr} (l : Le W W' H H') (h : W.rho[i]? = some p) : W'.rho[i]? = some p := by
  obtain ⟨m, e⟩ := l.rho
  rw [e, List.getElem?_append_left (List.getElem?_eq_some_iff.mp h).1]
  exact h
mutual
theorem RepV.more {k : Kx} {W W' : Wd} {H : Hp} (er : ∀ (i : Nat) p, W.rho[i]? = some p → W'.rho[i]? = some p) (ef : ∀ p, W.fz p → W'.fz p) : ∀ {x : Val} {v : V}, RepV k W H x v → RepV k W' H x v
  | .non, _, h => h
  | .bl _, _, h => h
  | .int _, _, h => h
  | .str _, _, h => h
  | .tup xs, _, h => by
    obtain ⟨p, vs, e, s, r⟩ := h
    exact ⟨p, vs, e, s, RepL.more er ef r⟩
  | .lst xs, _, h => by
    obtain ⟨p, vs, e, f, s, r⟩ := h
    exact ⟨p, vs, e, ef _ f, s, RepL.more er ef r⟩
  | .rol xs, _, h => by
    obtain ⟨p, vs, e, s, r⟩ := h
    exact ⟨p, vs, e, s, RepL.more er ef r⟩
  | .ins c ks xs, _, h => by
    obtain ⟨p, dx, vs, e, f, s, n, r⟩ := h
    exact ⟨p, dx, vs, e, ef _ f, s, n, RepL.more er ef r⟩
  | .ref i, _, h => by
    obtain ⟨p, e, s⟩ := h
    exact ⟨p, e, er _ _ s⟩
theorem RepL.more {k : Kx} {W W' : Wd} {H : Hp} (er : ∀ (i : Nat) p, W.rho[i]? = some p → W'.rho[i]? = some p) (ef : ∀ p, W.fz p → W'.fz p) : ∀ {xs : List Val} {vs : List V}, RepL k W H xs vs → RepL k W' H xs vs
  | [], _, h => h
  | x :: xs, _, h => by
    obtain ⟨v, r, e, h1, h2⟩ := h
    exact ⟨v, r, e, RepV.more er ef h1, RepL.more er ef h2⟩
end
mutual
/-- an object that no value speaks of may change -/
theorem RepV.aside {k : Kx} {W : Wd} {H : Hp} {D : Addr} {acc : List V} {o : HO} (hf : ¬ W.fz D) (hD : H D = some (.lst acc)) : ∀ {x : Val} {v : V}, RepV k W H x v → RepV k W (upd H D o) x v
  | .non, _, h => h
  | .bl _, _, h => h
  | .int _, _, h => h
  | .str _, _, h => h
  | .tup xs, _, h => by
    obtain ⟨p, vs, e, s, r⟩ := h
    refine ⟨p, vs, e, ?_, RepL.aside hf hD r⟩
    rcases s with (s | ⟨u, s⟩) | s
    · exact .inl (.inl (by rw [upd_ne (ne_of s hD (fun z => nomatch z))]; exact s))
    · exact .inl (.inr ⟨u, by rw [upd_ne (ne_of s hD (fun z => nomatch z))]; exact s⟩)
    · exact .inr s
  | .lst xs, _, h => by
    obtain ⟨p, vs, e, f, s, r⟩ := h
    have ne : p ≠ D := fun z => hf (z ▸ f)
    exact ⟨p, vs, e, f, by rw [upd_ne ne]; exact s, RepL.aside hf hD r⟩
  | .rol xs, _, h => by
    obtain ⟨p, vs, e, s, r⟩ := h
    refine ⟨p, vs, e, ?_, RepL.aside hf hD r⟩
    rcases s with ⟨u, s⟩ | s
    · exact .inl ⟨u, by rw [upd_ne (ne_of s hD (fun z => nomatch z))]; exact s⟩
    · exact .inr s
  | .ins c ks xs, _, h => by
    obtain ⟨p, dx, vs, e, f, s, n, r⟩ := h
    have ne : p ≠ D := fun z => hf (z ▸ f)
    exact ⟨p, dx, vs, e, f, by rw [upd_ne ne]; exact s, n, RepL.aside hf hD r⟩
  | .ref i, _, h => h
theorem RepL.aside {k : Kx} {W : Wd} {H : Hp} {D : Addr} {acc : List V} {o : HO} (hf : ¬ W.fz D) (hD : H D = some (.lst acc)) : ∀ {xs : List Val} {vs : List V}, RepL k W H xs vs → RepL k W (upd H D o) xs vs
  | [], _, h => h
  | x :: xs, _, h => by
    obtain ⟨v, r, e, h1, h2⟩ := h
    exact ⟨v, r, e, RepV.aside hf hD h1, RepL.aside hf hD h2⟩
end
mutual
theorem RepV.le {k : Kx} {W W' : Wd} {H H' : Hp} (l : Le W W' H H') : ∀ {x : Val} {v : V}, RepV k W H x v → RepV k W' H' x v
  | .non, _, h => h
  | .bl _, _, h => h
  | .int _, _, h => h
  | .str _, _, h => h
  | .tup xs, _, h => by
    obtain ⟨p, vs, e, s, r⟩ := h
    exact ⟨p, vs, e, l.sqT s, RepL.le l r⟩
  | .lst xs, _, h => by
    obtain ⟨p, vs, e, f, s, r⟩ := h
    exact ⟨p, vs, e, l.fz _ f, l.keep _ _ s f, RepL.le l r⟩
  | .rol xs, _, h => by
    obtain ⟨p, vs, e, s, r⟩ := h
    refine ⟨p, vs, e, ?_, RepL.le l r⟩
    rcases s with ⟨o, s⟩ | s
    · exact .inl ⟨o, l.imm _ _ s trivial⟩
    · exact .inr s
  | .ins c ks xs, _, h => by
    obtain ⟨p, dx, vs, e, f, s, n, r⟩ := h
    exact ⟨p, dx, vs, e, l.fz _ f, l.keep _ _ s f, n, RepL.le l r⟩
  | .ref i, _, h => by
    obtain ⟨p, e, s⟩ := h
    exact ⟨p, e, l.at s⟩
theorem RepL.le {k : Kx} {W W' : Wd} {H H' : Hp} (l : Le W W' H H') : ∀ {xs : List Val} {vs : List V}, RepL k W H xs vs → RepL k W' H' xs vs
  | [], _, h => h
  | x :: xs, _, h => by
    obtain ⟨v, r, e, h1, h2⟩ := h
    exact ⟨v, r, e, RepV.le l h1, RepL.le l h2⟩
end
theorem RepL.len {k : Kx} {W : Wd} {H : Hp} : ∀ {xs : List Val} {vs : List V}, RepL k W H xs vs → vs.length = xs.length
  | [], _, h => by
    have e : _ = _ := h
    rw [e]
    rfl
  | x :: xs, _, h => by
    obtain ⟨v, r, rfl, h1, h2⟩ := h
    simp [RepL.len h2]
theorem RepL.get {k : Kx} {W : Wd} {H : Hp} : ∀ {xs : List Val} {vs : List V} {i : Nat} {x : Val}, RepL k W H xs vs → xs[i]? = some x → ∃ v, vs[i]? = some v ∧ RepV k W H x v
  | [], _, _, _, h, e => by simp at e
  | y :: xs, _, i, x, h, e => by
    obtain ⟨v, r, rfl, h1, h2⟩ := h
    cases i with
    | zero =>
      have e' : y = x := by simpa using e
      subst e'
      exact ⟨v, rfl, h1⟩
    | succ i => exact RepL.get (i := i) h2 (by simpa using e)
theorem RepL.append {k : Kx} {W : Wd} {H : Hp} : ∀ {xs ys : List Val} {vs us : List V}, RepL k W H xs vs → RepL k W H ys us → RepL k W H (xs ++ ys) (vs ++ us)
  | [], _, _, _, h, g => by
    have e : _ = _ := h
    rw [e]
    exact g
  | x :: xs, _, _, _, h, g => by
    obtain ⟨v, r, rfl, h1, h2⟩ := h
    exact ⟨v, _, rfl, h1, RepL.append h2 g⟩
theorem RepL.cons {k : Kx} {W : Wd} {H : Hp} {x : Val} {xs : List Val} {v : V} {vs : List V} (h : RepV k W H x v) (t : RepL k W H xs vs) : RepL k W H (x :: xs) (v :: vs) := ⟨v, vs, rfl, h, t⟩
theorem RepL.take {k : Kx} {W : Wd} {H : Hp} : ∀ {xs : List Val} {vs : List V} (n : Nat), RepL k W H xs vs → RepL k W H (xs.take n) (vs.take n)
  | [], _, n, h => by
    have e : _ = _ := h
    rw [e]
    cases n <;> rfl
  | x :: xs, _, 0, h => rfl
  | x :: xs, _, n + 1, h => by
    obtain ⟨v, r, rfl, h1, h2⟩ := h
    exact ⟨v, _, rfl, h1, RepL.take n h2⟩
theorem RepL.drop {k : Kx} {W : Wd} {H : Hp} : ∀ {xs : List Val} {vs : List V} (n : Nat), RepL k W H xs vs → RepL k W H (xs.drop n) (vs.drop n)
  | [], _, n, h => by
    have e : _ = _ := h
    rw [e]
    cases n <;> rfl
  | x :: xs, _, 0, h => h
  | x :: xs, _, n + 1, h => by
    obtain ⟨v, r, rfl, h1, h2⟩ := h
    exact RepL.drop n h2
theorem RepL.set {k : Kx} {W : Wd} {H : Hp} {x : Val} {v : V} (h : RepV k W H x v) : ∀ {xs : List Val} {vs : List V} (n : Nat), RepL k W H xs vs → RepL k W H (xs.set n x) (vs.set n v)
  | [], _, n, g => by
    have e : _ = _ := g
    rw [e]
    cases n <;> rfl
  | y :: xs, _, 0, g => by
    obtain ⟨u, r, rfl, h1, h2⟩ := g
    exact ⟨v, r, rfl, h, h2⟩
  | y :: xs, _, n + 1, g => by
    obtain ⟨u, r, rfl, h1, h2⟩ := g
    exact ⟨u, _, rfl, h1, RepL.set h n h2⟩
theorem RepL.eraseIdx {k : Kx} {W : Wd} {H : Hp} : ∀ {xs : List Val} {vs : List V} (n : Nat), RepL k W H xs vs → RepL k W H (xs.eraseIdx n) (vs.eraseIdx n)
  | [], _, n, g => by
    have e : _ = _ := g
    rw [e]
    cases n <;> rfl
  | y :: xs, _, 0, g => by
    obtain ⟨u, r, rfl, h1, h2⟩ := g
    exact h2
  | y :: xs, _, n + 1, g => by
    obtain ⟨u, r, rfl, h1, h2⟩ := g
    exact ⟨u, _, rfl, h1, RepL.eraseIdx n h2⟩
theorem RepL.reverse {k : Kx} {W : Wd} {H : Hp} : ∀ {xs : List Val} {vs : List V}, RepL k W H xs vs → RepL k W H xs.reverse vs.reverse
  | [], _, h => by
    have e : _ = _ := h
    rw [e]
    rfl
  | x :: xs, _, h => by
    obtain ⟨v, r, rfl, h1, h2⟩ := h
    rw [List.reverse_cons, List.reverse_cons]
    exact RepL.append (RepL.reverse h2) ⟨v, [], rfl, h1, rfl⟩
theorem RepL.map {k : Kx} {W : Wd} {H : Hp} {α : Type} {f : α → Val} {g : α → V} (h : ∀ a, RepV k W H (f a) (g a)) : ∀ l : List α, RepL k W H (l.map f) (l.map g)
  | [] => rfl
  | a :: l => ⟨_, _, rfl, h a, RepL.map h l⟩

def RepE (k : Kx) (W : Wd) (H : Hp) : Env → L2.St → Prop
  | [], σ => σ = []
  | e :: es, σ => ∃ o r, σ = o :: r ∧ (∀ x, e = some x → ∃ v, o = some v ∧ RepV k W H x v) ∧ RepE k W H es r
theorem RepE.le {k : Kx} {W W' : Wd} {H H' : Hp} (l : Le W W' H H') : ∀ {env : Env} {σ : L2.St}, RepE k W H env σ → RepE k W' H' env σ
  | [], _, h => h
  | e :: es, _, h => by
    obtain ⟨o, r, e1, h1, h2⟩ := h
    refine ⟨o, r, e1, fun x hx => ?_, RepE.le l h2⟩
    obtain ⟨v, e2, h3⟩ := h1 x hx
    exact ⟨v, e2, h3.le l⟩
theorem RepE.get {k : Kx} {W : Wd} {H : Hp} : ∀ {env : Env} {σ : L2.St} {i : Nat} {x : Val}, RepE k W H env σ → env[i]? = some (some x) → ∃ v, σ[i]? = some (some v) ∧ RepV k W H x v
  | [], _, _, _, h, e => by simp at e
  | y :: es, _, i, x, h, e => by
    obtain ⟨o, r, rfl, h1, h2⟩ := h
    cases i with
    | zero =>
      have e' : y = some x := by simpa using e
      obtain ⟨v, e2, h3⟩ := h1 x e'
      exact ⟨v, by rw [e2]; rfl, h3⟩
    | succ i => exact RepE.get (i := i) h2 (by simpa using e)
theorem RepE.set {k : Kx} {W : Wd} {H : Hp} {x : Val} {v : V} (h : RepV k W H x v) : ∀ {env : Env} {σ : L2.St} (n : Nat), RepE k W H env σ → RepE k W H (env.set n (some x)) (σ.set n (some v))
  | [], _, n, g => by
    have e : _ = _ := g
    rw [e]
    cases n <;> rfl
  | y :: es, _, 0, g => by
    obtain ⟨o, r, rfl, h1, h2⟩ := g
    exact ⟨some v, r, rfl, fun z hz => ⟨v, rfl, by cases hz; exact h⟩, h2⟩
  | y :: es, _, n + 1, g => by
    obtain ⟨o, r, rfl, h1, h2⟩ := g
    exact ⟨o, _, rfl, h1, RepE.set h n h2⟩
/-- names forgotten -/
theorem RepE.wipe1 {k : Kx} {W : Wd} {H : Hp} : ∀ {env : Env} {σ : L2.St} (n : Nat) (o : Option V), RepE k W H env σ → RepE k W H (env.set n none) (σ.set n o)
  | [], _, n, _, g => by
    have e : _ = _ := g
    rw [e]
    cases n <;> rfl
  | y :: es, _, 0, o, g => by
    obtain ⟨o', r, rfl, h1, h2⟩ := g
    exact ⟨o, r, rfl, fun z hz => (by cases hz), h2⟩
  | y :: es, _, n + 1, o, g => by
    obtain ⟨o', r, rfl, h1, h2⟩ := g
    exact ⟨o', _, rfl, h1, RepE.wipe1 n o h2⟩
theorem RepE.len {k : Kx} {W : Wd} {H : Hp} : ∀ {env : Env} {σ : L2.St}, RepE k W H env σ → σ.length = env.length
  | [], _, h => by
    have e : _ = _ := h
    rw [e]
    rfl
  | y :: es, _, h => by
    obtain ⟨o, r, rfl, h1, h2⟩ := h
    simp [RepE.len h2]

def RepO (k : Kx) (W : Wd) (H : Hp) : SO → Addr → Prop
  | .lst xs, p => ∃ vs, H p = some (.lst vs) ∧ RepL k W H xs vs
  | .ins c ks xs, p => ∃ dx vs, H p = some (.ins (k.cl c) dx (ks.zip vs)) ∧ ks.length = xs.length ∧ RepL k W H xs vs
structure Ok (k : Kx) (W : Wd) (H : Hp) (st : Sto) : Prop where
  nd : W.rho.Nodup
  len : W.rho.length = st.length
  fzs : ∀ p, W.fz p → H p ≠ none
  apart : ∀ p ∈ W.rho, ¬ W.fz p
  obj : ∀ (i : Nat) o p, st[i]? = some o → W.rho[i]? = some p → RepO k W H o p
theorem Ok.at {k : Kx} {W : Wd} {H : Hp} {st : Sto} {i : Nat} {o : SO} (h : Ok k W H st) (e : st[i]? = some o) : ∃ p, W.rho[i]? = some p ∧ RepO k W H o p := by
  have hi : i < W.rho.length := by
    rw [h.len]
    exact (List.getElem?_eq_some_iff.mp e).1
  exact ⟨W.rho[i], List.getElem?_eq_getElem hi, h.obj i o _ e (List.getElem?_eq_getElem hi)⟩
theorem Ok.there {k : Kx} {W : Wd} {H : Hp} {st : Sto} {p : Addr} (h : Ok k W H st) (hp : p ∈ W.rho) : H p ≠ none := by
  obtain ⟨i, hi, e⟩ := List.getElem_of_mem hp
  have hs : i < st.length := by
    rw [← h.len]
    exact hi
  have r := h.obj i st[i] p (List.getElem?_eq_getElem hs) (by rw [List.getElem?_eq_getElem hi, e])
  cases q : st[i] with
  | lst xs =>
    rw [q] at r
    obtain ⟨vs, z, _⟩ := r
    rw [z]
    exact fun z => nomatch z
  | ins c ks xs =>
    rw [q] at r
    obtain ⟨dx, vs, z, _⟩ := r
    rw [z]
    exact fun z => nomatch z
/-- an object that is no store object and not frozen is laid (a new one) -/
theorem upd_dom {H : Hp} {p q : Addr} {o : HO} (h : H q ≠ none) : upd H p o q ≠ none := by
  by_cases e : q = p
  · rw [e, upd_same]
    exact fun z => nomatch z
  · rw [upd_ne e]
    exact h
theorem Le.new {W : Wd} {H : Hp} {p : Addr} {o : HO} (h : H p = none) : Le W W H (upd H p o) :=
  ⟨⟨[], by simp⟩, fun _ h => h, fun q u e _ => by rw [upd_ne (ne_of_none e h)]; exact e, fun q u e _ => by rw [upd_ne (ne_of_none e h)]; exact e, fun q u e _ => by rw [upd_ne (ne_of_none e h)]; exact e, fun _ h => .inl h, fun _ h => .inl h, fun _ h => upd_dom h⟩
theorem RepO.le {k : Kx} {W W' : Wd} {H H' : Hp} (l : Le W W' H H') {o : SO} {p : Addr} (e : H' p = H p) (h : RepO k W H o p) : RepO k W' H' o p := by
  cases o with
  | lst xs =>
    obtain ⟨vs, z, r⟩ := h
    exact ⟨vs, e.trans z, r.le l⟩
  | ins c ks xs =>
    obtain ⟨dx, vs, z, n, r⟩ := h
    exact ⟨dx, vs, e.trans z, n, r.le l⟩
theorem Ok.new {k : Kx} {W : Wd} {H : Hp} {st : Sto} {p : Addr} {o : HO} (h : Ok k W H st) (hp : H p = none) : Ok k W (upd H p o) st :=
  ⟨h.nd, h.len, fun q f => by
    by_cases e : q = p
    · rw [e, upd_same]
      exact fun z => nomatch z
    · rw [upd_ne e]
      exact h.fzs q f, h.apart, fun i u q e1 e2 => by
    have hq : q ∈ W.rho := List.mem_of_getElem? e2
    have ne : q ≠ p := fun z => h.there hq (by rw [z]; exact hp)
    exact (h.obj i u q e1 e2).le (Le.new hp) (upd_ne ne)⟩
/-- a new frozen object -/
def Wd.fr (W : Wd) (p : Addr) : Wd := ⟨W.rho, fun q => W.fz q ∨ q = p⟩
theorem RepV.fr {k : Kx} {W : Wd} {H : Hp} {p : Addr} {x : Val} {v : V} (h : RepV k W H x v) : RepV k (W.fr p) H x v := RepV.more (W := W) (W' := W.fr p) (fun _ _ h => h) (fun _ h => Or.inl h) h
theorem RepO.fr {k : Kx} {W : Wd} {H : Hp} {p q : Addr} {o : SO} (h : RepO k W H o q) : RepO k (W.fr p) H o q := by
  cases o with
  | lst xs =>
    obtain ⟨vs, z, r⟩ := h
    exact ⟨vs, z, r.more (W := W) (W' := W.fr p) (fun _ _ h => h) fun _ h => Or.inl h⟩
  | ins c ks xs =>
    obtain ⟨dx, vs, z, n, r⟩ := h
    exact ⟨dx, vs, z, n, r.more (W := W) (W' := W.fr p) (fun _ _ h => h) fun _ h => Or.inl h⟩
theorem Ok.fr {k : Kx} {W : Wd} {H : Hp} {st : Sto} {p : Addr} (h : Ok k W H st) (hp : H p ≠ none) (hq : p ∉ W.rho) : Ok k (W.fr p) H st :=
  ⟨h.nd, h.len, fun q f => by
    rcases f with f | f
    · exact h.fzs q f
    · rw [f]
      exact hp, fun q m f => by
    rcases f with f | f
    · exact h.apart q m f
    · exact hq (f ▸ m), fun i u q e1 e2 => (h.obj i u q e1 e2).fr⟩
theorem Ok.newFr {k : Kx} {W : Wd} {H : Hp} {st : Sto} {p : Addr} {o : HO} (h : Ok k W H st) (hp : H p = none) : Le W (W.fr p) H (upd H p o) ∧ Ok k (W.fr p) (upd H p o) st :=
  ⟨⟨⟨[], by simp [Wd.fr]⟩, fun _ h => .inl h, (Le.new (W := W) hp).imm, (Le.new (W := W) hp).keep, (Le.new (W := W) hp).rest, fun _ h => .inl h, fun q f => by
    rcases f with f | f
    · exact .inl f
    · exact .inr (f ▸ hp), fun _ h => upd_dom h⟩, (h.new hp).fr (by rw [upd_same]; exact fun z => nomatch z) fun z => h.there z hp⟩
/-- a new store object -/
def Wd.ob (W : Wd) (p : Addr) : Wd := ⟨W.rho ++ [p], W.fz⟩
theorem Ok.newOb {k : Kx} {W : Wd} {H : Hp} {st : Sto} {p : Addr} {o : HO} {u : SO} (h : Ok k W H st) (hp : H p = none) (hu : RepO k (W.ob p) (upd H p o) u p) :
    Le W (W.ob p) H (upd H p o) ∧ Ok k (W.ob p) (upd H p o) (st ++ [u]) := by
  have l : Le W (W.ob p) H (upd H p o) := ⟨⟨[p], rfl⟩, fun _ h => h, (Le.new (W := W) hp).imm, (Le.new (W := W) hp).keep, (Le.new (W := W) hp).rest, fun q m => by
    rcases List.mem_append.mp (show q ∈ W.rho ++ [p] from m) with m | m
    · exact .inl m
    · exact .inr (by rw [List.mem_singleton.mp m]; exact hp), fun _ h => .inl h, fun _ h => upd_dom h⟩
  refine ⟨l, ⟨?_, ?_, fun q f => ?_, fun q m f => ?_, fun i v q e1 e2 => ?_⟩⟩
  · show (W.rho ++ [p]).Nodup
    rw [List.nodup_append]
    exact ⟨h.nd, by simp, fun a ha b hb e => h.there ha (by rw [e, List.mem_singleton.mp hb]; exact hp)⟩
  · show (W.rho ++ [p]).length = (st ++ [u]).length
    rw [List.length_append, List.length_append, h.len]
    rfl
  · by_cases e : q = p
    · rw [e, upd_same]
      exact fun z => nomatch z
    · rw [upd_ne e]
      exact h.fzs q f
  · rcases List.mem_append.mp (show q ∈ W.rho ++ [p] from m) with m | m
    · exact h.apart q m f
    · rw [List.mem_singleton.mp m] at f
      exact h.fzs p f hp
  · have e2' : (W.rho ++ [p])[i]? = some q := e2
    by_cases hi : i < st.length
    · rw [List.getElem?_append_left hi] at e1
      rw [List.getElem?_append_left (by rw [h.len]; exact hi)] at e2'
      have ne : q ≠ p := fun z => h.there (List.mem_of_getElem? e2') (by rw [z]; exact hp)
      exact (h.obj i v q e1 e2').le l (upd_ne ne)
    · rw [List.getElem?_append_right (by omega)] at e1
      rw [List.getElem?_append_right (by rw [h.len]; omega), h.len] at e2'
      have hz : i - st.length = 0 := by
        by_cases z : i - st.length = 0
        · exact z
        · rw [List.getElem?_eq_none (by simp; omega)] at e1
          cases e1
      rw [hz] at e1 e2'
      cases e1
      cases e2'
      exact hu
theorem nodup_ix_addr {l : List Addr} (nd : l.Nodup) {i j : Nat} {x : Addr} (a : l[i]? = some x) (b : l[j]? = some x) : i = j := by
  obtain ⟨h1, e1⟩ := List.getElem?_eq_some_iff.mp a
  obtain ⟨h2, e2⟩ := List.getElem?_eq_some_iff.mp b
  exact (List.getElem_inj nd).mp (e1.trans e2.symm)
/-- a store object is changed -/
theorem Ok.put {k : Kx} {W : Wd} {H : Hp} {st : Sto} {i : Nat} {p : Addr} {o o' : HO} {u : SO} (h : Ok k W H st) (hi : W.rho[i]? = some p) (ho : H p = some o) (hm : ¬ Imm o) (hu : RepO k W (upd H p o') u p) :
    Le W W H (upd H p o') ∧ Ok k W (upd H p o') (st.set i u) := by
  have hp : p ∈ W.rho := List.mem_of_getElem? hi
  have l : Le W W H (upd H p o') := ⟨⟨[], by simp⟩, fun _ h => h, fun q v e m => by
    have ne : q ≠ p := fun z => by
      rw [z, ho] at e
      cases e
      exact hm m
    rw [upd_ne ne]
    exact e, fun q v e f => by
    have ne : q ≠ p := fun z => h.apart p hp (z ▸ f)
    rw [upd_ne ne]
    exact e, fun q v e f => by
    have ne : q ≠ p := fun z => f (z ▸ hp)
    rw [upd_ne ne]
    exact e, fun _ h => .inl h, fun _ h => .inl h, fun _ h => upd_dom h⟩
  refine ⟨l, ⟨h.nd, by rw [List.length_set]; exact h.len, fun q f => ?_, h.apart, fun j v q e1 e2 => ?_⟩⟩
  · by_cases e : q = p
    · rw [e, upd_same]
      exact fun z => nomatch z
    · rw [upd_ne e]
      exact h.fzs q f
  · by_cases e : j = i
    · subst e
      rw [hi] at e2
      cases e2
      have hl : j < st.length := by
        rw [← h.len]
        exact (List.getElem?_eq_some_iff.mp hi).1
      rw [List.getElem?_set_self hl] at e1
      cases e1
      exact hu
    · rw [List.getElem?_set_ne (Ne.symm e)] at e1
      have ne : q ≠ p := fun z => by
        subst z
        exact e (nodup_ix_addr h.nd e2 hi)
      exact (h.obj j v q e1 e2).le l (upd_ne ne)
end Mi

namespace Mi
open PySem L2

/-! ### ends, readings -/
def RepX (k : Kx) (W : Wd) (H : Hp) (x : Exc) (c : Value) (d : Option Addr) : Prop :=
  c = .ref (k.cl x.cls) ∧ x.ks.length = x.xs.length ∧ (x.ks = [] ∨ ∃ a vs, d = some a ∧ H a = some (.xd (x.ks.zip vs)) ∧ RepL k W H x.xs vs)
def Fin {α β : Type} (k : Kx) (R : Wd → Hp → α → β → Prop) (E : XK) (W : Wd) (H : Hp) (Q : β → Hp → Prop) : Except Exc α × Sto → Prop
  | (.ok r, st) => ∀ W' H' v, Le W W' H H' → Ok k W' H' st → R W' H' r v → Q v H'
  | (.error x, st) => ∀ W' H' c d, Le W W' H H' → Ok k W' H' st → RepX k W' H' x c d → E c d H'
theorem Fin.le {α β : Type} {k : Kx} {R : Wd → Hp → α → β → Prop} {E : XK} {W W1 : Wd} {H H1 : Hp} {Q : β → Hp → Prop} {o : Except Exc α × Sto} (l : Le W W1 H H1) (h : Fin k R E W H Q o) : Fin k R E W1 H1 Q o := by
  obtain ⟨r, st⟩ := o
  cases r with
  | ok r => exact fun W' H' v l' => h W' H' v (l.trans l')
  | error x => exact fun W' H' c d l' => h W' H' c d (l.trans l')
theorem Fin.mono {α β : Type} {k : Kx} {R : Wd → Hp → α → β → Prop} {E : XK} {W : Wd} {H : Hp} {Q Q' : β → Hp → Prop} {o : Except Exc α × Sto} (h : Fin k R E W H Q o) (q : ∀ v H, Q v H → Q' v H) : Fin k R E W H Q' o := by
  obtain ⟨r, st⟩ := o
  cases r with
  | ok r => exact fun W' H' v l o r => q _ _ (h W' H' v l o r)
  | error x => exact h
/-- at the world W -/
def At {α β : Type} (k : Kx) (R : Wd → Hp → α → β → Prop) (E : WX) (m : M α) (W : Wd) (σ : L2.St) (H : Hp) (Q : β → Hp → Prop) : Prop :=
  ∃ env st o, Ok k W H st ∧ RepE k W H env σ ∧ m env st = some o ∧ Fin k R (fun c d H' => E c d σ H') W H Q o
def tG {α β : Type} (k : Kx) (R : Wd → Hp → α → β → Prop) (E : WX) (m : M α) (σ : L2.St) (H : Hp) (Q : β → Hp → Prop) : Prop := ∃ W, At k R E m W σ H Q
def RB : Wd → Hp → Bool → Bool → Prop := fun _ _ a b => b = a
def tM (k : Kx) (E : WX) (m : M Val) : TE := fun σ H Q => tG k (RepV k) E m σ H Q
def tMb (k : Kx) (E : WX) (m : M Bool) : TT := fun σ H Q => tG k RB E m σ H Q
def tMa (k : Kx) (E : WX) (m : M (List Val)) : TA := fun σ H Q => tG k (RepL k) E m σ H Q

/-! ### the mirror's own words -/
def ret {α : Type} (a : α) : M α := fun _ st => some (.ok a, st)
def stuck {α : Type} : M α := fun _ _ => none
def thr {α : Type} (x : Exc) : M α := fun _ st => some (.error x, st)
def bnd {α β : Type} (m : M α) (f : α → M β) : M β := fun env st =>
  match m env st with
  | some (.ok a, st1) => f a env st1
  | some (.error x, st1) => some (.error x, st1)
  | none => none
def lift {α : Type} (o : Sto → Option α) : M α := fun _ st => (o st).map fun c => (.ok c, st)
def var (i : Nat) : M Val := fun env st => match env[i]? with
  | some (some v) => some (.ok v, st)
  | _ => none

section
variable {k : Kx} {E : WX} {σ : L2.St} {W : Wd} {H : Hp}
theorem tG.mono {α β : Type} {R : Wd → Hp → α → β → Prop} {m : M α} {Q Q' : β → Hp → Prop} (h : tG k R E m σ H Q) (q : ∀ v H, Q v H → Q' v H) : tG k R E m σ H Q' := by
  obtain ⟨W, env, st, o, h1, h2, h3, h4⟩ := h
  exact ⟨W, env, st, o, h1, h2, h3, h4.mono q⟩
theorem At.bnd {α β γ δ : Type} {R1 : Wd → Hp → α → β → Prop} {R2 : Wd → Hp → γ → δ → Prop} {m : M α} {f : α → M γ} {Q : δ → Hp → Prop} (P : Wd → Hp → Prop) (mono : ∀ {W W' : Wd} {H H' : Hp}, Le W W' H H' → P W H → P W' H') (hp : P W H)
    (h : At k R2 E (bnd m f) W σ H Q) : tG k R1 E m σ H fun x H1 => ∃ W1 a, P W1 H1 ∧ R1 W1 H1 a x ∧ At k R2 E (f a) W1 σ H1 Q := by
  obtain ⟨env, st, o, h1, h2, h3, h4⟩ := h
  unfold Mi.bnd at h3
  cases e : m env st with
  | none =>
    rw [e] at h3
    cases h3
  | some p =>
    rw [e] at h3
    obtain ⟨r, st1⟩ := p
    cases r with
    | ok a => exact ⟨W, env, st, _, h1, h2, e, fun W' H' v l o' r' => ⟨W', a, mono l hp, r', env, st1, o, o', h2.le l, h3, h4.le l⟩⟩
    | error x =>
      cases h3
      exact ⟨W, env, st, _, h1, h2, e, h4⟩
theorem tG.bnd {α β γ δ : Type} {R1 : Wd → Hp → α → β → Prop} {R2 : Wd → Hp → γ → δ → Prop} {m : M α} {f : α → M γ} {Q : δ → Hp → Prop} (h : tG k R2 E (bnd m f) σ H Q) : tG k R1 E m σ H fun x H1 => ∃ W1 a, R1 W1 H1 a x ∧ At k R2 E (f a) W1 σ H1 Q := by
  obtain ⟨W, h⟩ := h
  exact (At.bnd (R1 := R1) (fun _ _ => True) (fun _ _ => trivial) trivial h).mono fun v H ⟨W1, a, _, h1, h2⟩ => ⟨W1, a, h1, h2⟩
theorem At.lift {α β : Type} {R : Wd → Hp → α → β → Prop} {o : Sto → Option α} {Q : β → Hp → Prop} (h : At k R E (lift o) W σ H Q) : ∃ c st, o st = some c ∧ Ok k W H st ∧ ∀ W' H' v, Le W W' H H' → Ok k W' H' st → R W' H' c v → Q v H' := by
  obtain ⟨env, st, r, h1, h2, h3, h4⟩ := h
  unfold Mi.lift at h3
  cases e : o st with
  | none =>
    rw [e] at h3
    cases h3
  | some c =>
    rw [e] at h3
    cases h3
    exact ⟨c, st, e, h1, h4⟩
/-- two operands -/
theorem tG.bin {γ δ : Type} {R2 : Wd → Hp → γ → δ → Prop} {ma mb : M Val} {f : Val → Val → M γ} {Q : δ → Hp → Prop} (h : tG k R2 E (Mi.bnd ma fun a => Mi.bnd mb fun b => f a b) σ H Q) :
    tM k E ma σ H fun x H1 => tM k E mb σ H1 fun y H2 => ∃ W a b, RepV k W H2 a x ∧ RepV k W H2 b y ∧ At k R2 E (f a b) W σ H2 Q := by
  refine tG.mono (tG.bnd (R1 := RepV k) h) fun x H1 ⟨W1, a, ra, h1⟩ => ?_
  exact (At.bnd (R1 := RepV k) (fun W H => RepV k W H a x) (fun l r => r.le l) ra h1).mono fun y H2 ⟨W2, b, r1, r2, h2⟩ => ⟨W2, a, b, r1, r2, h2⟩
end

section
variable {X : Cx} {k : Kx} {E : WX}
theorem imp {e : Expr} {t u : TE} (h : PE X e t) (i : ∀ σ H Q, u σ H Q → t σ H Q) : PE X e u := ⟨fun pins s σ H Q I q => h.run pins s σ H Q I (i σ H Q q)⟩
theorem impT {e : Expr} {t u : TT} (h : PT X e t) (i : ∀ σ H Q, u σ H Q → t σ H Q) : PT X e u := ⟨fun pins s σ H Q I q => h.run pins s σ H Q I (i σ H Q q)⟩
theorem impW {e : Expr} {t u : TT} (h : PW X e t) (i : ∀ σ H Q, u σ H Q → t σ H Q) : PW X e u := ⟨fun wh pins s σ H Q I q => h.run wh pins s σ H Q I (i σ H Q q)⟩
theorem impA {e : List Expr} {t u : TA} (h : PA X e t) (i : ∀ σ H Q, u σ H Q → t σ H Q) : PA X e u := ⟨fun pos pins s σ H Q I q => h.run pos pins s σ H Q I (i σ H Q q)⟩
theorem impS {e : Stmt} {t u : TS} (h : PS X e t) (i : ∀ D σ H, u D σ H → t D σ H) : PS X e u := ⟨fun pins s σ H D I q => h.run pins s σ H D I (i D σ H q)⟩
theorem impSs {e : List Stmt} {t u : TS} (h : PSs X e t) (i : ∀ D σ H, u D σ H → t D σ H) : PSs X e u := ⟨fun pins s σ H D I q => h.run pins s σ H D I (i D σ H q)⟩

/-! ### names, constants -/
theorem me_var (i : Nat) {x : Str} {pos : Pos} (h : PE X (.Name x pos) (tVar i)) : PE X (.Name x pos) (tM k E (var i)) := imp h fun σ H Q ⟨W, env, st, o, h1, h2, h3, h4⟩ => by
  unfold var at h3
  split at h3
  · next v e =>
    cases h3
    obtain ⟨u, e2, r⟩ := h2.get e
    exact ⟨u, e2, h4 W H u (Le.refl W H) h1 r⟩
  · cases h3
/-- a value that stands everywhere for the same thing -/
def Cst (k : Kx) (a : Val) (v : V) : Prop := ∀ W H, RepV k W H a v
theorem me_c {e : Expr} {a : Val} {v : V} (h : PE X e (tC v)) (c : Cst k a v) : PE X e (tM k E (ret a)) := imp h fun σ H Q ⟨W, env, st, o, h1, h2, h3, h4⟩ => by
  cases h3
  exact h4 W H v (Le.refl W H) h1 (c W H)
theorem me_int {i : Int} {j pos} : PE X (.Constant (.int i) j pos) (tM k E (ret (.int i))) := me_c pe_int fun _ _ => rfl
theorem me_bl {b : Bool} {j pos} : PE X (.Constant (.bool b) j pos) (tM k E (ret (.bl b))) := me_c pe_bl fun _ _ => rfl
theorem me_non {j pos} : PE X (.Constant .none j pos) (tM k E (ret .non)) := me_c pe_non fun _ _ => rfl
theorem me_str {x : Str} {j pos} : PE X (.Constant (.str x) j pos) (tM k E (ret (.str x))) := me_c pe_str fun _ _ => rfl
theorem me_glob {x : Str} {a : Val} {v : V} {u : Value} {pos : Pos} (hg : Gl X x) (hm : X.mg x = some u) (r : RelV v u) (c : Cst k a v) (hd : (x == ("__debug__" : Str)) = false := by decide) : PE X (.Name x pos) (tM k E (ret a)) := me_c (pe_glob hg hm r hd) c

/-! ### operators -/
/-- f is what r asks for (nothing of the store is changed) -/
def Rd2 (k : Kx) (f : Sto → Val → Val → Option Val) (r : R2) : Prop := ∀ W H st a b x y c Q, Ok k W H st → RepV k W H a x → RepV k W H b y → f st a b = some c → (∀ W' H' v, Le W W' H H' → Ok k W' H' st → RepV k W' H' c v → Q v H') → r x y H Q
def Rd1 (k : Kx) (f : Sto → Val → Option Val) (r : V → Hp → VK → Prop) : Prop := ∀ W H st a x c Q, Ok k W H st → RepV k W H a x → f st a = some c → (∀ W' H' v, Le W W' H H' → Ok k W' H' st → RepV k W' H' c v → Q v H') → r x H Q
def bin (f : Sto → Val → Val → Option Val) (ma mb : M Val) : M Val := bnd ma fun a => bnd mb fun b => lift fun st => f st a b
def un (f : Sto → Val → Option Val) (ma : M Val) : M Val := bnd ma fun a => lift fun st => f st a
theorem bin_read {f : Sto → Val → Val → Option Val} {r : R2} (hr : Rd2 k f r) {ma mb : M Val} {σ : L2.St} {H : Hp} {Q : VK} (h : tM k E (bin f ma mb) σ H Q) : tOp r (tM k E ma) (tM k E mb) σ H Q := by
  refine tG.mono (tG.bin h) fun x H1 h1 => tG.mono h1 fun y H2 ⟨W, a, b, ra, rb, h2⟩ => ?_
  obtain ⟨c, st, e, o, q⟩ := h2.lift
  exact hr W H2 st a b x y c Q o ra rb e q
theorem me_op {a b : Expr} {op : Operator} {pos : Pos} {f : Sto → Val → Val → Option Val} {r : R2} {ma mb : M Val} (hr : Rd2 k f r) (ho : OpR X (binaryOp op) r) (ha : PE X a (tM k E ma)) (hb : PE X b (tM k E mb)) : PE X (.BinOp a op b pos) (tM k E (bin f ma mb)) :=
  imp (pe_op ho ha hb) fun _ _ _ h => bin_read hr h
theorem me_cmp {a b : Expr} {op : CmpOp} {pos : Pos} {f : Sto → Val → Val → Option Val} {r : R2} {ma mb : M Val} (hr : Rd2 k f r) (ho : OpR X (compareOp op) r) (hm : behindInMarks op b = false) (ha : PE X a (tM k E ma)) (hb : PE X b (tM k E mb)) :
    PE X (.Compare a [op] [b] pos) (tM k E (bin f ma mb)) := imp (pe_cmpR ho ha hb hm) fun _ _ _ h => bin_read hr h
def asBool : Val → Option Bool
  | .bl b => some b
  | _ => none
def asB (m : M Val) : M Bool := bnd m fun a => lift fun _ => asBool a
theorem asB_read {m : M Val} {σ : L2.St} {H : Hp} {Q : Bool → Hp → Prop} (h : tMb k E (asB m) σ H Q) : tM k E m σ H fun x H1 => ∃ c, x = .bl c ∧ Q c H1 := by
  refine tG.mono (tG.bnd (R1 := RepV k) h) fun x H1 ⟨W, a, ra, h1⟩ => ?_
  obtain ⟨c, st, e, o, q⟩ := h1.lift
  cases a with
  | bl b =>
    cases e
    exact ⟨_, ra, q W H1 _ (Le.refl W H1) o rfl⟩
  | _ => cases e
/-- a comparison as a test -/
theorem mt_cmp {a b : Expr} {op : CmpOp} {pos : Pos} {f : Sto → Val → Val → Option Val} {r : R2} {ma mb : M Val} (hr : Rd2 k f r) (ho : OpR X (compareOp op) r) (hm : behindInMarks op b = false) (ha : PE X a (tM k E ma)) (hb : PE X b (tM k E mb)) :
    PT X (.Compare a [op] [b] pos) (tMb k E (asB (bin f ma mb))) := impT (pt_cmpR ho ha hb hm) fun σ H Q h => by
  have h1 := bin_read (Q := fun x H1 => ∃ c, x = .bl c ∧ Q c H1) hr (asB_read h)
  exact h1
theorem mt_val {e : Expr} {m : M Val} (h : PE X e (tM k E m)) (he : ∀ whole, isTrue e X.env whole = (do let v ← whole; standAt e.pos; holding [v] (truthy v)) := by intro _; rfl) : PT X e (tMb k E (asB m)) :=
  impT (pt_val h he) fun σ H Q h => asB_read h
def andB (a b : M Bool) : M Bool := bnd a fun c => if c then b else ret false
def orB (a b : M Bool) : M Bool := bnd a fun c => if c then ret true else b
def notB (a : M Bool) : M Bool := bnd a fun c => ret (!c)
theorem At.tG {α β : Type} {R : Wd → Hp → α → β → Prop} {m : M α} {W : Wd} {σ : L2.St} {H : Hp} {Q : β → Hp → Prop} (h : At k R E m W σ H Q) : tG k R E m σ H Q := ⟨W, h⟩
theorem At.ret {α β : Type} {R : Wd → Hp → α → β → Prop} {a : α} {W : Wd} {σ : L2.St} {H : Hp} {Q : β → Hp → Prop} (h : At k R E (ret a) W σ H Q) {v : β} (r : R W H a v) : Q v H := by
  obtain ⟨env, st, o, h1, h2, h3, h4⟩ := h
  cases h3
  exact h4 W H v (Le.refl W H) h1 r
theorem mw_and1 {a : Expr} {pos : Pos} {m : M Bool} (ha : PT X a (tMb k E m)) : PW X (.BoolOp .And [a] pos) (tMb k E m) := pw_and1 ha
theorem mw_or1 {a : Expr} {pos : Pos} {m : M Bool} (ha : PT X a (tMb k E m)) : PW X (.BoolOp .Or [a] pos) (tMb k E m) := pw_or1 ha
theorem mw_and {a b : Expr} {rest : List Expr} {pos : Pos} {m n : M Bool} (ha : PT X a (tMb k E m)) (hb : PW X (.BoolOp .And (b :: rest) pos) (tMb k E n)) : PW X (.BoolOp .And (a :: b :: rest) pos) (tMb k E (andB m n)) :=
  impW (pw_and ha hb) fun σ H Q h => tG.mono (tG.bnd (R1 := RB) h) fun c H1 ⟨W, a, ra, h1⟩ => by
    cases ra
    cases c with
    | true => exact h1.tG
    | false => exact h1.ret rfl
theorem mw_or {a b : Expr} {rest : List Expr} {pos : Pos} {m n : M Bool} (ha : PT X a (tMb k E m)) (hb : PW X (.BoolOp .Or (b :: rest) pos) (tMb k E n)) : PW X (.BoolOp .Or (a :: b :: rest) pos) (tMb k E (orB m n)) :=
  impW (pw_or ha hb) fun σ H Q h => tG.mono (tG.bnd (R1 := RB) h) fun c H1 ⟨W, a, ra, h1⟩ => by
    cases ra
    cases c with
    | true => exact h1.ret rfl
    | false => exact h1.tG
theorem mt_not {a : Expr} {pos : Pos} {m : M Bool} (ha : PT X a (tMb k E m)) : PT X (.UnaryOp .Not a pos) (tMb k E (notB m)) :=
  impT (pt_not ha) fun σ H Q h => tG.mono (tG.bnd (R1 := RB) h) fun c H1 ⟨W, a, ra, h1⟩ => by
    cases ra
    exact h1.ret rfl
/-- and, or, not as values (bools; the last one may be anything) -/
def andV (a b : M Val) : M Val := bnd (asB a) fun c => if c then b else ret (.bl false)
def orV (a b : M Val) : M Val := bnd (asB a) fun c => if c then ret (.bl true) else b
def notV (a : M Val) : M Val := bnd (asB a) fun c => ret (.bl (!c))
theorem valB {γ δ : Type} {R2 : Wd → Hp → γ → δ → Prop} {m : M Val} {f : Bool → M γ} {σ : L2.St} {H : Hp} {Q : δ → Hp → Prop} (h : tG k R2 E (bnd (asB m) f) σ H Q) : tM k E m σ H fun x H1 => ∃ c, x = .bl c ∧ ∃ W, At k R2 E (f c) W σ H1 Q := by
  have h1 := asB_read (k := k) (E := E) (tG.bnd (R1 := RB) h)
  exact tG.mono h1 fun x H1 ⟨c, e, W, a, ra, h2⟩ => by
    cases ra
    exact ⟨c, e, W, h2⟩
theorem me_one {a : Expr} {op : BoolOp} {pos : Pos} {m : M Val} (ha : PE X a (tM k E m)) : PE X (.BoolOp op [a] pos) (tM k E m) := pe_one ha
theorem me_and {a b : Expr} {rest : List Expr} {pos : Pos} {m n : M Val} (ha : PE X a (tM k E m)) (hb : PE X (.BoolOp .And (b :: rest) pos) (tM k E n)) : PE X (.BoolOp .And (a :: b :: rest) pos) (tM k E (andV m n)) :=
  imp (pe_and ha hb) fun σ H Q h => tG.mono (valB h) fun x H1 ⟨c, e, W, h1⟩ => ⟨c, e, by
    cases c with
    | true => exact h1.tG
    | false => exact h1.ret rfl⟩
theorem me_or {a b : Expr} {rest : List Expr} {pos : Pos} {m n : M Val} (ha : PE X a (tM k E m)) (hb : PE X (.BoolOp .Or (b :: rest) pos) (tM k E n)) : PE X (.BoolOp .Or (a :: b :: rest) pos) (tM k E (orV m n)) :=
  imp (pe_or ha hb) fun σ H Q h => tG.mono (valB h) fun x H1 ⟨c, e, W, h1⟩ => ⟨c, e, by
    cases c with
    | true => exact h1.ret rfl
    | false => exact h1.tG⟩
theorem me_not {a : Expr} {pos : Pos} {m : M Val} (ha : PE X a (tM k E m)) : PE X (.UnaryOp .Not a pos) (tM k E (notV m)) :=
  imp (pe_not ha) fun σ H Q h => tG.mono (valB h) fun x H1 ⟨c, e, W, h1⟩ => ⟨c, e, h1.ret rfl⟩
def ifV (c : M Bool) (a b : M Val) : M Val := bnd c fun c => if c then a else b
theorem me_if {c a b : Expr} {pos : Pos} {mc : M Bool} {ma mb : M Val} (hc : PT X c (tMb k E mc)) (ha : PE X a (tM k E ma)) (hb : PE X b (tM k E mb)) : PE X (.IfExp c a b pos) (tM k E (ifV mc ma mb)) :=
  imp (pe_ifExp hc ha hb) fun σ H Q h => tG.mono (tG.bnd (R1 := RB) h) fun c H1 ⟨W, a, ra, h1⟩ => by
    cases ra
    cases c with
    | true => exact h1.tG
    | false => exact h1.tG
/-- a < b < c -/
def chain (f g : Sto → Val → Val → Option Val) (ma mb mc : M Val) : M Val := bnd ma fun a => bnd mb fun b => bnd (lift fun st => (f st a b).bind asBool) fun t => if t then bnd mc fun c => lift fun st => g st b c else ret (.bl false)
theorem chain_read {f g : Sto → Val → Val → Option Val} {r r' : R2} (hr : Rd2 k f r) (hr' : Rd2 k g r') {ma mb mc : M Val} {σ : L2.St} {H : Hp} {Q : VK} (h : tM k E (chain f g ma mb mc) σ H Q) : tChain r r' (tM k E ma) (tM k E mb) (tM k E mc) σ H Q := by
  refine tG.mono (tG.bin h) fun x H1 h1 => tG.mono h1 fun y H2 ⟨W, a, b, ra, rb, h2⟩ => ?_
  have h3 := At.bnd (R1 := RB) (fun W H => RepV k W H b y) (fun l r => r.le l) rb h2
  obtain ⟨W3, env, st, o, o1, e1, m1, f1⟩ := h3
  obtain ⟨env', st', o', o2, e2, m2, f2⟩ := h2
  unfold Mi.bnd Mi.lift at m2
  dsimp only at m2
  cases e : f st' a b with
  | none =>
    rw [e] at m2
    cases m2
  | some c =>
    rw [e] at m2
    cases c with
    | bl t =>
      refine hr W H2 st' a b x y (.bl t) _ o2 ra rb e fun W' H' v l ok rv => ⟨t, rv, ?_⟩
      have m3 : (if t then Mi.bnd mc fun c => Mi.lift fun st => g st b c else Mi.ret (.bl false)) env' st' = some o' := m2
      cases t with
      | true =>
        show tM k E mc σ H' fun w' H4 => r' y w' H4 Q
        have h4 : At k (RepV k) E (Mi.bnd mc fun c => Mi.lift fun st => g st b c) W' σ H' Q := ⟨env', st', o', ok, e2.le l, m3, f2.le l⟩
        refine tG.mono (At.bnd (R1 := RepV k) (fun W H => RepV k W H b y) (fun l r => r.le l) (rb.le l) h4) fun z H4 ⟨W4, c, rb4, rc, h5⟩ => ?_
        obtain ⟨d, st4, e4, o4, q4⟩ := h5.lift
        exact hr' W4 H4 st4 b c y z d Q o4 rb4 rc e4 q4
      | false =>
        show Q (.bl false) H'
        have h4 : At k (RepV k) E (Mi.ret (.bl false)) W' σ H' Q := ⟨env', st', o', ok, e2.le l, m3, f2.le l⟩
        exact h4.ret rfl
    | _ => cases m2
theorem me_chain {a b c : Expr} {op op' : CmpOp} {pos : Pos} {f g : Sto → Val → Val → Option Val} {r r' : R2} {ma mb mc : M Val} (hr : Rd2 k f r) (hr' : Rd2 k g r') (ho : OpR X (compareOp op) r) (ho' : OpR X (compareOp op') r')
    (h1 : PE X (.Compare a [op, op'] [b, c] pos) (tChain r r' (tM k E ma) (tM k E mb) (tM k E mc))) : PE X (.Compare a [op, op'] [b, c] pos) (tM k E (chain f g ma mb mc)) := imp h1 fun _ _ _ h => chain_read hr hr' h
end
end Mi

namespace Mi
open PySem L2

theorem OpR_or {X : Cx} {f : Value → Value → Sem Value} {r r' : R2} (h : OpR X f r) (h' : OpR X f r') : OpR X f (fun x y H Q => r x y H Q ∨ r' x y H Q) := by
  intro pins s σ H x y v u Q I rx ry q
  rcases q with q | q
  · exact h pins s σ H x y v u Q I rx ry q
  · exact h' pins s σ H x y v u Q I rx ry q
theorem CallR_or {X : Cx} {f : Value} {r r' : List V → Hp → VK → Prop} (h : CallR X f r) (h' : CallR X f r') : CallR X f (fun xs H Q => r xs H Q ∨ r' xs H Q) := by
  intro pins s σ H xs us Q I rx q
  rcases q with q | q
  · exact h pins s σ H xs us Q I rx q
  · exact h' pins s σ H xs us Q I rx q
theorem SlR_or {X : Cx} {r r' : V → Option Int → Option Int → Hp → VK → Prop} (h : SlR X r) (h' : SlR X r') : SlR X (fun x lo hi H Q => r x lo hi H Q ∨ r' x lo hi H Q) := by
  intro pins s σ H x v vl vu lo hi sl Q I rx hs pl pu q
  rcases q with q | q
  · exact h pins s σ H x v vl vu lo hi sl Q I rx hs pl pu q
  · exact h' pins s σ H x v vl vu lo hi sl Q I rx hs pl pu q

/-! ### reading lists and tuples -/
def lstOf (st : Sto) : Val → Option (List Val)
  | .lst xs => some xs
  | .rol xs => some xs
  | .ref i => match st[i]? with
    | some (.lst xs) => some xs
    | _ => none
  | _ => none
def tupOf : Val → Option (List Val)
  | .tup xs => some xs
  | _ => none
def seqOf (st : Sto) (a : Val) : Option (List Val) := match a with
  | .tup xs => some xs
  | a => lstOf st a
abbrev LIM : Nat := 1000000
theorem lim_le {n : Nat} (h : n ≤ LIM) : n ≤ sizeLine := Nat.le_trans h (by decide)
theorem lim_lt {n : Nat} (h : n < LIM) : n < sizeLine := Nat.lt_of_lt_of_le h (by decide)
section
variable {k : Kx} {W : Wd} {H : Hp} {st : Sto} {a : Val} {x : V} {xs : List Val}
theorem lstOf_rep (o : Ok k W H st) (r : RepV k W H a x) (e : lstOf st a = some xs) : ∃ p vs, x = .ref p ∧ SqL k.K H p vs ∧ RepL k W H xs vs := by
  cases a with
  | lst ys =>
    cases e
    obtain ⟨p, vs, e, f, s, r⟩ := r
    exact ⟨p, vs, e, .inl (.inl s), r⟩
  | rol ys =>
    cases e
    obtain ⟨p, vs, e, s, r⟩ := r
    refine ⟨p, vs, e, ?_, r⟩
    rcases s with ⟨u, s⟩ | (s | ⟨u, s⟩) | s
    · exact .inl (.inr ⟨u, s⟩)
    · cases s
    · cases s
    · exact .inr s
  | ref i =>
    obtain ⟨p, e1, s⟩ := r
    dsimp only [lstOf] at e
    cases q : st[i]? with
    | none =>
      rw [q] at e
      cases e
    | some u =>
      rw [q] at e
      cases u with
      | lst ys =>
        cases e
        obtain ⟨vs, z, r⟩ := o.obj i _ p q s
        exact ⟨p, vs, e1, .inl (.inl z), r⟩
      | ins c ks ys => cases e
  | _ => cases e
theorem tupOf_rep (r : RepV k W H a x) (e : tupOf a = some xs) : ∃ p vs, x = .ref p ∧ SqT k.K H p vs ∧ RepL k W H xs vs := by
  cases a with
  | tup ys =>
    cases e
    exact r
  | _ => cases e
theorem seqOf_rep (o : Ok k W H st) (r : RepV k W H a x) (e : seqOf st a = some xs) : ∃ p vs, x = .ref p ∧ (SqL k.K H p vs ∨ SqT k.K H p vs) ∧ RepL k W H xs vs := by
  unfold seqOf at e
  split at e
  · cases e
    obtain ⟨p, vs, e, s, r⟩ := r
    exact ⟨p, vs, e, .inr s, r⟩
  · obtain ⟨p, vs, e, s, r⟩ := lstOf_rep o r e
    exact ⟨p, vs, e, .inl s, r⟩
/-- a new tuple, a new list that nobody changes -/
theorem newTup {Q : VK} {p : Addr} {vs : List V} (o : Ok k W H st) (hp : H p = none) (r : RepL k W H xs vs) (q : ∀ W' H' v, Le W W' H H' → Ok k W' H' st → RepV k W' H' (.tup xs) v → Q v H') : Q (.ref p) (upd H p (.tup vs)) :=
  q W _ _ (Le.new hp) (o.new hp) ⟨p, vs, rfl, .inl (.inl upd_same), r.le (Le.new hp)⟩
theorem newLst {Q : VK} {p : Addr} {vs : List V} (o : Ok k W H st) (hp : H p = none) (r : RepL k W H xs vs) (q : ∀ W' H' v, Le W W' H H' → Ok k W' H' st → RepV k W' H' (.lst xs) v → Q v H') : Q (.ref p) (upd H p (.lst vs)) := by
  obtain ⟨l, o'⟩ := o.newFr (o := .lst vs) hp
  exact q (W.fr p) _ _ l o' ⟨p, vs, rfl, .inr rfl, upd_same, r.le l⟩
theorem ints_rep : ∀ {xs : List Val} {vs : List V} {ns : List Int}, RepL k W H xs vs → xs = ns.map .int → vs = ns.map .int
  | [], vs, ns, r, e => by
    have e1 : vs = [] := r
    cases ns with
    | nil => exact e1
    | cons n ns => cases e
  | x :: xs, vs, ns, r, e => by
    obtain ⟨v, u, rfl, r1, r2⟩ := r
    cases ns with
    | nil => cases e
    | cons n ns =>
      injection e with e1 e2
      subst e1
      have e3 : v = .int n := r1
      rw [e3, ints_rep r2 e2]
      rfl
theorem strs_rep : ∀ {xs : List Val} {vs : List V} {ns : List Str}, RepL k W H xs vs → xs = ns.map .str → vs = ns.map .str
  | [], vs, ns, r, e => by
    have e1 : vs = [] := r
    cases ns with
    | nil => exact e1
    | cons n ns => cases e
  | x :: xs, vs, ns, r, e => by
    obtain ⟨v, u, rfl, r1, r2⟩ := r
    cases ns with
    | nil => cases e
    | cons n ns =>
      injection e with e1 e2
      subst e1
      have e3 : v = .str n := r1
      rw [e3, strs_rep r2 e2]
      rfl
theorem bls_rep : ∀ {xs : List Val} {vs : List V} {ns : List Bool}, RepL k W H xs vs → xs = ns.map .bl → vs = ns.map .bl
  | [], vs, ns, r, e => by
    have e1 : vs = [] := r
    cases ns with
    | nil => exact e1
    | cons n ns => cases e
  | x :: xs, vs, ns, r, e => by
    obtain ⟨v, u, rfl, r1, r2⟩ := r
    cases ns with
    | nil => cases e
    | cons n ns =>
      injection e with e1 e2
      subst e1
      have e3 : v = .bl n := r1
      rw [e3, bls_rep r2 e2]
      rfl
end
def intOf : Val → Option Int
  | .int i => some i
  | _ => none
def strOf : Val → Option Str
  | .str i => some i
  | _ => none
def allOf {α : Type} (f : Val → Option α) : List Val → Option (List α)
  | [] => some []
  | x :: xs => match f x, allOf f xs with
    | some a, some r => some (a :: r)
    | _, _ => none
theorem allOf_map {α : Type} {f : Val → Option α} {g : α → Val} (h : ∀ x a, f x = some a → x = g a) : ∀ {xs : List Val} {as : List α}, allOf f xs = some as → xs = as.map g
  | [], as, e => by
    cases e
    rfl
  | x :: xs, as, e => by
    unfold allOf at e
    cases e1 : f x with
    | none =>
      rw [e1] at e
      cases e
    | some a =>
      cases e2 : allOf f xs with
      | none =>
        rw [e1, e2] at e
        cases e
      | some r =>
        rw [e1, e2] at e
        cases e
        rw [h x a e1, allOf_map h e2]
        rfl
theorem intOf_eq (x : Val) (a : Int) (h : intOf x = some a) : x = .int a := by
  cases x <;> first | (cases h; rfl) | cases h
theorem strOf_eq (x : Val) (a : Str) (h : strOf x = some a) : x = .str a := by
  cases x <;> first | (cases h; rfl) | cases h
theorem asBool_eq (x : Val) (a : Bool) (h : asBool x = some a) : x = .bl a := by
  cases x <;> first | (cases h; rfl) | cases h

/-! ### + - * // % ** -/
def addV (_ : Sto) : Val → Val → Option Val
  | .int i, .int j => some (.int (i + j))
  | .str i, .str j => if i.length + j.length ≤ LIM then some (.str (i ++ j)) else none
  | .lst xs, .lst ys => if xs.length + ys.length ≤ LIM then some (.lst (xs ++ ys)) else none
  | .tup xs, .tup ys => if xs.length + ys.length ≤ LIM then some (.tup (xs ++ ys)) else none
  | _, _ => none
def subV (_ : Sto) : Val → Val → Option Val
  | .int i, .int j => some (.int (i - j))
  | _, _ => none
def small64 (i : Int) : Bool := decide (-(2 ^ 64) < i) && decide (i < 2 ^ 64)
def mulV (_ : Sto) : Val → Val → Option Val
  | .int i, .int j => if small64 i || small64 j then some (.int (i * j)) else none
  | .lst xs, .int j => if xs.length * j.toNat ≤ LIM ∧ -(2 ^ 63) ≤ j ∧ j < 2 ^ 63 then some (.lst (List.replicate j.toNat xs).flatten) else none
  | _, _ => none
def fdivV (_ : Sto) : Val → Val → Option Val
  | .int i, .int j => if 0 < j ∧ j < 1073741824 then some (.int (i / j)) else none
  | _, _ => none
def modV (_ : Sto) : Val → Val → Option Val
  | .int i, .int j => if 0 < j then some (.int (i % j)) else none
  | _, _ => none
def powV (_ : Sto) : Val → Val → Option Val
  | .int i, .int j => if 0 ≤ j ∧ j ≤ 1000 ∧ i.natAbs < 1000 then some (.int (i ^ j.toNat)) else none
  | _, _ => none
def cmpV (p : Int → Int → Bool) (_ : Sto) : Val → Val → Option Val
  | .int i, .int j => some (.bl (p i j))
  | _, _ => none
section
variable {k : Kx}
theorem rd_int {f : Sto → Val → Val → Option Val} {g : Int → Int → V} (h : ∀ st a b c, f st a b = some c → ∃ i j d, a = .int i ∧ b = .int j ∧ c = d ∧ Cst k d (g i j)) : Rd2 k f (rI0 g) := by
  intro W H st a b x y c Q o ra rb e q
  obtain ⟨i, j, d, rfl, rfl, rfl, hc⟩ := h st a b c e
  exact ⟨i, j, ra, rb, q W H _ (Le.refl W H) o (hc W H)⟩
theorem rd_sub : Rd2 k subV (rI0 fun i j => .int (i - j)) := rd_int fun st a b c e => by
  cases a <;> cases b <;> first | (cases e; exact ⟨_, _, _, rfl, rfl, rfl, fun _ _ => rfl⟩) | cases e
theorem rd_cmp (p : Int → Int → Bool) : Rd2 k (cmpV p) (rI0 fun i j => .bl (p i j)) := rd_int fun st a b c e => by
  cases a <;> cases b <;> first | (cases e; exact ⟨_, _, _, rfl, rfl, rfl, fun _ _ => rfl⟩) | cases e
theorem rd_add : Rd2 k addV (fun x y H Q => (rI0 (fun i j => .int (i + j)) x y H Q ∨ (∃ i j, x = .str i ∧ y = .str j ∧ i.length + j.length ≤ sizeLine ∧ Q (.str (i ++ j)) H)) ∨ (rCat x y H Q ∨ rCatA k.K x y H Q)) := by
  intro W H st a b x y c Q o ra rb e q
  cases a <;> cases b <;> first | cases e | skip
  · exact .inl (.inl ⟨_, _, ra, rb, q W H _ (Le.refl W H) o rfl⟩)
  · rename_i i j
    dsimp only [addV] at e
    split at e
    · rename_i hl
      cases e
      exact .inl (.inr ⟨i, j, ra, rb, lim_le hl, q W H _ (Le.refl W H) o rfl⟩)
    · cases e
  · rename_i xs ys
    dsimp only [addV] at e
    split at e
    · rename_i hl
      cases e
      obtain ⟨p, vs, e1, s1, r1⟩ := ra
      obtain ⟨p2, us, e2, s2, r2⟩ := rb
      refine .inr (.inr ⟨p, p2, vs, us, e1, e2, s1, s2, by rw [r1.len, r2.len]; exact lim_le hl, fun z => ?_, fun z1 z2 => ?_, fun _ _ p hp => newTup o hp (r1.append r2) q⟩)
      · subst z
        have hx : xs = [] := List.length_eq_zero_iff.mp (by rw [← r1.len]; rfl)
        subst hx
        exact q W H _ (Le.refl W H) o ⟨p2, us, rfl, s2, r2⟩
      · subst z2
        have hy : ys = [] := List.length_eq_zero_iff.mp (by rw [← r2.len]; rfl)
        subst hy
        rw [List.append_nil] at q
        exact q W H _ (Le.refl W H) o ⟨p, vs, rfl, s1, r1⟩
    · cases e
  · rename_i xs ys
    dsimp only [addV] at e
    split at e
    · rename_i hl
      cases e
      obtain ⟨p, vs, e1, f1, s1, r1⟩ := ra
      obtain ⟨p2, us, e2, f2, s2, r2⟩ := rb
      exact .inr (.inl ⟨p, p2, vs, us, e1, e2, s1, s2, by rw [r1.len, r2.len]; exact lim_le hl, fun p hp => newLst o hp (r1.append r2) q⟩)
    · cases e
theorem rd_mul : Rd2 k mulV (fun x y H Q => rI CMul (fun i j => .int (i * j)) x y H Q ∨ rRep x y H Q) := by
  intro W H st a b x y c Q o ra rb e q
  cases a <;> cases b <;> first | cases e | skip
  · rename_i i j
    dsimp only [mulV] at e
    split at e
    · rename_i hl
      cases e
      refine .inl ⟨i, j, ra, rb, ?_, q W H _ (Le.refl W H) o rfl⟩
      rcases Bool.or_eq_true_iff.mp hl with z | z
      · have z2 := Bool.and_eq_true_iff.mp z
        exact .inl ⟨of_decide_eq_true z2.1, of_decide_eq_true z2.2⟩
      · have z2 := Bool.and_eq_true_iff.mp z
        exact .inr ⟨of_decide_eq_true z2.1, of_decide_eq_true z2.2⟩
    · cases e
  · rename_i xs j
    dsimp only [mulV] at e
    split at e
    · rename_i hl
      cases e
      obtain ⟨p, vs, e1, f1, s1, r1⟩ := ra
      refine .inr ⟨p, j, vs, e1, rb, s1, hl.2.1, hl.2.2, by rw [r1.len]; exact lim_le hl.1, fun p hp => newLst o hp ?_ q⟩
      generalize j.toNat = n
      induction n with
      | zero => exact rfl
      | succ n ih =>
        rw [List.replicate_succ, List.replicate_succ, List.flatten_cons, List.flatten_cons]
        exact r1.append ih
    · cases e
theorem rd_fdiv : Rd2 k fdivV (rI CDiv fun i j => .int (i / j)) := by
  intro W H st a b x y c Q o ra rb e q
  cases a <;> cases b <;> first | cases e | skip
  dsimp only [fdivV] at e
  split at e
  · rename_i hl
    cases e
    exact ⟨_, _, ra, rb, hl, q W H _ (Le.refl W H) o rfl⟩
  · cases e
theorem rd_mod : Rd2 k modV (rI (fun _ j => 0 < j) fun i j => .int (i % j)) := by
  intro W H st a b x y c Q o ra rb e q
  cases a <;> cases b <;> first | cases e | skip
  dsimp only [modV] at e
  split at e
  · rename_i hl
    cases e
    exact ⟨_, _, ra, rb, hl, q W H _ (Le.refl W H) o rfl⟩
  · cases e
theorem rd_pow : Rd2 k powV (rI CPow fun i j => .int (i ^ j.toNat)) := by
  intro W H st a b x y c Q o ra rb e q
  cases a <;> cases b <;> first | cases e | skip
  dsimp only [powV] at e
  split at e
  · rename_i hl
    cases e
    exact ⟨_, _, ra, rb, ⟨hl.1, by omega, Nat.lt_of_lt_of_le hl.2.2 (by decide)⟩, q W H _ (Le.refl W H) o rfl⟩
  · cases e
end
section
variable {X : Cx} {k : Kx} {E : WX} {a b : Expr} {ma mb : M Val} {pos : Pos}
theorem me_add (ha : PE X a (tM k E ma)) (hb : PE X b (tM k E mb)) (hk : X.K = k.K := by rfl) : PE X (.BinOp a .Add b pos) (tM k E (bin addV ma mb)) := me_op (hk ▸ rd_add) (OpR_or (OpR_or op_add op_add_str) (OpR_or op_cat op_catA)) ha hb
theorem me_sub (ha : PE X a (tM k E ma)) (hb : PE X b (tM k E mb)) : PE X (.BinOp a .Sub b pos) (tM k E (bin subV ma mb)) := me_op rd_sub op_sub ha hb
theorem me_mul (ha : PE X a (tM k E ma)) (hb : PE X b (tM k E mb)) : PE X (.BinOp a .Mult b pos) (tM k E (bin mulV ma mb)) := me_op rd_mul (OpR_or op_mul op_rep) ha hb
theorem me_fdiv (ha : PE X a (tM k E ma)) (hb : PE X b (tM k E mb)) : PE X (.BinOp a .FloorDiv b pos) (tM k E (bin fdivV ma mb)) := me_op rd_fdiv op_fdiv ha hb
theorem me_mod (ha : PE X a (tM k E ma)) (hb : PE X b (tM k E mb)) : PE X (.BinOp a .Mod b pos) (tM k E (bin modV ma mb)) := me_op rd_mod op_mod ha hb
theorem me_pow (ha : PE X a (tM k E ma)) (hb : PE X b (tM k E mb)) : PE X (.BinOp a .Pow b pos) (tM k E (bin powV ma mb)) := me_op rd_pow op_pow ha hb
end
end Mi

namespace Mi
open PySem L2

/-! ### data, == at any depth -/
mutual
def toD0 : Val → Option PyData
  | .non => some .none
  | .bl b => some (.bool b)
  | .int i => some (.int i)
  | .str x => some (.str x)
  | .tup xs => (toD0s xs).map .tuple
  | .lst xs => (toD0s xs).map .list
  | .rol xs => (toD0s xs).map .list
  | .ins _ _ _ => none
  | .ref _ => none
def toD0s : List Val → Option (List PyData)
  | [] => some []
  | x :: xs => match toD0 x, toD0s xs with
    | some d, some ds => some (d :: ds)
    | _, _ => none
end
def toD (st : Sto) : Val → Option PyData
  | .ref i => match st[i]? with
    | some (.lst xs) => (toD0s xs).map .list
    | _ => none
  | a => toD0 a
def eqD (st : Sto) (a b : Val) : Option Val := match toD st a, toD st b with
  | some d, some e => if SeqAt.shaped d = true ∧ SeqAt.shaped e = true then some (.bl (d.eqv e)) else none
  | _, _ => none
def neD (st : Sto) (a b : Val) : Option Val := match toD st a, toD st b with
  | some d, some e => if SeqAt.shaped d = true ∧ SeqAt.shaped e = true then some (.bl (!d.eqv e)) else none
  | _, _ => none
def eqV (st : Sto) (a b : Val) : Option Val := match strOf a, strOf b with
  | some x, some y => some (.bl (x == y))
  | _, _ => eqD st a b
def neV (st : Sto) (a b : Val) : Option Val := match strOf a, strOf b with
  | some x, some y => some (.bl (!(x == y)))
  | _, _ => neD st a b
section
variable {k : Kx} {W : Wd} {H : Hp} {st : Sto}
theorem SqL.ro {K : PySem.W.Frag} {p : Addr} {vs : List V} {H : Hp} (h : SqL K (fun _ => none) p vs) : SqL K H p vs := by
  rcases h with (s | ⟨u, s⟩) | s
  · cases s
  · cases s
  · exact .inr s
theorem RoL.sq {p : Addr} {vs : List V} (h : RoL k H p vs) : SqL k.K H p vs := by
  rcases h with ⟨u, s⟩ | s
  · exact .inl (.inr ⟨u, s⟩)
  · exact SqL.ro s
mutual
theorem toD0_rep : ∀ {a : Val} {x : V} {d : PyData}, RepV k W H a x → toD0 a = some d → Dp k.K H x d
  | .non, x, d, r, e => by
    have r' : x = .non := r
    cases e
    rw [r']
    exact .non
  | .bl b, x, d, r, e => by
    have r' : x = .bl b := r
    cases e
    rw [r']
    exact .bl b
  | .int i, x, d, r, e => by
    have r' : x = .int i := r
    cases e
    rw [r']
    exact .int i
  | .str z, x, d, r, e => by
    have r' : x = .str z := r
    cases e
    rw [r']
    exact .str z
  | .tup xs, x, d, r, e => by
    obtain ⟨p, vs, e1, s, r⟩ := r
    dsimp only [toD0] at e
    cases q : toD0s xs with
    | none =>
      rw [q] at e
      cases e
    | some ds =>
      rw [q] at e
      cases e
      rw [e1]
      exact .tup s (toD0s_rep r q)
  | .lst xs, x, d, r, e => by
    obtain ⟨p, vs, e1, f, s, r⟩ := r
    dsimp only [toD0] at e
    cases q : toD0s xs with
    | none =>
      rw [q] at e
      cases e
    | some ds =>
      rw [q] at e
      cases e
      rw [e1]
      exact .lst (.inl (.inl s)) (toD0s_rep r q)
  | .rol xs, x, d, r, e => by
    obtain ⟨p, vs, e1, s, r⟩ := r
    dsimp only [toD0] at e
    cases q : toD0s xs with
    | none =>
      rw [q] at e
      cases e
    | some ds =>
      rw [q] at e
      cases e
      rw [e1]
      exact .lst (RoL.sq s) (toD0s_rep r q)
  | .ins _ _ _, _, _, _, e => by cases e
  | .ref _, _, _, _, e => by cases e
theorem toD0s_rep : ∀ {xs : List Val} {vs : List V} {ds : List PyData}, RepL k W H xs vs → toD0s xs = some ds → DpAll k.K H vs ds
  | [], vs, ds, r, e => by
    have r' : vs = [] := r
    cases e
    rw [r']
    exact .nil
  | x :: xs, vs, ds, r, e => by
    obtain ⟨v, u, rfl, r1, r2⟩ := r
    dsimp only [toD0s] at e
    cases q1 : toD0 x with
    | none =>
      rw [q1] at e
      cases e
    | some d =>
      cases q2 : toD0s xs with
      | none =>
        rw [q1, q2] at e
        cases e
      | some ds' =>
        rw [q1, q2] at e
        cases e
        exact .cons (toD0_rep r1 q1) (toD0s_rep r2 q2)
end
theorem toD_rep {a : Val} {x : V} {d : PyData} (o : Ok k W H st) (r : RepV k W H a x) (e : toD st a = some d) : Dp k.K H x d := by
  unfold toD at e
  split at e
  · rename_i i
    split at e
    · rename_i xs q
      obtain ⟨p, e1, s⟩ := r
      obtain ⟨vs, z, r⟩ := o.obj i _ p q s
      cases q2 : toD0s xs with
      | none =>
        rw [q2] at e
        cases e
      | some ds =>
        rw [q2] at e
        cases e
        rw [e1]
        exact .lst (.inl (.inl z)) (toD0s_rep r q2)
    · cases e
  · exact toD0_rep r e
def orR (r q : R2) : R2 := fun x y H Q => r x y H Q ∨ q x y H Q
theorem OpR.or {X : Cx} {f : Value → Value → Sem Value} {r q : R2} (h : OpR X f r) (g : OpR X f q) : OpR X f (orR r q) := by
  intro pins s σ H x y v u Q I rx ry z
  rcases z with z | z
  · exact h pins s σ H x y v u Q I rx ry z
  · exact g pins s σ H x y v u Q I rx ry z
theorem strOf_is {a : Val} {x : Str} (h : strOf a = some x) : a = .str x := by
  cases a <;> cases h
  rfl
theorem rd_eq : Rd2 k eqV (orR (rEqD k.K) rEq) := by
  intro W H st a b x y c Q o ra rb e q
  unfold eqV at e
  split at e
  · rename_i u w hu hw
    have e1 := strOf_is hu
    have e2 := strOf_is hw
    subst e1 e2
    have r1 : x = .str u := ra
    have r2 : y = .str w := rb
    subst r1 r2
    cases e
    exact .inr ⟨rfl, q W H _ (Le.refl W H) o (by rw [dec_str]; rfl)⟩
  unfold eqD at e
  split at e
  · rename_i d f hd hf
    split at e
    · rename_i hs
      cases e
      exact .inl ⟨d, f, toD_rep o ra hd, toD_rep o rb hf, hs.1, hs.2, q W H _ (Le.refl W H) o rfl⟩
    · cases e
  · cases e
theorem rd_ne : Rd2 k neV (orR (rNeD k.K) rNe) := by
  intro W H st a b x y c Q o ra rb e q
  unfold neV at e
  split at e
  · rename_i u w hu hw
    have e1 := strOf_is hu
    have e2 := strOf_is hw
    subst e1 e2
    have r1 : x = .str u := ra
    have r2 : y = .str w := rb
    subst r1 r2
    cases e
    exact .inr ⟨rfl, q W H _ (Le.refl W H) o (by rw [dec_str]; rfl)⟩
  unfold neD at e
  split at e
  · rename_i d f hd hf
    split at e
    · rename_i hs
      cases e
      exact .inl ⟨d, f, toD_rep o ra hd, toD_rep o rb hf, hs.1, hs.2, q W H _ (Le.refl W H) o rfl⟩
    · cases e
  · cases e
end
/-! ### is None; in -/
def isNon : Val → Bool
  | .non => true
  | _ => false
def isNV (_ : Sto) (a b : Val) : Option Val := if isNon b then some (.bl (isNon a)) else none
def notNV (_ : Sto) (a b : Val) : Option Val := if isNon b then some (.bl (!isNon a)) else none
def flat : Val → Option V
  | .non => some .non
  | .bl b => some (.bl b)
  | .int i => some (.int i)
  | .str x => some (.str x)
  | _ => none
def inStr (a b : Str) : Bool := match a.cps.toList with
  | [c] => decide (c ∈ b.cps.toList)
  | _ => !(Builtin.Str.occurrences b a 0 b.length 1).isEmpty
/-- x in ..: a text in a text; a flat thing in a list or a tuple of such -/
def inB (st : Sto) (a b : Val) : Option Bool := match a, b with
  | .str x, .str y => some (inStr x y)
  | a, b => match flat a, seqOf st b with
    | some x, some ys => match allOf flat ys with
      | some us => some (inV x us)
      | none => none
    | _, _ => none
def inVal (st : Sto) (a b : Val) : Option Val := (inB st a b).map .bl
def notInVal (st : Sto) (a b : Val) : Option Val := (inB st a b).map fun t => .bl (!t)
section
variable {k : Kx} {W : Wd} {H : Hp} {st : Sto}
theorem isNon_rep {a : Val} {x : V} (r : RepV k W H a x) : decide (x = .non) = isNon a := by
  cases a with
  | non =>
    have r' : x = .non := r
    rw [r']
    rfl
  | bl b =>
    have r' : x = .bl b := r
    rw [r']
    rfl
  | int b =>
    have r' : x = .int b := r
    rw [r']
    rfl
  | str b =>
    have r' : x = .str b := r
    rw [r']
    rfl
  | tup xs =>
    obtain ⟨p, vs, e, _⟩ := r
    rw [e]
    rfl
  | lst xs =>
    obtain ⟨p, vs, e, _⟩ := r
    rw [e]
    rfl
  | rol xs =>
    obtain ⟨p, vs, e, _⟩ := r
    rw [e]
    rfl
  | ins c ks xs =>
    obtain ⟨p, dx, vs, e, _⟩ := r
    rw [e]
    rfl
  | ref i =>
    obtain ⟨p, e, _⟩ := r
    rw [e]
    rfl
theorem rd_isN : Rd2 k isNV (fun x y H Q => y = .non ∧ Q (.bl (decide (x = .non))) H) := by
  intro W H st a b x y c Q o ra rb e q
  unfold isNV at e
  split at e
  · rename_i hb
    cases e
    have hy := isNon_rep rb
    rw [hb] at hy
    refine ⟨of_decide_eq_true hy, ?_⟩
    rw [isNon_rep ra]
    exact q W H _ (Le.refl W H) o rfl
  · cases e
theorem rd_notN : Rd2 k notNV (fun x y H Q => y = .non ∧ Q (.bl (!decide (x = .non))) H) := by
  intro W H st a b x y c Q o ra rb e q
  unfold notNV at e
  split at e
  · rename_i hb
    cases e
    have hy := isNon_rep rb
    rw [hb] at hy
    refine ⟨of_decide_eq_true hy, ?_⟩
    rw [isNon_rep ra]
    exact q W H _ (Le.refl W H) o rfl
  · cases e
theorem flat_rep {a : Val} {x u : V} (r : RepV k W H a x) (e : flat a = some u) : x = u ∧ flatV u = true := by
  cases a <;> first | (cases e; exact ⟨r, rfl⟩) | cases e
theorem flats_rep : ∀ {xs : List Val} {vs us : List V}, RepL k W H xs vs → allOf flat xs = some us → vs = us ∧ us.all flatV = true
  | [], vs, us, r, e => by
    cases e
    exact ⟨r, rfl⟩
  | x :: xs, vs, us, r, e => by
    obtain ⟨v, w, rfl, r1, r2⟩ := r
    unfold allOf at e
    cases q1 : flat x with
    | none =>
      rw [q1] at e
      cases e
    | some d =>
      cases q2 : allOf flat xs with
      | none =>
        rw [q1, q2] at e
        cases e
      | some ds =>
        rw [q1, q2] at e
        cases e
        obtain ⟨e1, f1⟩ := flat_rep r1 q1
        obtain ⟨e2, f2⟩ := flats_rep r2 q2
        exact ⟨by rw [e1, e2], by rw [List.all_cons, f1, f2]; rfl⟩
abbrev rInU (K : PySem.W.Frag) (neg : Bool) : R2 := fun x y H Q => (rIn K neg x y H Q) ∨ ((∃ (c : Nat) (z : Str), x = .str ⟨#[c]⟩ ∧ y = .str z ∧ Q (.bl (if neg then !decide (c ∈ z.cps.toList) else decide (c ∈ z.cps.toList))) H) ∨
  (∃ i j, x = .str i ∧ y = .str j ∧ Q (.bl (if neg then !(!(Builtin.Str.occurrences j i 0 j.length 1).isEmpty) else !(Builtin.Str.occurrences j i 0 j.length 1).isEmpty)) H))
theorem inStr_cases (i j : Str) : (∃ c, i = ⟨#[c]⟩ ∧ inStr i j = decide (c ∈ j.cps.toList)) ∨ inStr i j = !(Builtin.Str.occurrences j i 0 j.length 1).isEmpty := by
  unfold inStr
  split
  · rename_i c hc
    refine .inl ⟨c, ?_, rfl⟩
    cases i with
    | mk cps =>
      have e1 : cps = #[c] := Array.toList_inj.mp hc
      rw [e1]
  · exact .inr rfl
theorem inB_read {neg : Bool} {a b : Val} {x y : V} {t : Bool} {Q : VK} (o : Ok k W H st) (ra : RepV k W H a x) (rb : RepV k W H b y) (e : inB st a b = some t) (q : Q (.bl (if neg then !t else t)) H) : rInU k.K neg x y H Q := by
  unfold inB at e
  split at e
  · rename_i i j
    cases e
    have ea : x = .str i := ra
    have eb : y = .str j := rb
    subst ea eb
    rcases inStr_cases i j with ⟨c, hi, z⟩ | z
    · rw [z] at q
      rw [hi]
      exact .inr (.inl ⟨c, j, rfl, rfl, q⟩)
    · rw [z] at q
      exact .inr (.inr ⟨i, j, rfl, rfl, q⟩)
  · split at e
    · rename_i u ys hu hys
      split at e
      · rename_i us hus
        cases e
        obtain ⟨e1, f1⟩ := flat_rep ra hu
        obtain ⟨p, vs, e2, s, r⟩ := seqOf_rep o rb hys
        obtain ⟨e3, f3⟩ := flats_rep r hus
        subst e1 e3
        exact .inl ⟨p, _, e2, s, f1, f3, q⟩
      · cases e
    · cases e
theorem rd_in : Rd2 k inVal (rInU k.K false) := by
  intro W H st a b x y c Q o ra rb e q
  unfold inVal at e
  cases h : inB st a b with
  | none =>
    rw [h] at e
    cases e
  | some t =>
    rw [h] at e
    cases e
    exact inB_read (neg := false) o ra rb h (q W H _ (Le.refl W H) o rfl)
theorem rd_notIn : Rd2 k notInVal (rInU k.K true) := by
  intro W H st a b x y c Q o ra rb e q
  unfold notInVal at e
  cases h : inB st a b with
  | none =>
    rw [h] at e
    cases e
  | some t =>
    rw [h] at e
    cases e
    exact inB_read (neg := true) o ra rb h (q W H _ (Le.refl W H) o rfl)
end
theorem op_inU {X : Cx} : OpR X (compareOp .In) (rInU X.K false) := OpR_or op_in_seq (OpR_or op_in_sign op_in_str)
theorem op_notInU {X : Cx} : OpR X (compareOp .NotIn) (rInU X.K true) := OpR_or op_notIn_seq (OpR_or op_notIn_sign op_notIn_str)

/-! ### a[i], a[i:j] -/
def idxV (st : Sto) (a b : Val) : Option Val := match b with
  | .int i => match a with
    | .str z => if z.length ≤ LIM then (atI z.cps.toList i).map fun c => .str ⟨#[c]⟩ else none
    | a => match seqOf st a with
      | some xs => atI xs i
      | none => none
  | _ => none
theorem atI_rep {k : Kx} {W : Wd} {H : Hp} {xs : List Val} {vs : List V} {i : Int} {x : Val} (r : RepL k W H xs vs) (h : atI xs i = some x) : ∃ v, atI vs i = some v ∧ RepV k W H x v := by
  unfold atI at h ⊢
  rw [r.len]
  cases e : ixN xs.length i with
  | none =>
    rw [e] at h
    cases h
  | some j =>
    rw [e] at h
    exact r.get h
theorem rd_idx {k : Kx} : Rd2 k idxV (fun x y H Q => rIxL k.K x y H Q ∨ (rIxT k.K x y H Q ∨ rIxS x y H Q)) := by
  intro W H st a b x y c Q o ra rb e q
  unfold idxV at e
  split at e
  · rename_i i
    split at e
    · rename_i z
      split at e
      · rename_i hl
        cases h : atI z.cps.toList i with
        | none =>
          rw [h] at e
          cases e
        | some d =>
          rw [h] at e
          cases e
          exact .inr (.inr ⟨z, i, d, ra, rb, lim_le hl, h, q W H _ (Le.refl W H) o rfl⟩)
      · cases e
    · split at e
      · rename_i xs hxs
        obtain ⟨p, vs, e1, s, r⟩ := seqOf_rep o ra hxs
        obtain ⟨v, hv, rv⟩ := atI_rep r e
        rcases s with s | s
        · exact .inl ⟨p, vs, i, v, e1, rb, s, hv, q W H v (Le.refl W H) o rv⟩
        · exact .inr (.inl ⟨p, vs, i, v, e1, rb, s, hv, q W H v (Le.refl W H) o rv⟩)
      · cases e
  · cases e
def cutL {α : Type} (xs : List α) (lo hi : Option Int) : List α := (xs.drop (HT.sIx xs.length 0 lo)).take (HT.sIx xs.length xs.length hi - HT.sIx xs.length 0 lo)
theorem cutL_rep {k : Kx} {W : Wd} {H : Hp} {xs : List Val} {vs : List V} (r : RepL k W H xs vs) (lo hi : Option Int) : RepL k W H (cutL xs lo hi) (cutV vs lo hi) := by
  unfold cutL cutV
  rw [r.len]
  exact (r.drop _).take _
def cutVal (st : Sto) (a : Val) (lo hi : Option Int) : Option Val := match a with
  | .str z => if z.length ≤ LIM then some (.str (cutS z lo hi)) else none
  | .tup xs => some (.tup (cutL xs lo hi))
  | a => match lstOf st a with
    | some xs => some (.lst (cutL xs lo hi))
    | none => none
def part (m : M Val) : M (Option Int) := bnd m fun a => lift fun _ => (intOf a).map some
def nopart : M (Option Int) := ret none
def RO : Wd → Hp → Option Int → Option Int → Prop := fun _ _ a b => b = a
def tMo (k : Kx) (E : WX) (m : M (Option Int)) : TO := fun σ H Q => tG k RO E m σ H Q
def sliceM (ma : M Val) (ml mh : M (Option Int)) : M Val := bnd ma fun a => bnd ml fun lo => bnd mh fun hi => lift fun st => cutVal st a lo hi
section
variable {X : Cx} {k : Kx} {E : WX}
theorem mo_none : PO X none (tMo k E nopart) := by
  refine ⟨fun pins s σ H Q I h => po_none.run pins s σ H Q I ?_⟩
  obtain ⟨W, h⟩ := h
  exact h.ret rfl
theorem mo_some {e : Expr} {m : M Val} (h : PE X e (tM k E m)) : PO X (some e) (tMo k E (part m)) := by
  refine ⟨fun pins s σ H Q I h' => (po_some h).run pins s σ H Q I ?_⟩
  show tM k E m σ H _
  refine tG.mono (tG.bnd (R1 := RepV k) h') fun x H1 ⟨W, a, ra, h1⟩ => ?_
  obtain ⟨c, st, e, o, q⟩ := h1.lift
  cases a with
  | int i =>
    cases e
    exact ⟨i, ra, q W H1 _ (Le.refl W H1) o rfl⟩
  | _ => cases e
theorem me_slice {e : Expr} {lo hi : Option Expr} {p2 pos : Pos} {ma : M Val} {ml mh : M (Option Int)} (he : PE X e (tM k E ma)) (hl : PO X lo (tMo k E ml)) (hh : PO X hi (tMo k E mh)) (hk : X.K = k.K := by rfl) :
    PE X (.Subscript e (.Slice lo hi none p2) pos) (tM k E (sliceM ma ml mh)) := by
  refine imp (pe_slice (SlR_or sl_list (SlR_or sl_tupA sl_str)) he hl hh) fun σ H Q h => ?_
  rw [hk]
  refine tG.mono (tG.bnd (R1 := RepV k) h) fun x H1 ⟨W, a, ra, h1⟩ => ?_
  refine tG.mono (At.bnd (R1 := RO) (fun W H => RepV k W H a x) (fun l r => r.le l) ra h1) fun lo H2 ⟨W2, lo', ra2, el, h2⟩ => ?_
  cases el
  refine tG.mono (At.bnd (R1 := RO) (fun W H => RepV k W H a x) (fun l r => r.le l) ra2 h2) fun hi H3 ⟨W3, hi', ra3, eh, h3⟩ => ?_
  cases eh
  obtain ⟨c, st, e, o, q⟩ := h3.lift
  have lists : ∀ xs, lstOf st a = some xs → c = .lst (cutL xs lo hi) → rSlL k.K x lo hi H3 Q := fun xs hxs hc => by
    subst hc
    obtain ⟨p, vs, e1, s, r⟩ := lstOf_rep o ra3 hxs
    exact ⟨p, vs, e1, s, fun p hp => newLst o hp (cutL_rep r _ _) q⟩
  cases a with
  | str z =>
    dsimp only [cutVal] at e
    split at e
    · rename_i hl
      cases e
      exact .inr (.inr ⟨z, ra3, lim_le hl, q W3 H3 _ (Le.refl _ _) o rfl⟩)
    · cases e
  | tup xs =>
    cases e
    obtain ⟨p, vs, e1, s, r⟩ := ra3
    refine .inr (.inl ⟨p, vs, e1, s, fun z => ?_, fun _ p hp => newTup o hp (cutL_rep r _ _) q⟩)
    have e2 : cutL xs lo hi = xs := by
      unfold cutL
      rw [r.len] at z
      rw [z.1, z.2]
      simp
    rw [e2] at q
    exact q W3 H3 _ (Le.refl _ _) o ⟨p, vs, rfl, s, r⟩
  | lst xs =>
    cases e
    exact .inl (lists xs rfl rfl)
  | rol xs =>
    cases e
    exact .inl (lists xs rfl rfl)
  | ref i =>
    dsimp only [cutVal] at e
    cases h : lstOf st (.ref i) with
    | none =>
      rw [h] at e
      cases e
    | some xs =>
      rw [h] at e
      cases e
      exact .inl (lists xs h rfl)
  | _ => cases e
def revV (st : Sto) (a : Val) : Option Val := (lstOf st a).map fun xs => .lst xs.reverse
theorem me_rev {e : Expr} {j : Nat} {p1 p2 p3 pos : Pos} {m : M Val} (he : PE X e (tM k E m)) (hk : X.K = k.K := by rfl) :
    PE X (.Subscript e (.Slice none none (some (.UnaryOp .USub (.Constant (.int 1) j p1) p2)) p3) pos) (tM k E (un revV m)) := by
  refine imp (pe_revL he) fun σ H Q h => ?_
  rw [hk]
  refine tG.mono (tG.bnd (R1 := RepV k) h) fun x H1 ⟨W, a, ra, h1⟩ => ?_
  obtain ⟨c, st, e, o, q⟩ := h1.lift
  unfold revV at e
  cases h : lstOf st a with
  | none =>
    rw [h] at e
    cases e
  | some xs =>
    rw [h] at e
    cases e
    obtain ⟨p, vs, e1, s, r⟩ := lstOf_rep o ra h
    exact ⟨p, vs, e1, s, fun p hp => newLst o hp r.reverse q⟩
theorem me_idx {a b : Expr} {ma mb : M Val} {pos : Pos} (ha : PE X a (tM k E ma)) (hb : PE X b (tM k E mb)) (hs : PlainIx b) (hk : X.K = k.K := by rfl) : PE X (.Subscript a b pos) (tM k E (bin idxV ma mb)) :=
  imp (pe_ix (ix_list.or (ix_tup.or ix_str)) ha hb hs) fun σ H Q h => by
    rw [hk]
    exact bin_read rd_idx h
theorem me_neg {a : Expr} {m : M Val} {pos : Pos} (ha : PE X a (tM k E m)) : PE X (.UnaryOp .USub a pos) (tM k E (un (fun _ a => (intOf a).map fun i => .int (-i)) m)) := by
  refine imp (pe_un un_neg ha) fun σ H Q h => ?_
  refine tG.mono (tG.bnd (R1 := RepV k) h) fun x H1 ⟨W, a, ra, h1⟩ => ?_
  obtain ⟨c, st, e, o, q⟩ := h1.lift
  cases a with
  | int i =>
    cases e
    exact ⟨i, ra, q W H1 _ (Le.refl W H1) o rfl⟩
  | _ => cases e
end
end Mi

namespace Mi
open PySem L2

/-! ### comparisons, bundled -/
def CmpU (X : Cx) (k : Kx) (op : CmpOp) (f : Sto → Val → Val → Option Val) : Prop := ∃ r, Rd2 k f r ∧ OpR X (compareOp op) r
section
variable {X : Cx} {k : Kx} {E : WX}
theorem cu_lt : CmpU X k .Lt (cmpV fun i j => decide (i < j)) := ⟨_, rd_cmp _, op_lt⟩
theorem cu_le : CmpU X k .LtE (cmpV fun i j => decide (i ≤ j)) := ⟨_, rd_cmp _, op_le⟩
theorem cu_gt : CmpU X k .Gt (cmpV fun i j => decide (j < i)) := ⟨_, rd_cmp _, op_gt⟩
theorem cu_ge : CmpU X k .GtE (cmpV fun i j => decide (j ≤ i)) := ⟨_, rd_cmp _, op_ge⟩
theorem cu_eq {n : Nat} (hr : Room n X.A) (hk : X.K = k.K := by rfl) : CmpU X k .Eq eqV := ⟨_, hk ▸ rd_eq, OpR.or (op_eqD hr.units) op_eq⟩
theorem cu_ne {n : Nat} (hr : Room n X.A) (hk : X.K = k.K := by rfl) : CmpU X k .NotEq neV := ⟨_, hk ▸ rd_ne, OpR.or (op_neD hr.units) op_ne⟩
theorem cu_in (hk : X.K = k.K := by rfl) : CmpU X k .In inVal := ⟨_, hk ▸ rd_in, op_inU⟩
theorem cu_notIn (hk : X.K = k.K := by rfl) : CmpU X k .NotIn notInVal := ⟨_, hk ▸ rd_notIn, op_notInU⟩
theorem cu_is : CmpU X k .Is isNV := ⟨_, rd_isN, op_isN⟩
theorem cu_isNot : CmpU X k .IsNot notNV := ⟨_, rd_notN, op_notN⟩
variable {a b c : Expr} {op op' : CmpOp} {pos : Pos} {f g : Sto → Val → Val → Option Val} {ma mb mc : M Val}
theorem me_cu (h : CmpU X k op f) (ha : PE X a (tM k E ma)) (hb : PE X b (tM k E mb)) (hm : behindInMarks op b = false := by first | exact nomark _ | rfl) : PE X (.Compare a [op] [b] pos) (tM k E (bin f ma mb)) := by
  obtain ⟨r, h1, h2⟩ := h
  exact me_cmp h1 h2 hm ha hb
theorem mt_cu (h : CmpU X k op f) (ha : PE X a (tM k E ma)) (hb : PE X b (tM k E mb)) (hm : behindInMarks op b = false := by first | exact nomark _ | rfl) : PT X (.Compare a [op] [b] pos) (tMb k E (asB (bin f ma mb))) := by
  obtain ⟨r, h1, h2⟩ := h
  exact mt_cmp h1 h2 hm ha hb
theorem me_ch (h : CmpU X k op f) (h' : CmpU X k op' g) (ha : PE X a (tM k E ma)) (hb : PE X b (tM k E mb)) (hc : PE X c (tM k E mc)) (hm : lastMarks [op, op'] [b, c] = false := by with_unfolding_all rfl) :
    PE X (.Compare a [op, op'] [b, c] pos) (tM k E (chain f g ma mb mc)) := by
  obtain ⟨r, h1, h2⟩ := h
  obtain ⟨r', h3, h4⟩ := h'
  exact imp (pe_chain h2 h4 ha hb hc hm) fun _ _ _ h => chain_read h1 h3 h
theorem mt_ch (h : CmpU X k op f) (h' : CmpU X k op' g) (ha : PE X a (tM k E ma)) (hb : PE X b (tM k E mb)) (hc : PE X c (tM k E mc)) (hm : lastMarks [op, op'] [b, c] = false := by with_unfolding_all rfl) :
    PT X (.Compare a [op, op'] [b, c] pos) (tMb k E (asB (chain f g ma mb mc))) := by
  obtain ⟨r, h1, h2⟩ := h
  obtain ⟨r', h3, h4⟩ := h'
  exact impT (pt_chain h2 h4 ha hb hc hm) fun σ H Q h => chain_read (Q := fun x H1 => ∃ c, x = .bl c ∧ Q c H1) h1 h3 (asB_read h)

/-! ### argument lists, displays -/
def consM (m : M Val) (ms : M (List Val)) : M (List Val) := bnd m fun a => bnd ms fun as => ret (a :: as)
def nilM : M (List Val) := ret []
theorem ma_nil : PA X [] (tMa k E nilM) := impA pa_nil fun σ H Q ⟨W, h⟩ => h.ret rfl
theorem ma_cons {e : Expr} {es : List Expr} {m : M Val} {ms : M (List Val)} (h : PE X e (tM k E m)) (t : PA X es (tMa k E ms)) (hs : starEach (e :: es) X.env = (false, eval e X.env) :: starEach es X.env := by rfl) : PA X (e :: es) (tMa k E (consM m ms)) :=
  impA (pa_cons h t hs) fun σ H Q h => tG.mono (tG.bnd (R1 := RepV k) h) fun x H1 ⟨W, a, ra, h1⟩ =>
    tG.mono (At.bnd (R1 := RepL k) (fun W H => RepV k W H a x) (fun l r => r.le l) ra h1) fun xs H2 ⟨W2, as, ra2, rs, h2⟩ => h2.ret (RepL.cons ra2 rs)
def liftS {α : Type} (f : Sto → Option (α × Sto)) : M α := fun _ st => (f st).map fun p => (.ok p.1, p.2)
theorem At.liftS {α β : Type} {R : Wd → Hp → α → β → Prop} {W : Wd} {σ : L2.St} {H : Hp} {f : Sto → Option (α × Sto)} {Q : β → Hp → Prop} (h : At k R E (liftS f) W σ H Q) :
    ∃ c st st', f st = some (c, st') ∧ Ok k W H st ∧ ∀ W' H' v, Le W W' H H' → Ok k W' H' st' → R W' H' c v → Q v H' := by
  obtain ⟨env, st, r, h1, h2, h3, h4⟩ := h
  unfold Mi.liftS at h3
  cases e : f st with
  | none =>
    rw [e] at h3
    cases h3
  | some p =>
    rw [e] at h3
    cases h3
    exact ⟨p.1, st, p.2, e, h1, h4⟩
theorem newLstM {W : Wd} {H : Hp} {st : Sto} {xs : List Val} {Q : VK} {p : Addr} {vs : List V} (o : Ok k W H st) (hp : H p = none) (r : RepL k W H xs vs) (q : ∀ W' H' v, Le W W' H H' → Ok k W' H' (st ++ [.lst xs]) → RepV k W' H' (.ref st.length) v → Q v H') : Q (.ref p) (upd H p (.lst vs)) := by
  have l0 : Le W (W.ob p) H (upd H p (.lst vs)) := (o.newOb (u := .lst []) (o := .lst []) hp ⟨[], upd_same, rfl⟩).1 |> fun _ => ⟨⟨[p], rfl⟩, fun _ h => h, (Le.new (W := W) hp).imm, (Le.new (W := W) hp).keep, (Le.new (W := W) hp).rest, fun q m => by
    rcases List.mem_append.mp (show q ∈ W.rho ++ [p] from m) with m | m
    · exact .inl m
    · exact .inr (by rw [List.mem_singleton.mp m]; exact hp), fun _ h => .inl h, fun _ h => upd_dom h⟩
  obtain ⟨l, o'⟩ := o.newOb (u := .lst xs) (o := .lst vs) hp ⟨vs, upd_same, r.le l0⟩
  refine q (W.ob p) _ _ l o' ⟨p, rfl, ?_⟩
  show (W.rho ++ [p])[st.length]? = some p
  rw [List.getElem?_append_right (by rw [o.len]; exact Nat.le_refl _), o.len, Nat.sub_self]
  rfl
def mkTup (ms : M (List Val)) : M Val := bnd ms fun xs => lift fun _ => if xs.length ≤ LIM then some (.tup xs) else none
def mkLst (ms : M (List Val)) : M Val := bnd ms fun xs => lift fun _ => if xs.length ≤ LIM then some (.lst xs) else none
/-- a list that will be changed -/
def mkLstM (ms : M (List Val)) : M Val := bnd ms fun xs => liftS fun st => if xs.length ≤ LIM then some (.ref st.length, st ++ [.lst xs]) else none
theorem me_tup {es : List Expr} {x1 : Nat} {ms : M (List Val)} (h : PA X es (tMa k E ms)) : PE X (.Tuple es x1 pos) (tM k E (mkTup ms)) :=
  imp (pe_tup h) fun σ H Q h => tG.mono (tG.bnd (R1 := RepL k) h) fun xs H1 ⟨W, as, ra, h1⟩ => by
    obtain ⟨c, st, e, o, q⟩ := h1.lift
    split at e
    · rename_i hl
      cases e
      exact ⟨by rw [ra.len]; exact lim_le hl, fun p hp => newTup o hp ra q⟩
    · cases e
theorem me_lst {es : List Expr} {ms : M (List Val)} (h : PA X es (tMa k E ms)) : PE X (.List es pos) (tM k E (mkLst ms)) :=
  imp (pe_lst h) fun σ H Q h => tG.mono (tG.bnd (R1 := RepL k) h) fun xs H1 ⟨W, as, ra, h1⟩ => by
    obtain ⟨c, st, e, o, q⟩ := h1.lift
    split at e
    · rename_i hl
      cases e
      exact ⟨by rw [ra.len]; exact lim_le hl, fun p hp => newLst o hp ra q⟩
    · cases e
theorem me_lstM {es : List Expr} {ms : M (List Val)} (h : PA X es (tMa k E ms)) : PE X (.List es pos) (tM k E (mkLstM ms)) :=
  imp (pe_lst h) fun σ H Q h => tG.mono (tG.bnd (R1 := RepL k) h) fun xs H1 ⟨W, as, ra, h1⟩ => by
    obtain ⟨c, st, st', e, o, q⟩ := h1.liftS
    split at e
    · rename_i hl
      cases e
      exact ⟨by rw [ra.len]; exact lim_le hl, fun p hp => newLstM o hp ra q⟩
    · cases e

/-! ### built-ins by values -/
def RdN (k : Kx) (f : Sto → List Val → Option Val) (r : List V → Hp → VK → Prop) : Prop := ∀ W H st as xs c Q, Ok k W H st → RepL k W H as xs → f st as = some c → (∀ W' H' v, Le W W' H H' → Ok k W' H' st → RepV k W' H' c v → Q v H') → r xs H Q
def RdNS (k : Kx) (f : Sto → List Val → Option (Val × Sto)) (r : List V → Hp → VK → Prop) : Prop := ∀ W H st as xs c st' Q, Ok k W H st → RepL k W H as xs → f st as = some (c, st') → (∀ W' H' v, Le W W' H H' → Ok k W' H' st' → RepV k W' H' c v → Q v H') → r xs H Q
def app (f : Sto → List Val → Option Val) (ms : M (List Val)) : M Val := bnd ms fun as => lift fun st => f st as
def appS (f : Sto → List Val → Option (Val × Sto)) (ms : M (List Val)) : M Val := bnd ms fun as => liftS fun st => f st as
def CallU (X : Cx) (k : Kx) (v : Value) (f : Sto → List Val → Option Val) : Prop := ∃ r, RdN k f r ∧ CallR X v r
def CallUS (X : Cx) (k : Kx) (v : Value) (f : Sto → List Val → Option (Val × Sto)) : Prop := ∃ r, RdNS k f r ∧ CallR X v r
theorem app_read {f : Sto → List Val → Option Val} {r : List V → Hp → VK → Prop} (h : RdN k f r) {ms : M (List Val)} {σ : L2.St} {H : Hp} {Q : VK} (h1 : tM k E (app f ms) σ H Q) : tCB r (tMa k E ms) σ H Q :=
  tG.mono (tG.bnd (R1 := RepL k) h1) fun xs H1 ⟨W, as, ra, h1⟩ => by
    obtain ⟨c, st, e, o, q⟩ := h1.lift
    exact h W H1 st as xs c Q o ra e q
theorem appS_read {f : Sto → List Val → Option (Val × Sto)} {r : List V → Hp → VK → Prop} (h : RdNS k f r) {ms : M (List Val)} {σ : L2.St} {H : Hp} {Q : VK} (h1 : tM k E (appS f ms) σ H Q) : tCB r (tMa k E ms) σ H Q :=
  tG.mono (tG.bnd (R1 := RepL k) h1) fun xs H1 ⟨W, as, ra, h1⟩ => by
    obtain ⟨c, st, st', e, o, q⟩ := h1.liftS
    exact h W H1 st as xs c st' Q o ra e q
variable {x : Str} {p : Pos} {e : Expr} {es : List Expr} {ms : M (List Val)} {id T : String}
theorem me_cb {fv : Sto → List Val → Option Val} (h : CallU X k (.builtin id) fv) (hg : Gl X x) (hm : X.mg x = none) (hv : bootBuiltins x = some (.builtin id)) (ha : PA X (e :: es) (tMa k E ms)) (hn : x ≠ "__name__" := by decide) (hdb : (x == ("__debug__" : Str)) = false := by decide)
    (he : starEach (e :: es) X.env = (false, eval e X.env) :: starEach es X.env := by rfl) (hpl : (backTo pos (starEach es X.env)).any (·.1) = false := by rfl) : PE X (.Call (.Name x p) (e :: es) [] pos) (tM k E (app fv ms)) := by
  obtain ⟨r, h1, h2⟩ := h
  exact imp (pe_callB h2 hg hm hv ha hn hdb he hpl) fun σ H Q q => app_read h1 q
theorem me_ct {fv : Sto → List Val → Option Val} (h : CallU X k (.type T) fv) (hg : Gl X x) (hm : X.mg x = none) (hv : bootBuiltins x = some (.type T)) (ha : PA X (e :: es) (tMa k E ms)) (hn : x ≠ "__name__" := by decide) (hdb : (x == ("__debug__" : Str)) = false := by decide)
    (he : starEach (e :: es) X.env = (false, eval e X.env) :: starEach es X.env := by rfl) (hpl : (backTo pos (starEach es X.env)).any (·.1) = false := by rfl) : PE X (.Call (.Name x p) (e :: es) [] pos) (tM k E (app fv ms)) := by
  obtain ⟨r, h1, h2⟩ := h
  exact imp (pe_callTy h2 hg hm hv ha hn hdb he hpl) fun σ H Q q => app_read h1 q
theorem me_ctS {fv : Sto → List Val → Option (Val × Sto)} (h : CallUS X k (.type T) fv) (hg : Gl X x) (hm : X.mg x = none) (hv : bootBuiltins x = some (.type T)) (ha : PA X (e :: es) (tMa k E ms)) (hn : x ≠ "__name__" := by decide) (hdb : (x == ("__debug__" : Str)) = false := by decide)
    (he : starEach (e :: es) X.env = (false, eval e X.env) :: starEach es X.env := by rfl) (hpl : (backTo pos (starEach es X.env)).any (·.1) = false := by rfl) : PE X (.Call (.Name x p) (e :: es) [] pos) (tM k E (appS fv ms)) := by
  obtain ⟨r, h1, h2⟩ := h
  exact imp (pe_callTy h2 hg hm hv ha hn hdb he hpl) fun σ H Q q => appS_read h1 q
end
def one : List Val → Option Val
  | [a] => some a
  | _ => none
def lenV (st : Sto) : List Val → Option Val
  | [.str z] => if z.length ≤ LIM then some (.int z.length) else none
  | [a] => (seqOf st a).map fun xs => .int xs.length
  | _ => none
def absV' (_ : Sto) : List Val → Option Val
  | [.int i] => some (.int (if i < 0 then -i else i))
  | _ => none
def intV (_ : Sto) : List Val → Option Val
  | [.int i] => some (.int i)
  | [.bl b] => some (.int (if b then 1 else 0))
  | [.str z] => if z.length ≤ 640 then (PySem.intText? z).map .int else none
  | _ => none
def strV (_ : Sto) : List Val → Option Val
  | [.int i] => if i.natAbs.log2 < 1920 then some (.str (toString i : String)) else none
  | [.str z] => some (.str z)
  | _ => none
def max2V (_ : Sto) : List Val → Option Val
  | [.int i, .int j] => some (.int (if j > i then j else i))
  | _ => none
def min2V (_ : Sto) : List Val → Option Val
  | [.int i, .int j] => some (.int (if j < i then j else i))
  | _ => none
def maxL : List Int → Option Int
  | [] => none
  | [x] => some x
  | x :: xs => (maxL xs).map fun m => if x < m then m else x
def maxV (st : Sto) : List Val → Option Val
  | [a] => match lstOf st a with
    | some xs => match allOf intOf xs with
      | some ns => (maxL ns).map .int
      | none => none
    | none => none
  | _ => none
def allV (st : Sto) : List Val → Option Val
  | [a] => match lstOf st a with
    | some xs => (allOf asBool xs).map fun bs => .bl (bs.all id)
    | none => none
  | _ => none
def tupleV (st : Sto) : List Val → Option Val
  | [a] => (seqOf st a).map .tup
  | _ => none
def listV (st : Sto) : List Val → Option Val
  | [a] => (seqOf st a).map .lst
  | _ => none
def listVM (st : Sto) : List Val → Option (Val × Sto)
  | [a] => (seqOf st a).map fun xs => (.ref st.length, st ++ [.lst xs])
  | _ => none
section
variable {X : Cx} {k : Kx}
theorem rep1 {W : Wd} {H : Hp} {a : Val} {xs : List V} (r : RepL k W H [a] xs) : ∃ v, xs = [v] ∧ RepV k W H a v := by
  obtain ⟨v, u, rfl, r1, r2⟩ := r
  have e : u = [] := r2
  rw [e]
  exact ⟨v, rfl, r1⟩
theorem rep2 {W : Wd} {H : Hp} {a b : Val} {xs : List V} (r : RepL k W H [a, b] xs) : ∃ v u, xs = [v, u] ∧ RepV k W H a v ∧ RepV k W H b u := by
  obtain ⟨v, u, rfl, r1, r2⟩ := r
  obtain ⟨u, rfl, r3⟩ := rep1 r2
  exact ⟨v, u, rfl, r1, r3⟩
theorem cu_len (hk : X.K = k.K := by rfl) : CallU X k (.builtin "len") lenV := by
  refine ⟨_, ?_, CallR_or call_len_seq call_len_str⟩
  intro W H st as xs c Q o r e q
  unfold lenV at e
  split at e
  · rename_i z
    obtain ⟨v, rfl, r1⟩ := rep1 r
    split at e
    · rename_i hl
      cases e
      exact .inr ⟨z, by rw [show v = .str z from r1], lim_le hl, q W H _ (Le.refl _ _) o rfl⟩
    · cases e
  · rename_i a hne
    obtain ⟨v, rfl, r1⟩ := rep1 r
    cases h : seqOf st a with
    | none =>
      rw [h] at e
      cases e
    | some ys =>
      rw [h] at e
      cases e
      obtain ⟨p, vs, rfl, s, r2⟩ := seqOf_rep o r1 h
      rw [hk]
      exact .inl ⟨p, vs, rfl, s, q W H _ (Le.refl _ _) o (by show _ = _; rw [r2.len])⟩
  · cases e
theorem cu_abs : CallU X k (.builtin "abs") absV' := by
  refine ⟨_, ?_, call_abs⟩
  intro W H st as xs c Q o r e q
  unfold absV' at e
  split at e
  · rename_i i
    obtain ⟨v, rfl, r1⟩ := rep1 r
    cases e
    exact ⟨i, by rw [show v = .int i from r1], q W H _ (Le.refl _ _) o rfl⟩
  · cases e
theorem cu_int : CallU X k (.type "int") intV := by
  refine ⟨_, ?_, CallR_or call_int1 call_int_str⟩
  intro W H st as xs c Q o r e q
  unfold intV at e
  split at e
  · rename_i i
    obtain ⟨v, rfl, r1⟩ := rep1 r
    cases e
    exact .inl (.inl ⟨i, by rw [show v = .int i from r1], q W H _ (Le.refl _ _) o rfl⟩)
  · rename_i i
    obtain ⟨v, rfl, r1⟩ := rep1 r
    cases e
    exact .inl (.inr ⟨i, by rw [show v = .bl i from r1], q W H _ (Le.refl _ _) o rfl⟩)
  · rename_i z
    obtain ⟨v, rfl, r1⟩ := rep1 r
    split at e
    · rename_i hl
      cases h : PySem.intText? z with
      | none =>
        rw [h] at e
        cases e
      | some n =>
        rw [h] at e
        cases e
        exact .inr ⟨z, n, by rw [show v = .str z from r1], h, hl, q W H _ (Le.refl _ _) o rfl⟩
    · cases e
  · cases e
theorem cu_str : CallU X k (.type "str") strV := by
  refine ⟨_, ?_, CallR_or call_str_int SkE.call_str_str⟩
  intro W H st as xs c Q o r e q
  unfold strV at e
  split at e
  · rename_i i
    obtain ⟨v, rfl, r1⟩ := rep1 r
    split at e
    · rename_i hl
      cases e
      exact .inl ⟨i, by rw [show v = .int i from r1], hl, q W H _ (Le.refl _ _) o rfl⟩
    · cases e
  · rename_i i
    obtain ⟨v, rfl, r1⟩ := rep1 r
    cases e
    exact .inr ⟨i, by rw [show v = .str i from r1], q W H _ (Le.refl _ _) o rfl⟩
  · cases e
theorem cu_max2 (hc : X.calm = true) : CallU X k (.builtin "max") max2V := by
  refine ⟨_, ?_, call_max2 hc⟩
  intro W H st as xs c Q o r e q
  unfold max2V at e
  split at e
  · rename_i i j
    obtain ⟨v, u, rfl, r1, r2⟩ := rep2 r
    cases e
    exact ⟨i, j, by rw [show v = .int i from r1, show u = .int j from r2], q W H _ (Le.refl _ _) o rfl⟩
  · cases e
theorem cu_min2 (hc : X.calm = true) : CallU X k (.builtin "min") min2V := by
  refine ⟨_, ?_, call_min2 hc⟩
  intro W H st as xs c Q o r e q
  unfold min2V at e
  split at e
  · rename_i i j
    obtain ⟨v, u, rfl, r1, r2⟩ := rep2 r
    cases e
    exact ⟨i, j, by rw [show v = .int i from r1, show u = .int j from r2], q W H _ (Le.refl _ _) o rfl⟩
  · cases e
theorem maxL_spec : ∀ {ns : List Int} {m : Int}, maxL ns = some m → m ∈ ns ∧ ∀ y ∈ ns, y ≤ m
  | [], m, h => by cases h
  | [x], m, h => by
    cases h
    exact ⟨List.mem_singleton.mpr rfl, fun y hy => by rw [List.mem_singleton.mp hy]; exact Int.le_refl _⟩
  | x :: y :: ns, m, h => by
    unfold maxL at h
    cases e : maxL (y :: ns) with
    | none =>
      rw [e] at h
      cases h
    | some z =>
      rw [e] at h
      obtain ⟨h1, h2⟩ := maxL_spec e
      cases h
      dsimp only
      split
      · rename_i hl
        exact ⟨List.mem_cons_of_mem _ h1, fun w hw => by
          rcases List.mem_cons.mp hw with rfl | hw
          · omega
          · exact h2 w hw⟩
      · rename_i hl
        exact ⟨List.mem_cons_self, fun w hw => by
          rcases List.mem_cons.mp hw with rfl | hw
          · omega
          · have := h2 w hw
            omega⟩
theorem cu_max (hc : X.calm = true) (hk : X.K = k.K := by rfl) : CallU X k (.builtin "max") maxV := by
  refine ⟨_, ?_, cr_max hc⟩
  intro W H st as xs c Q o r e q
  unfold maxV at e
  split at e
  · rename_i a
    obtain ⟨v, rfl, r1⟩ := rep1 r
    split at e
    · rename_i ys hys
      split at e
      · rename_i ns hns
        cases h : maxL ns with
        | none =>
          rw [h] at e
          cases e
        | some m =>
          rw [h] at e
          cases e
          obtain ⟨p, vs, rfl, s, r2⟩ := lstOf_rep o r1 hys
          have e3 := ints_rep r2 (allOf_map intOf_eq hns)
          obtain ⟨m1, m2⟩ := maxL_spec h
          rw [e3] at s
          rw [hk]
          refine ⟨p, ns, rfl, s, List.length_pos_of_mem m1, fun m' h1 h2 => ?_⟩
          have em : m' = m := Int.le_antisymm (m2 _ h1) (h2 _ m1)
          rw [em]
          exact q W H _ (Le.refl _ _) o rfl
      · cases e
    · cases e
  · cases e
theorem cu_all (hc : X.calm = true) (hk : X.K = k.K := by rfl) : CallU X k (.builtin "all") allV := by
  refine ⟨_, ?_, cr_all hc⟩
  intro W H st as xs c Q o r e q
  unfold allV at e
  split at e
  · rename_i a
    obtain ⟨v, rfl, r1⟩ := rep1 r
    split at e
    · rename_i ys hys
      cases h : allOf asBool ys with
      | none =>
        rw [h] at e
        cases e
      | some bs =>
        rw [h] at e
        cases e
        obtain ⟨p, vs, rfl, s, r2⟩ := lstOf_rep o r1 hys
        have e3 := bls_rep r2 (allOf_map asBool_eq h)
        rw [e3] at s
        rw [hk]
        exact ⟨p, bs, rfl, s, q W H _ (Le.refl _ _) o rfl⟩
    · cases e
  · cases e
theorem cu_tuple (hk : X.K = k.K := by rfl) : CallU X k (.type "tuple") tupleV := by
  refine ⟨_, ?_, call_tuple_of⟩
  intro W H st as xs c Q o r e q
  unfold tupleV at e
  split at e
  · rename_i a
    obtain ⟨v, rfl, r1⟩ := rep1 r
    cases h : seqOf st a with
    | none =>
      rw [h] at e
      cases e
    | some ys =>
      rw [h] at e
      cases e
      obtain ⟨p, vs, rfl, s, r2⟩ := seqOf_rep o r1 h
      rw [hk]
      refine ⟨p, vs, rfl, ?_⟩
      rcases s with s | s
      · exact .inl ⟨s, fun l hl => newTup o hl r2 q⟩
      · exact .inr ⟨s, q W H _ (Le.refl _ _) o ⟨p, vs, rfl, s, r2⟩⟩
  · cases e
theorem cu_list (hk : X.K = k.K := by rfl) : CallU X k (.type "list") listV := by
  refine ⟨_, ?_, call_list_of⟩
  intro W H st as xs c Q o r e q
  unfold listV at e
  split at e
  · rename_i a
    obtain ⟨v, rfl, r1⟩ := rep1 r
    cases h : seqOf st a with
    | none =>
      rw [h] at e
      cases e
    | some ys =>
      rw [h] at e
      cases e
      obtain ⟨p, vs, rfl, s, r2⟩ := seqOf_rep o r1 h
      rw [hk]
      exact ⟨p, vs, rfl, s, fun l hl => newLst o hl r2 q⟩
  · cases e
theorem cu_listM (hk : X.K = k.K := by rfl) : CallUS X k (.type "list") listVM := by
  refine ⟨_, ?_, call_list_of⟩
  intro W H st as xs c st' Q o r e q
  unfold listVM at e
  split at e
  · rename_i a
    obtain ⟨v, rfl, r1⟩ := rep1 r
    cases h : seqOf st a with
    | none =>
      rw [h] at e
      cases e
    | some ys =>
      rw [h] at e
      cases e
      obtain ⟨p, vs, rfl, s, r2⟩ := seqOf_rep o r1 h
      rw [hk]
      exact ⟨p, vs, rfl, s, fun l hl => newLstM o hl r2 q⟩
  · cases e
end
end Mi

namespace Mi
open PySem L2

/-! ### statements -/
inductive Out where
  | next | brk | cont | ret (v : Val) | err (x : Exc)
abbrev S := Env → Sto → Option (Out × Env × Sto)
def FinS (k : Kx) (E : WX) (W : Wd) (H : Hp) (D : Ends) : Out × Env × Sto → Prop
  | (.next, env, st) => ∀ W' H' σ, Le W W' H H' → Ok k W' H' st → RepE k W' H' env σ → D.nx σ H'
  | (.brk, env, st) => ∀ W' H' σ, Le W W' H H' → Ok k W' H' st → RepE k W' H' env σ → D.bk σ H'
  | (.cont, env, st) => ∀ W' H' σ, Le W W' H H' → Ok k W' H' st → RepE k W' H' env σ → D.ct σ H'
  | (.ret v, _, st) => ∀ W' H' u, Le W W' H H' → Ok k W' H' st → RepV k W' H' v u → D.rt u H'
  | (.err x, env, st) => ∀ W' H' σ c d, Le W W' H H' → Ok k W' H' st → RepE k W' H' env σ → RepX k W' H' x c d → E c d σ H'
def AtS (k : Kx) (E : WX) (s : S) (W : Wd) (D : Ends) (σ : L2.St) (H : Hp) : Prop := ∃ env st o, Ok k W H st ∧ RepE k W H env σ ∧ s env st = some o ∧ FinS k E W H D o
def tS (k : Kx) (E : WX) (s : S) : TS := fun D σ H => ∃ W, AtS k E s W D σ H
theorem FinS.le {k : Kx} {E : WX} {W W1 : Wd} {H H1 : Hp} {D : Ends} {o : Out × Env × Sto} (l : Le W W1 H H1) (h : FinS k E W H D o) : FinS k E W1 H1 D o := by
  obtain ⟨r, env, st⟩ := o
  cases r with
  | next => exact fun W' H' σ l' => h W' H' σ (l.trans l')
  | brk => exact fun W' H' σ l' => h W' H' σ (l.trans l')
  | cont => exact fun W' H' σ l' => h W' H' σ (l.trans l')
  | ret v => exact fun W' H' u l' => h W' H' u (l.trans l')
  | err x => exact fun W' H' σ c d l' => h W' H' σ c d (l.trans l')
def sNext : S := fun env st => some (.next, env, st)
def sBrk : S := fun env st => some (.brk, env, st)
def sCont : S := fun env st => some (.cont, env, st)
def sStuck : S := fun _ _ => none
def sSeq (a b : S) : S := fun env st => match a env st with
  | some (.next, env1, st1) => b env1 st1
  | o => o
/-- run m, then go on with its value -/
def sBnd {α : Type} (m : M α) (f : α → S) : S := fun env st => match m env st with
  | some (.ok a, st1) => f a env st1
  | some (.error x, st1) => some (.err x, env, st1)
  | none => none
def sExpr (m : M Val) : S := sBnd m fun _ => sNext
def sRet (m : M Val) : S := sBnd m fun v env st => some (.ret v, env, st)
def sIf (c : M Bool) (a b : S) : S := sBnd c fun t => if t then a else b
def sSet (i : Nat) (m : M Val) : S := sBnd m fun v env st => some (.next, env.set i (some v), st)
section
variable {X : Cx} {k : Kx} {E : WX}
theorem AtS.tS {s : S} {W : Wd} {D : Ends} {σ : L2.St} {H : Hp} (h : AtS k E s W D σ H) : tS k E s D σ H := ⟨W, h⟩
theorem tS.bnd {α β : Type} {R : Wd → Hp → α → β → Prop} {m : M α} {f : α → S} {D : Ends} {σ : L2.St} {H : Hp} (h : tS k E (sBnd m f) D σ H) : tG k R E m σ H fun x H1 => ∃ W a, R W H1 a x ∧ AtS k E (f a) W D σ H1 := by
  obtain ⟨W, env, st, o, h1, h2, h3, h4⟩ := h
  unfold sBnd at h3
  cases e : m env st with
  | none =>
    rw [e] at h3
    cases h3
  | some p =>
    rw [e] at h3
    obtain ⟨r, st1⟩ := p
    cases r with
    | ok a => exact ⟨W, env, st, _, h1, h2, e, fun W' H' v l o' r' => ⟨W', a, r', env, st1, o, o', h2.le l, h3, h4.le l⟩⟩
    | error x =>
      cases h3
      exact ⟨W, env, st, _, h1, h2, e, fun W' H' c d l o r => h4 W' H' σ c d l o (h2.le l) r⟩
theorem AtS.next {W : Wd} {D : Ends} {σ : L2.St} {H : Hp} (h : AtS k E sNext W D σ H) : D.nx σ H := by
  obtain ⟨env, st, o, h1, h2, h3, h4⟩ := h
  cases h3
  exact h4 W H σ (Le.refl W H) h1 h2
theorem ms_nil : PSs X [] (tS k E sNext) := impSs pss_nil fun D σ H ⟨W, h⟩ => h.next
theorem seq_read {a b : S} {D : Ends} {σ : L2.St} {H : Hp} (h : tS k E (sSeq a b) D σ H) : tSeq (tS k E a) (tS k E b) D σ H := by
  obtain ⟨W, env, st, o, h1, h2, h3, h4⟩ := h
  unfold sSeq at h3
  cases e : a env st with
  | none =>
    rw [e] at h3
    cases h3
  | some p =>
    obtain ⟨r, env1, st1⟩ := p
    rw [e] at h3
    cases r with
    | next => exact ⟨W, env, st, _, h1, h2, e, fun W' H' σ' l o' r' => ⟨W', env1, st1, o, o', r', h3, h4.le l⟩⟩
    | brk =>
      cases h3
      exact ⟨W, env, st, _, h1, h2, e, h4⟩
    | cont =>
      cases h3
      exact ⟨W, env, st, _, h1, h2, e, h4⟩
    | ret v =>
      cases h3
      exact ⟨W, env, st, _, h1, h2, e, h4⟩
    | err x =>
      cases h3
      exact ⟨W, env, st, _, h1, h2, e, h4⟩
theorem ms_cons {st : Stmt} {rest : List Stmt} {a b : S} (h1 : PS X st (tS k E a)) (h2 : PSs X rest (tS k E b)) : PSs X (st :: rest) (tS k E (sSeq a b)) := impSs (pss_cons h1 h2) fun _ _ _ h => seq_read h
theorem ms_one {st : Stmt} {a : S} (h1 : PS X st (tS k E a)) : PSs X [st] (tS k E a) := pss_one h1
theorem ms_pass {pos : Pos} : PS X (.Pass pos) (tS k E sNext) := impS ps_pass fun D σ H ⟨W, h⟩ => h.next
theorem ms_brk {pos : Pos} : PS X (.Break pos) (tS k E sBrk) := impS ps_break fun D σ H ⟨W, env, st, o, h1, h2, h3, h4⟩ => by
  cases h3
  exact h4 W H σ (Le.refl W H) h1 h2
theorem ms_cont {pos : Pos} : PS X (.Continue pos) (tS k E sCont) := impS ps_continue fun D σ H ⟨W, env, st, o, h1, h2, h3, h4⟩ => by
  cases h3
  exact h4 W H σ (Le.refl W H) h1 h2
theorem ms_never {st : Stmt} : PS X st (tS k E sStuck) := impS ps_never fun D σ H ⟨W, env, st, o, h1, h2, h3, h4⟩ => by cases h3
theorem mss_never {st : List Stmt} : PSs X st (tS k E sStuck) := impSs pss_never fun D σ H ⟨W, env, st, o, h1, h2, h3, h4⟩ => by cases h3
theorem ms_expr {e : Expr} {m : M Val} {pos : Pos} (h : PE X e (tM k E m)) (hs : swapsWith e none pos.line X.env = pure false := by rfl) : PS X (.Expr e pos) (tS k E (sExpr m)) :=
  impS (ps_expr h hs) fun D σ H h => tG.mono (tS.bnd (R := RepV k) h) fun x H1 ⟨W, a, ra, h1⟩ => h1.next
theorem ms_ret {e : Expr} {m : M Val} {pos : Pos} (h : PE X e (tM k E m)) : PS X (.Return (some e) pos) (tS k E (sRet m)) :=
  impS (ps_ret h) fun D σ H h => tG.mono (tS.bnd (R := RepV k) h) fun x H1 ⟨W, a, ra, env, st, o, h1, h2, h3, h4⟩ => by
    cases h3
    exact h4 W H1 x (Le.refl _ _) h1 ra
theorem ms_if {c : Expr} {a b : List Stmt} {m : M Bool} {s t : S} {pos : Pos} (hc : PT X c (tMb k E m)) (ha : PSs X a (tS k E s)) (hb : PSs X b (tS k E t)) : PS X (.If c a b pos) (tS k E (sIf m s t)) :=
  impS (ps_if hc ha hb) fun D σ H h => tG.mono (tS.bnd (R := RB) h) fun x H1 ⟨W, a, ra, h1⟩ => by
    cases ra
    cases x with
    | true => exact h1.tS
    | false => exact h1.tS
theorem set_read {i : Nat} {m : M Val} {D : Ends} {σ : L2.St} {H : Hp} (h : tS k E (sSet i m) D σ H) : tAsg (tM k E m) (gName i) D σ H :=
  tG.mono (tS.bnd (R := RepV k) h) fun x H1 ⟨W, a, ra, env, st, o, h1, h2, h3, h4⟩ => by
    cases h3
    exact h4 W H1 _ (Le.refl _ _) h1 (h2.set ra i)
theorem ms_set {i : Nat} {x : Str} {e : Expr} {m : M Val} {pos pos' : Pos} (hN : X.N.Nodup) (hi : X.N[i]? = some x) (hx : Loc X.env.scope x) (he : PE X e (tM k E m)) (hs : swapsWith e (some (.Name x pos')) pos.line X.env = pure false := by rfl)
    (hf : X.fn x = true ∨ X.env.scope.names.lookup x = some .local := by first | exact .inl rfl | exact .inr rfl | assumption) : PS X (.Assign [.Name x pos'] e pos) (tS k E (sSet i m)) := impS (ps_set hN hi hx he hs hf) fun _ _ _ h => set_read h

/-! ### targets -/
inductive Tg where
  | name (i : Nat) | tup (ts : List Tg)
mutual
def bindT : Tg → Val → Env → Option Env
  | .name i, v, env => some (env.set i (some v))
  | .tup ts, v, env => match v with
    | .tup xs => if xs.length = ts.length then bindTs ts xs env else none
    | _ => none
def bindTs : List Tg → List Val → Env → Option Env
  | [], _, env => some env
  | t :: ts, xs, env => match xs with
    | x :: xs => match bindT t x env with
      | some env1 => bindTs ts xs env1
      | none => none
    | [] => none
end
mutual
def gT (K : PySem.W.Frag) : Tg → TG
  | .name i => gName i
  | .tup ts => gTup K ts.length (gTs K ts)
def gTs (K : PySem.W.Frag) : List Tg → TGs
  | [] => gNil
  | t :: ts => gCons (gT K t) (gTs K ts)
end
mutual
def slots : Tg → List Nat
  | .name i => [i]
  | .tup ts => slotss ts
def slotss : List Tg → List Nat
  | [] => []
  | t :: ts => slots t ++ slotss ts
end
/-- σ and σ' differ at most at the slots vs -/
def OnlyAt (vs : List Nat) (σ σ' : L2.St) : Prop := σ'.length = σ.length ∧ ∀ j, j ∉ vs → σ'[j]? = σ[j]?
theorem OnlyAt.refl {vs : List Nat} {σ : L2.St} : OnlyAt vs σ σ := ⟨rfl, fun _ _ => rfl⟩
theorem OnlyAt.trans {vs us : List Nat} {σ σ1 σ2 : L2.St} (a : OnlyAt vs σ σ1) (b : OnlyAt us σ1 σ2) : OnlyAt (vs ++ us) σ σ2 := ⟨b.1.trans a.1, fun j hj => (b.2 j fun z => hj (List.mem_append_right _ z)).trans (a.2 j fun z => hj (List.mem_append_left _ z))⟩
mutual
theorem gT_of : ∀ {t : Tg} {a : Val} {x : V} {W : Wd} {H : Hp} {env env' : Env} {σ : L2.St} {Q : L2.St → Hp → Prop}, RepV k W H a x → RepE k W H env σ → bindT t a env = some env' → (∀ σ', RepE k W H env' σ' → OnlyAt (slots t) σ σ' → Q σ' H) → gT k.K t x σ H Q
  | .name i, a, x, W, H, env, env', σ, Q, ra, re, e, q => by
    cases e
    exact q _ (re.set ra i) ⟨by simp, fun j hj => List.getElem?_set_ne (fun z => hj (by rw [z]; exact List.mem_singleton.mpr rfl))⟩
  | .tup ts, a, x, W, H, env, env', σ, Q, ra, re, e, q => by
    cases a with
    | tup xs =>
      dsimp only [bindT] at e
      split at e
      · rename_i hl
        obtain ⟨p, vs, e1, s, r⟩ := ra
        exact ⟨p, vs, e1, s, by rw [r.len]; exact hl, gTs_of r hl re e q⟩
      · cases e
    | _ => cases e
theorem gTs_of : ∀ {ts : List Tg} {xs : List Val} {vs : List V} {W : Wd} {H : Hp} {env env' : Env} {σ : L2.St} {Q : L2.St → Hp → Prop}, RepL k W H xs vs → xs.length = ts.length → RepE k W H env σ → bindTs ts xs env = some env' → (∀ σ', RepE k W H env' σ' → OnlyAt (slotss ts) σ σ' → Q σ' H) → gTs k.K ts vs σ H Q
  | [], xs, vs, W, H, env, env', σ, Q, ra, hl, re, e, q => by
    cases e
    have hx : xs = [] := List.length_eq_zero_iff.mp hl
    subst hx
    exact ⟨ra, q σ re OnlyAt.refl⟩
  | t :: ts, xs, vs, W, H, env, env', σ, Q, ra, hl, re, e, q => by
    cases xs with
    | nil => cases hl
    | cons y ys =>
      obtain ⟨v, r, rfl, r1, r2⟩ := ra
      dsimp only [bindTs] at e
      cases h : bindT t y env with
      | none =>
        rw [h] at e
        cases e
      | some env1 =>
        rw [h] at e
        refine ⟨v, r, rfl, gT_of r1 re h fun σ1 re1 o1 => ?_⟩
        exact gTs_of r2 (by simpa using hl) re1 e fun σ2 re2 o2 => q σ2 re2 (o1.trans o2)
end
/-- (a, b) = a tuple -/
def sSetT (t : Tg) (m : M Val) : S := sBnd m fun v env st => match bindT t v env with
  | some env' => some (.next, env', st)
  | none => none
theorem setT_read {t : Tg} {m : M Val} {D : Ends} {σ : L2.St} {H : Hp} (h : tS k E (sSetT t m) D σ H) : tAsg (tM k E m) (gT k.K t) D σ H :=
  tG.mono (tS.bnd (R := RepV k) h) fun x H1 ⟨W, a, ra, env, st, o, h1, h2, h3, h4⟩ => by
    dsimp only at h3
    cases e : bindT t a env with
    | none =>
      rw [e] at h3
      cases h3
    | some env' =>
      rw [e] at h3
      cases h3
      exact gT_of ra h2 e fun σ' r _ => h4 W H1 σ' (Le.refl _ _) h1 r
theorem ms_setT {t : Tg} {tg e : Expr} {m : M Val} {pos : Pos} (he : PE X e (tM k E m)) (hg : PG X tg (gT X.K t)) (h : PS X (.Assign [tg] e pos) (tAsg (tM k E m) (gT X.K t))) (hk : X.K = k.K := by rfl) : PS X (.Assign [tg] e pos) (tS k E (sSetT t m)) :=
  impS h fun D σ H h => by
    rw [hk]
    exact setT_read h
/-- a, b = x, y -/
def sPar (i j : Nat) (ms : M (List Val)) : S := sBnd ms fun xs env st => match xs with
  | [v, w] => some (.next, (env.set i (some v)).set j (some w), st)
  | _ => none
theorem par_read {i j : Nat} {ms : M (List Val)} {D : Ends} {σ : L2.St} {H : Hp} (h : tS k E (sPar i j ms) D σ H) : tPar i j (tMa k E ms) D σ H :=
  tG.mono (tS.bnd (R := RepL k) h) fun xs H1 ⟨W, as, ra, env, st, o, h1, h2, h3, h4⟩ => by
    split at h3
    · rename_i v w
      cases h3
      obtain ⟨x, y, rfl, r1, r2⟩ := rep2 ra
      exact ⟨x, y, rfl, h4 W H1 _ (Le.refl _ _) h1 ((h2.set r1 i).set r2 j)⟩
    · cases h3
/-- a, b, c = x, y, z -/
def sPar3 (i j l : Nat) (ms : M (List Val)) : S := sBnd ms fun xs env st => match xs with
  | [v, w, u] => some (.next, ((env.set i (some v)).set j (some w)).set l (some u), st)
  | _ => none
theorem par3_read {i j l : Nat} {ms : M (List Val)} {D : Ends} {σ : L2.St} {H : Hp} (h : tS k E (sPar3 i j l ms) D σ H) : tPar3 i j l (tMa k E ms) D σ H :=
  tG.mono (tS.bnd (R := RepL k) h) fun xs H1 ⟨W, as, ra, env, st, o, h1, h2, h3, h4⟩ => by
    split at h3
    · rename_i v w u
      cases h3
      obtain ⟨x, t, rfl, r1, r2⟩ := ra
      obtain ⟨y, z, rfl, r3, r4⟩ := rep2 r2
      exact ⟨x, y, z, rfl, h4 W H1 _ (Le.refl _ _) h1 (((h2.set r1 i).set r3 j).set r4 l)⟩
    · cases h3
/-- x += e -/
def sAug (i : Nat) (f : Sto → Val → Val → Option Val) (m : M Val) : S := fun env st => match env[i]? with
  | some (some x) => sBnd m (fun y env st => match f st x y with
    | some z => some (.next, env.set i (some z), st)
    | none => none) env st
  | _ => none
theorem aug_read {i : Nat} {m : M Val} {g : Int → Int → Int} {f : Sto → Val → Val → Option Val} (hf : ∀ st x y z, f st x y = some z → ∃ a b, x = .int a ∧ y = .int b ∧ z = .int (g a b)) {D : Ends} {σ : L2.St} {H : Hp} (h : tS k E (sAug i f m) D σ H) : tAug i (tM k E m) (ipI g) D σ H := by
  obtain ⟨W, env, st, o, h1, h2, h3, h4⟩ := h
  unfold sAug at h3
  split at h3
  · rename_i x e
    obtain ⟨v, ev, rv⟩ := h2.get e
    refine ⟨v, ev, ?_⟩
    unfold sBnd at h3
    cases em : m env st with
    | none =>
      rw [em] at h3
      cases h3
    | some p =>
      obtain ⟨r, st1⟩ := p
      rw [em] at h3
      cases r with
      | error z =>
        cases h3
        exact ⟨W, env, st, _, h1, h2, em, fun W' H' c d l o r => h4 W' H' σ c d l o (h2.le l) r⟩
      | ok y =>
        refine ⟨W, env, st, _, h1, h2, em, fun W' H' u l o' r' => ?_⟩
        dsimp only at h3
        cases ef : f st1 x y with
        | none =>
          rw [ef] at h3
          cases h3
        | some z =>
          rw [ef] at h3
          cases h3
          obtain ⟨a, b, rfl, rfl, rfl⟩ := hf _ _ _ _ ef
          exact ⟨a, b, rv, r', h4 W' H' _ l o' ((h2.le l).set (show RepV k W' H' (.int (g a b)) (.int (g a b)) from rfl) i)⟩
  · cases h3
theorem add_ints : ∀ st x y z, addV st x y = some z → (∃ a b, x = .int a ∧ y = .int b) → ∃ a b, x = .int a ∧ y = .int b ∧ z = .int (a + b) := fun st x y z e ⟨a, b, ea, eb⟩ => by
  subst ea eb
  cases e
  exact ⟨a, b, rfl, rfl, rfl⟩
def addI (_ : Sto) : Val → Val → Option Val
  | .int i, .int j => some (.int (i + j))
  | _, _ => none
theorem addI_ints : ∀ st x y z, addI st x y = some z → ∃ a b, x = .int a ∧ y = .int b ∧ z = .int (a + b) := fun st x y z e => by
  cases x <;> cases y <;> first | (cases e; exact ⟨_, _, rfl, rfl, rfl⟩) | cases e
theorem ms_aug {i : Nat} {x : Str} {e : Expr} {m : M Val} {pos pos' : Pos} (hN : X.N.Nodup) (hi : X.N[i]? = some x) (hx : Loc X.env.scope x) (he : PE X e (tM k E m)) (hf : X.fn x = true ∨ X.env.scope.names.lookup x = some .local := by first | exact .inl rfl | exact .inr rfl | assumption)
    : PS X (.AugAssign (.Name x pos') .Add e pos) (tS k E (sAug i addI m)) := impS (ps_aug hN hi hx he ip_add hf) fun _ _ _ h => aug_read addI_ints h
end
end Mi

namespace Mi
open PySem L2

/-! ### what is walked -/
def Walks (k : Kx) (W : Wd) (H : Hp) (xs : List Val) (J : It) : Prop := ∀ W' H' st, Le W W' H H' → Ok k W' H' st → J.stop xs.length H' ∧
  ∀ i x, xs[i]? = some x → J.go i H' ∧ ∀ v H'', J.yld i H' v H'' → ∃ W'', Le W' W'' H' H'' ∧ Ok k W'' H'' st ∧ RepV k W'' H'' x v
def tMi (k : Kx) (E : WX) (m : M (List Val)) : TI := fun σ H R => tG k (fun W H xs J => Walks k W H xs J) E m σ H R
theorem PI_or {X : Cx} {tg e : Expr} {w w' : TI} (h : PI X tg e w) (h' : PI X tg e w') : PI X tg e (fun σ H R => w σ H R ∨ w' σ H R) :=
  ⟨fun pins s σ H R I q => q.elim (h.run pins s σ H R I) (h'.run pins s σ H R I)⟩
theorem impI {X : Cx} {tg e : Expr} {w w' : TI} (h : PI X tg e w) (i : ∀ σ H R, w' σ H R → w σ H R) : PI X tg e w' := ⟨fun pins s σ H R I q => h.run pins s σ H R I (i σ H R q)⟩
def signs (z : Str) : List Val := z.cps.toList.map fun c => .str ⟨#[c]⟩
/-- a list that nobody changes, a tuple, a text -/
def stillOf : Val → Option (List Val)
  | .lst xs => some xs
  | .rol xs => some xs
  | .tup xs => some xs
  | .str z => some (signs z)
  | _ => none
def itS (m : M Val) : M (List Val) := bnd m fun a => lift fun _ => stillOf a
section
variable {k : Kx} {W : Wd} {H : Hp}
theorem walks_list {p : Addr} {vs : List V} {xs : List Val} (hs : ∀ W' H', Le W W' H H' → SqL k.K H' p vs) (r : RepL k W H xs vs) : Walks k W H xs (Itl k.K p) := fun W' H' st l o =>
  ⟨⟨vs, hs W' H' l, by rw [r.len]; exact Nat.le_refl _⟩, fun i x e => by
    obtain ⟨v, ev, rv⟩ := r.get e
    refine ⟨⟨vs, v, hs W' H' l, ev⟩, fun u H'' y => ?_⟩
    obtain ⟨e1, e2⟩ := y
    subst e1
    have e3 : v = u := Option.some.inj (ev.symm.trans (e2 vs (hs W' H'' l)))
    subst e3
    exact ⟨W', Le.refl _ _, o, rv.le l⟩⟩
theorem walks_tup {p : Addr} {vs : List V} {xs : List Val} (hs : SqT k.K H p vs) (r : RepL k W H xs vs) : Walks k W H xs (Itt k.K p) := fun W' H' st l o =>
  ⟨⟨vs, l.sqT hs, by rw [r.len]; exact Nat.le_refl _⟩, fun i x e => by
    obtain ⟨v, ev, rv⟩ := r.get e
    refine ⟨⟨vs, v, l.sqT hs, ev⟩, fun u H'' y => ?_⟩
    obtain ⟨e1, e2⟩ := y
    subst e1
    have e3 : v = u := Option.some.inj (ev.symm.trans (e2 vs (l.sqT hs)))
    subst e3
    exact ⟨W', Le.refl _ _, o, rv.le l⟩⟩
theorem walks_str {z : Str} : Walks k W H (signs z) (Its z) := fun W' H' st l o =>
  ⟨by
    show z.cps.size ≤ (signs z).length
    unfold signs
    simp, fun i x e => by
    unfold signs at e
    rw [List.getElem?_map] at e
    cases q : z.cps.toList[i]? with
    | none =>
      rw [q] at e
      cases e
    | some c =>
      rw [q] at e
      cases e
      have hc : z.cps[i]? = some c := by simpa using q
      refine ⟨?_, fun u H'' y => ?_⟩
      · show i < z.cps.size
        exact (Array.getElem?_eq_some_iff.mp hc).1
      · obtain ⟨e1, c', e2, e3⟩ := y
        subst e1
        rw [hc] at e2
        cases e2
        exact ⟨W', Le.refl _ _, o, e3⟩⟩
theorem walks_range {lo : Int} {n : Nat} : Walks k W H ((List.range n).map fun (i : Nat) => .int (lo + i)) (Itr lo n) := fun W' H' st l o =>
  ⟨by
    show n ≤ _
    simp, fun i x e => by
    rw [List.getElem?_map] at e
    cases q : (List.range n)[i]? with
    | none =>
      rw [q] at e
      cases e
    | some c =>
      rw [q] at e
      cases e
      obtain ⟨hi, hc⟩ := List.getElem?_eq_some_iff.mp q
      have hc' : i = c := by simpa using hc
      subst hc'
      refine ⟨by show i < n; simpa using hi, fun u H'' y => ?_⟩
      obtain ⟨e1, e2⟩ := y
      subst e1
      exact ⟨W', Le.refl _ _, o, e2⟩⟩
end
def rng1 (ms : M (List Val)) : M (List Val) := bnd ms fun as => lift fun _ => match as with
  | [.int j] => if -(2 ^ 62) ≤ j ∧ j < 2 ^ 62 then some ((List.range j.toNat).map fun (i : Nat) => .int (0 + i)) else none
  | _ => none
def rng2 (ms : M (List Val)) : M (List Val) := bnd ms fun as => lift fun _ => match as with
  | [.int i, .int j] => if -(2 ^ 62) ≤ i ∧ i < 2 ^ 62 ∧ -(2 ^ 62) ≤ j ∧ j < 2 ^ 62 then some ((List.range (j - i).toNat).map fun (l : Nat) => .int (i + l)) else none
  | _ => none
def pairs (xs : List Val) : List Val := xs.zipIdx.map fun p => .tup [.int (p.2 : Nat), p.1]
section
variable {X : Cx} {k : Kx} {E : WX} {tg : Expr}
theorem mi_still {e : Expr} {m : M Val} (h : PE X e (tM k E m)) (hk : X.K = k.K := by rfl) : PI X tg e (tMi k E (itS m)) := by
  refine impI (PI_or (pi_list h) (PI_or (pi_tup h) (pi_str h))) fun σ H R q => ?_
  rw [hk]
  obtain ⟨W, env, st, o, h1, h2, h3, h4⟩ := q
  unfold itS Mi.bnd at h3
  cases em : m env st with
  | none =>
    rw [em] at h3
    cases h3
  | some p =>
    obtain ⟨r, st1⟩ := p
    rw [em] at h3
    cases r with
    | error x =>
      cases h3
      exact .inl ⟨W, env, st, _, h1, h2, em, h4⟩
    | ok a =>
      have h5 : (stillOf a).map (fun c => ((.ok c : Except Exc (List Val)), st1)) = some o := h3
      cases a with
      | lst xs =>
        cases h5
        refine .inl ⟨W, env, st, _, h1, h2, em, fun W' H' v l o' r' => ?_⟩
        obtain ⟨p, vs, e1, f, s, r⟩ := r'
        exact ⟨p, e1, ⟨vs, .inl (.inl s)⟩, h4 W' H' _ l o' (walks_list (fun W2 H2 l2 => .inl (.inl (l2.keep _ _ s f))) r)⟩
      | rol xs =>
        cases h5
        refine .inl ⟨W, env, st, _, h1, h2, em, fun W' H' v l o' r' => ?_⟩
        obtain ⟨p, vs, e1, s, r⟩ := r'
        refine ⟨p, e1, ⟨vs, RoL.sq s⟩, h4 W' H' _ l o' (walks_list (fun W2 H2 l2 => ?_) r)⟩
        rcases s with ⟨u, s⟩ | s
        · exact .inl (.inr ⟨u, l2.imm _ _ s trivial⟩)
        · exact SqL.ro s
      | tup xs =>
        cases h5
        refine .inr (.inl ⟨W, env, st, _, h1, h2, em, fun W' H' v l o' r' => ?_⟩)
        obtain ⟨p, vs, e1, s, r⟩ := r'
        exact ⟨p, e1, ⟨vs, s⟩, h4 W' H' _ l o' (walks_tup s r)⟩
      | str z =>
        cases h5
        exact .inr (.inr ⟨W, env, st, _, h1, h2, em, fun W' H' v l o' r' => ⟨z, r', h4 W' H' _ l o' walks_str⟩⟩)
      | _ => cases h5
theorem mi_range1 {a : Expr} {ms : M (List Val)} {p pos : Pos} (h : PI X tg (.Call (.Name "range" p) [a] [] pos) (iRng1 (tMa k E ms))) : PI X tg (.Call (.Name "range" p) [a] [] pos) (tMi k E (rng1 ms)) :=
  impI h fun σ H R q => tG.mono (tG.bnd (R1 := RepL k) q) fun vs H1 ⟨W, as, ra, h1⟩ => by
    obtain ⟨c, st, e, o, q⟩ := h1.lift
    split at e
    · rename_i j
      split at e
      · rename_i hl
        cases e
        obtain ⟨v, rfl, r1⟩ := rep1 ra
        exact ⟨j, by rw [show v = .int j from r1], hl.1, hl.2, q W H1 _ (Le.refl _ _) o walks_range⟩
      · cases e
    · cases e
theorem mi_range2 {a b : Expr} {ms : M (List Val)} {p pos : Pos} (h : PI X tg (.Call (.Name "range" p) [a, b] [] pos) (iRng2 (tMa k E ms))) : PI X tg (.Call (.Name "range" p) [a, b] [] pos) (tMi k E (rng2 ms)) :=
  impI h fun σ H R q => tG.mono (tG.bnd (R1 := RepL k) q) fun vs H1 ⟨W, as, ra, h1⟩ => by
    obtain ⟨c, st, e, o, q⟩ := h1.lift
    split at e
    · rename_i i j
      split at e
      · rename_i hl
        cases e
        obtain ⟨v, u, rfl, r1, r2⟩ := rep2 ra
        exact ⟨i, j, by rw [show v = .int i from r1, show u = .int j from r2], hl, q W H1 _ (Le.refl _ _) o walks_range⟩
      · cases e
    · cases e

/-! ### for -/
def loop (t : Tg) (body : S) : List Val → S
  | [], env, st => some (.next, env, st)
  | x :: xs, env, st => match bindT t x env with
    | none => none
    | some env1 => match body env1 st with
      | some (.next, e, s) => loop t body xs e s
      | some (.cont, e, s) => loop t body xs e s
      | some (.brk, e, s) => some (.next, e, s)
      | o => o
def sFor (mi : M (List Val)) (t : Tg) (body : S) : S := sBnd mi fun xs => loop t body xs
theorem for_read {mi : M (List Val)} {t : Tg} {body : S} {D : Ends} {σ : L2.St} {H : Hp} (h : tS k E (sFor mi t body) D σ H) : tFor (tMi k E mi) (gT k.K t) (tS k E body) D σ H := by
  refine tG.mono (tS.bnd (R := fun W H xs J => Walks k W H xs J) h) fun J H1 ⟨W, xs, walks, env, st, o, h1, h2, h3, h4⟩ => ?_
  refine ⟨fun i m σ H => i + m = xs.length ∧ ∃ W' env st, Le W W' H1 H ∧ Ok k W' H st ∧ RepE k W' H env σ ∧ loop t body (xs.drop i) env st = some o, ⟨xs.length, by omega, W, env, st, Le.refl _ _, h1, h2, h3⟩, ?_⟩
  rintro i m σ H ⟨hi, W', env, st, l, ok, re, hl⟩
  obtain ⟨stop, go⟩ := walks W' H st l ok
  by_cases hlt : i < xs.length
  · obtain ⟨g, y⟩ := go i xs[i] (List.getElem?_eq_getElem hlt)
    refine .inr ⟨g, fun σ' H' => ∃ W'' env st, Le W W'' H1 H' ∧ Ok k W'' H' st ∧ RepE k W'' H' env σ' ∧ loop t body (xs.drop (i + 1)) env st = some o, fun σ' H' ⟨W2, env2, st2, l2, o2, r2, e2⟩ => ⟨m - 1, by omega, by omega, W2, env2, st2, l2, o2, r2, e2⟩, fun v H' hy => ?_⟩
    obtain ⟨W2, l2, ok2, rv⟩ := y v H' hy
    rw [List.drop_eq_getElem_cons hlt] at hl
    dsimp only [loop] at hl
    cases e : bindT t xs[i] env with
    | none =>
      rw [e] at hl
      cases hl
    | some env1 =>
      rw [e] at hl
      dsimp only at hl
      refine gT_of rv (re.le l2) e fun σ2 re2 _ => ?_
      cases eb : body env1 st with
      | none =>
        rw [eb] at hl
        cases hl
      | some p =>
        obtain ⟨r, e', s'⟩ := p
        rw [eb] at hl
        refine ⟨W2, env1, st, _, ok2, re2, eb, ?_⟩
        cases r with
        | next => exact fun W3 H3 σ3 l3 o3 r3 => ⟨W3, e', s', (l.trans l2).trans l3, o3, r3, hl⟩
        | cont => exact fun W3 H3 σ3 l3 o3 r3 => ⟨W3, e', s', (l.trans l2).trans l3, o3, r3, hl⟩
        | brk =>
          cases hl
          exact fun W3 H3 σ3 l3 o3 r3 => h4 W3 H3 σ3 ((l.trans l2).trans l3) o3 r3
        | ret u =>
          cases hl
          exact fun W3 H3 v l3 o3 r3 => h4 W3 H3 v ((l.trans l2).trans l3) o3 r3
        | err x =>
          cases hl
          exact fun W3 H3 σ3 c d l3 o3 r3 r4 => h4 W3 H3 σ3 c d ((l.trans l2).trans l3) o3 r3 r4
  · have e : i = xs.length := by omega
    subst e
    rw [List.drop_length] at hl
    cases hl
    exact .inl ⟨stop, h4 W' H σ l ok re⟩
theorem ms_for {iter : Expr} {body : List Stmt} {mi : M (List Val)} {t : Tg} {s : S} {pos : Pos} (hp : PassesOwn (model X.prog X.w) X.A X.env X.xe) (hc : X.calm = true) (hi : PI X tg iter (tMi k E mi)) (hg : PG X tg (gT X.K t)) (hb : PSs X body (tS k E s))
    (hs : ∀ x, foldedSetIterable iter X.env x = pure x := by intro _; rfl) (hk : X.K = k.K := by rfl) : PS X (.For tg iter body [] pos) (tS k E (sFor mi t s)) :=
  impS (ps_for hp hc hi hg hb hs) fun D σ H h => by
    rw [hk]
    exact for_read h
/-- over a list of the store, which the turns leave as long as it is -/
def lstAt (st : Sto) (a : Nat) : Option (List Val) := match st[a]? with
  | some (.lst xs) => some xs
  | _ => none
def loopR (t : Tg) (body : S) (a n : Nat) : Nat → S
  | 0, env, st => match lstAt st a with
    | some xs => if xs.length = n then some (.next, env, st) else none
    | none => none
  | r + 1, env, st => match lstAt st a with
    | some xs => if xs.length = n then match xs[n - (r + 1)]? with
      | none => none
      | some x => match bindT t x env with
        | none => none
        | some env1 => match body env1 st with
          | some (.next, e, s) => loopR t body a n r e s
          | some (.cont, e, s) => loopR t body a n r e s
          | some (.brk, e, s) => some (.next, e, s)
          | o => o
      else none
    | none => none
def sForR (m : M Val) (t : Tg) (body : S) : S := sBnd m fun v env st => match v with
  | .ref a => match lstAt st a with
    | some xs => loopR t body a xs.length xs.length env st
    | none => none
  | _ => none
theorem lstAt_rep {W : Wd} {H : Hp} {st : Sto} {a : Nat} {p : Addr} {xs : List Val} (o : Ok k W H st) (e : lstAt st a = some xs) (h : W.rho[a]? = some p) : ∃ vs, H p = some (.lst vs) ∧ RepL k W H xs vs := by
  unfold lstAt at e
  split at e
  · rename_i ys q
    cases e
    exact o.obj a _ p q h
  · cases e
theorem forR_read {m : M Val} {t : Tg} {body : S} {D : Ends} {σ : L2.St} {H : Hp} (h : tS k E (sForR m t body) D σ H) : tFor (iList k.K (tM k E m)) (gT k.K t) (tS k E body) D σ H := by
  refine tG.mono (tS.bnd (R := RepV k) h) fun x H1 ⟨W, a, ra, env, st, o, h1, h2, h3, h4⟩ => ?_
  cases a with
  | ref a =>
    obtain ⟨p, e1, hp⟩ := ra
    dsimp only at h3
    cases hx : lstAt st a with
    | none =>
      rw [hx] at h3
      cases h3
    | some xs =>
      rw [hx] at h3
      dsimp only at h3
      obtain ⟨vs, hv, rv⟩ := lstAt_rep h1 hx hp
      refine ⟨p, e1, ⟨vs, .inl (.inl hv)⟩, fun i m σ H => i + m = xs.length ∧ ∃ W' env st, Le W W' H1 H ∧ Ok k W' H st ∧ RepE k W' H env σ ∧ loopR t body a xs.length m env st = some o, ⟨xs.length, by omega, W, env, st, Le.refl _ _, h1, h2, h3⟩, ?_⟩
      rintro i m σ H ⟨hi, W', env, st, l, ok, re, hl⟩
      cases m with
      | zero =>
        dsimp only [loopR] at hl
        cases hy : lstAt st a with
        | none =>
          rw [hy] at hl
          cases hl
        | some ys =>
          rw [hy] at hl
          dsimp only at hl
          split at hl
          · rename_i hn
            cases hl
            obtain ⟨us, hu, ru⟩ := lstAt_rep ok hy (l.at hp)
            exact .inl ⟨⟨us, .inl (.inl hu), by rw [ru.len, hn]; omega⟩, h4 W' H σ l ok re⟩
          · cases hl
      | succ m =>
        dsimp only [loopR] at hl
        cases hy : lstAt st a with
        | none =>
          rw [hy] at hl
          cases hl
        | some ys =>
          rw [hy] at hl
          dsimp only at hl
          split at hl
          · rename_i hn
            have ei : xs.length - (m + 1) = i := by omega
            rw [ei] at hl
            obtain ⟨us, hu, ru⟩ := lstAt_rep ok hy (l.at hp)
            cases hz : ys[i]? with
            | none =>
              rw [hz] at hl
              cases hl
            | some z =>
              rw [hz] at hl
              dsimp only at hl
              obtain ⟨w, hw, rw'⟩ := ru.get hz
              refine .inr ⟨⟨us, w, .inl (.inl hu), hw⟩, fun σ' H' => ∃ W'' env st, Le W W'' H1 H' ∧ Ok k W'' H' st ∧ RepE k W'' H' env σ' ∧ loopR t body a xs.length m env st = some o, fun σ' H' ⟨W2, env2, st2, l2, o2, r2, e2⟩ => ⟨m, by omega, by omega, W2, env2, st2, l2, o2, r2, e2⟩, fun v H' hy' => ?_⟩
              obtain ⟨eh, ev⟩ := hy'
              subst eh
              have ewv : w = v := Option.some.inj (hw.symm.trans (ev us (.inl (.inl hu))))
              subst ewv
              cases e : bindT t z env with
              | none =>
                rw [e] at hl
                cases hl
              | some env1 =>
                rw [e] at hl
                dsimp only at hl
                refine gT_of rw' re e fun σ2 re2 _ => ?_
                cases eb : body env1 st with
                | none =>
                  rw [eb] at hl
                  cases hl
                | some q =>
                  obtain ⟨r, e', s'⟩ := q
                  rw [eb] at hl
                  refine ⟨W', env1, st, _, ok, re2, eb, ?_⟩
                  cases r with
                  | next => exact fun W3 H3 σ3 l3 o3 r3 => ⟨W3, e', s', l.trans l3, o3, r3, hl⟩
                  | cont => exact fun W3 H3 σ3 l3 o3 r3 => ⟨W3, e', s', l.trans l3, o3, r3, hl⟩
                  | brk =>
                    cases hl
                    exact fun W3 H3 σ3 l3 o3 r3 => h4 W3 H3 σ3 (l.trans l3) o3 r3
                  | ret u =>
                    cases hl
                    exact fun W3 H3 v l3 o3 r3 => h4 W3 H3 v (l.trans l3) o3 r3
                  | err x =>
                    cases hl
                    exact fun W3 H3 σ3 c d l3 o3 r3 r4 => h4 W3 H3 σ3 c d (l.trans l3) o3 r3 r4
          · cases hl
  | _ => cases h3
theorem ms_forR {iter : Expr} {body : List Stmt} {m : M Val} {t : Tg} {s : S} {pos : Pos} (hp : PassesOwn (model X.prog X.w) X.A X.env X.xe) (hc : X.calm = true) (hi : PE X iter (tM k E m)) (hg : PG X tg (gT X.K t)) (hb : PSs X body (tS k E s))
    (hs : ∀ x, foldedSetIterable iter X.env x = pure x := by intro _; rfl) (hk : X.K = k.K := by rfl) : PS X (.For tg iter body [] pos) (tS k E (sForR m t s)) :=
  impS (ps_for hp hc (pi_list hi) hg hb hs) fun D σ H h => by
    rw [hk]
    exact forR_read h

/-! ### while -/
def sWhile (c : M Bool) (body : S) : Nat → S
  | 0, _, _ => none
  | n + 1, env, st => sBnd c (fun t env st => if t then match body env st with
      | some (.next, e, s) => sWhile c body n e s
      | some (.cont, e, s) => sWhile c body n e s
      | some (.brk, e, s) => some (.next, e, s)
      | o => o
    else some (.next, env, st)) env st
theorem while_read {c : M Bool} {body : S} {n : Nat} {D : Ends} {σ : L2.St} {H : Hp} (h : tS k E (sWhile c body n) D σ H) : tWhile (tMb k E c) (tS k E body) D σ H := by
  obtain ⟨W, env, st, o, h1, h2, h3, h4⟩ := h
  refine ⟨fun m σ H1 => ∃ W' env st, Le W W' H H1 ∧ Ok k W' H1 st ∧ RepE k W' H1 env σ ∧ sWhile c body m env st = some o, ⟨n, W, env, st, Le.refl _ _, h1, h2, h3⟩, ?_⟩
  rintro m σ' H1 ⟨W', env, st, l, ok, re, e⟩
  cases m with
  | zero => cases e
  | succ m =>
    dsimp only [sWhile] at e
    have hs : tS k E (sBnd c (fun t env st => if t then match body env st with
      | some (.next, e, s) => sWhile c body m e s
      | some (.cont, e, s) => sWhile c body m e s
      | some (.brk, e, s) => some (.next, e, s)
      | o => o
    else some (.next, env, st))) D σ' H1 := ⟨W', env, st, o, ok, re, e, h4.le l⟩
    -- the test
    unfold sBnd at e
    cases ec : c env st with
    | none =>
      rw [ec] at e
      cases e
    | some p =>
      obtain ⟨r, st1⟩ := p
      rw [ec] at e
      cases r with
      | error x =>
        cases e
        exact ⟨W', env, st, _, ok, re, ec, fun W2 H2 cc d l2 o2 r2 => h4 W2 H2 σ' cc d (l.trans l2) o2 (re.le l2) r2⟩
      | ok t =>
        refine ⟨W', env, st, _, ok, re, ec, fun W2 H2 b l2 o2 r2 => ?_⟩
        cases r2
        cases t with
        | false =>
          have e' : some (Out.next, env, st1) = some o := e
          cases e'
          exact h4 W2 H2 σ' (l.trans l2) o2 (re.le l2)
        | true =>
          refine ⟨fun σ3 H3 => ∃ W3 env st, Le W W3 H H3 ∧ Ok k W3 H3 st ∧ RepE k W3 H3 env σ3 ∧ sWhile c body m env st = some o, fun σ3 H3 q => ⟨m, Nat.lt_succ_self m, q⟩, ?_⟩
          dsimp only at e
          rw [if_pos rfl] at e
          cases eb : body env st1 with
          | none =>
            rw [eb] at e
            cases e
          | some q =>
            obtain ⟨r, e', s'⟩ := q
            rw [eb] at e
            refine ⟨W2, env, st1, _, o2, re.le l2, eb, ?_⟩
            cases r with
            | next => exact fun W3 H3 σ3 l3 o3 r3 => ⟨W3, e', s', (l.trans l2).trans l3, o3, r3, e⟩
            | cont => exact fun W3 H3 σ3 l3 o3 r3 => ⟨W3, e', s', (l.trans l2).trans l3, o3, r3, e⟩
            | brk =>
              cases e
              exact fun W3 H3 σ3 l3 o3 r3 => h4 W3 H3 σ3 ((l.trans l2).trans l3) o3 r3
            | ret u =>
              cases e
              exact fun W3 H3 v l3 o3 r3 => h4 W3 H3 v ((l.trans l2).trans l3) o3 r3
            | err x =>
              cases e
              exact fun W3 H3 σ3 c d l3 o3 r3 r4 => h4 W3 H3 σ3 c d ((l.trans l2).trans l3) o3 r3 r4
theorem ms_while {c : Expr} {body : List Stmt} {m : M Bool} {s : S} {pos : Pos} (n : Nat) (hp : PassesOwn (model X.prog X.w) X.A X.env X.xe) (hc : PT X c (tMb k E m)) (hb : PSs X body (tS k E s)) : PS X (.While c body [] pos) (tS k E (sWhile m s n)) :=
  impS (ps_while hp hc hb) fun D σ H h => while_read h
end
end Mi

namespace Mi
open PySem L2

/-! ### comprehensions -/
def wipeE (env : Env) : List Nat → Env
  | [] => env
  | v :: vs => (wipeE env vs).set v none
theorem RepE.wipe {k : Kx} {W : Wd} {H : Hp} {env : Env} {σ : L2.St} (h : RepE k W H env σ) : ∀ vs : List Nat, RepE k W H (wipeE env vs) (wipe σ vs)
  | [] => h
  | v :: vs => RepE.wipe1 v none (RepE.wipe h vs)
theorem RepE.aside {k : Kx} {W : Wd} {H : Hp} {D : Addr} {acc : List V} {o : HO} (hf : ¬ W.fz D) (hD : H D = some (.lst acc)) : ∀ {env : Env} {σ : L2.St}, RepE k W H env σ → RepE k W (upd H D o) env σ
  | [], _, h => h
  | e :: es, _, h => by
    obtain ⟨u, r, e1, h1, h2⟩ := h
    refine ⟨u, r, e1, fun x hx => ?_, RepE.aside hf hD h2⟩
    obtain ⟨v, e2, h3⟩ := h1 x hx
    exact ⟨v, e2, h3.aside hf hD⟩
theorem Le.aside {W W' : Wd} {H H' : Hp} {D : Addr} {o : HO} (l : Le W W' H H') (h : H D = none) : Le W W' H (upd H' D o) := by
  have ne : ∀ p u, H p = some u → p ≠ D := fun p u e z => by
    rw [z, h] at e
    cases e
  exact ⟨l.rho, l.fz, fun p u e i => by rw [upd_ne (ne p u e)]; exact l.imm p u e i, fun p u e i => by rw [upd_ne (ne p u e)]; exact l.keep p u e i, fun p u e i => by rw [upd_ne (ne p u e)]; exact l.rest p u e i, l.newr, l.newf, fun p e => upd_dom (l.dom p e)⟩
theorem Ok.aside {k : Kx} {W : Wd} {H : Hp} {st : Sto} {D : Addr} {acc : List V} {o : HO} (h : Ok k W H st) (hf : ¬ W.fz D) (hr : D ∉ W.rho) (hD : H D = some (.lst acc)) : Ok k W (upd H D o) st :=
  ⟨h.nd, h.len, fun p f => upd_dom (h.fzs p f), h.apart, fun i u p e1 e2 => by
    have ne : p ≠ D := fun z => hr (z ▸ List.mem_of_getElem? e2)
    have r := h.obj i u p e1 e2
    cases u with
    | lst xs =>
      obtain ⟨vs, z, r⟩ := r
      exact ⟨vs, by rw [upd_ne ne]; exact z, r.aside hf hD⟩
    | ins c ks xs =>
      obtain ⟨dx, vs, z, n, r⟩ := r
      exact ⟨dx, vs, by rw [upd_ne ne]; exact z, n, r.aside hf hD⟩⟩
theorem Le.frD {W W' : Wd} {H H' : Hp} {D : Addr} (l : Le W W' H H') (h : H D = none) : Le W (W'.fr D) H H' :=
  ⟨l.rho, fun p f => .inl (l.fz p f), l.imm, l.keep, l.rest, l.newr, fun p f => by
    rcases f with f | f
    · exact l.newf p f
    · exact .inr (f ▸ h), l.dom⟩
theorem Le.obD {W W' : Wd} {H H' : Hp} {D : Addr} (l : Le W W' H H') (h : H D = none) : Le W (W'.ob D) H H' := by
  obtain ⟨m, e⟩ := l.rho
  exact ⟨⟨m ++ [D], by show W'.rho ++ [D] = _; rw [e, List.append_assoc]⟩, l.fz, l.imm, l.keep, l.rest, fun p f => by
    rcases List.mem_append.mp (show p ∈ W'.rho ++ [D] from f) with f | f
    · exact l.newr p f
    · exact .inr (by rw [List.mem_singleton.mp f]; exact h), l.newf, l.dom⟩
theorem ob_at {W : Wd} {D : Addr} (i : Nat) (p : Addr) (h : W.rho[i]? = some p) : (W.ob D).rho[i]? = some p := by
  show (W.rho ++ [D])[i]? = some p
  rw [List.getElem?_append_left (List.getElem?_eq_some_iff.mp h).1]
  exact h
theorem Ok.obD {k : Kx} {W : Wd} {H : Hp} {st : Sto} {D : Addr} {u : SO} (h : Ok k W H st) (hf : ¬ W.fz D) (hr : D ∉ W.rho) (hu : RepO k (W.ob D) H u D) : Ok k (W.ob D) H (st ++ [u]) := by
  refine ⟨?_, ?_, h.fzs, fun q m f => ?_, fun i v q e1 e2 => ?_⟩
  · show (W.rho ++ [D]).Nodup
    rw [List.nodup_append]
    exact ⟨h.nd, by simp, fun a ha b hb e => hr (by rw [← List.mem_singleton.mp hb, ← e]; exact ha)⟩
  · show (W.rho ++ [D]).length = (st ++ [u]).length
    rw [List.length_append, List.length_append, h.len]
    rfl
  · rcases List.mem_append.mp (show q ∈ W.rho ++ [D] from m) with m | m
    · exact h.apart q m f
    · rw [List.mem_singleton.mp m] at f
      exact hf f
  · have e2' : (W.rho ++ [D])[i]? = some q := e2
    by_cases hi : i < st.length
    · rw [List.getElem?_append_left hi] at e1
      rw [List.getElem?_append_left (by rw [h.len]; exact hi)] at e2'
      have r := h.obj i v q e1 e2'
      cases v with
      | lst xs =>
        obtain ⟨vs, z, r⟩ := r
        exact ⟨vs, z, r.more (W' := W.ob D) ob_at fun _ h => h⟩
      | ins c ks xs =>
        obtain ⟨dx, vs, z, n, r⟩ := r
        exact ⟨dx, vs, z, n, r.more (W' := W.ob D) ob_at fun _ h => h⟩
    · rw [List.getElem?_append_right (by omega)] at e1
      rw [List.getElem?_append_right (by rw [h.len]; omega), h.len] at e2'
      have hz : i - st.length = 0 := by
        by_cases z : i - st.length = 0
        · exact z
        · rw [List.getElem?_eq_none (by simp; omega)] at e1
          cases e1
      rw [hz] at e1 e2'
      cases e1
      cases e2'
      exact hu
theorem wipe_get (σ : L2.St) : ∀ (vs : List Nat) (j : Nat), (wipe σ vs)[j]? = if j ∈ vs then (if j < σ.length then some none else none) else σ[j]?
  | [], j => by simp [wipe]
  | v :: vs, j => by
    show ((wipe σ vs).set v none)[j]? = _
    by_cases e : v = j
    · subst e
      by_cases hl : v < σ.length
      · rw [List.getElem?_set_self (by rw [wipe_length]; exact hl)]
        simp [hl]
      · rw [List.getElem?_eq_none (by rw [List.length_set, wipe_length]; omega)]
        simp [hl]
    · rw [List.getElem?_set_ne e, wipe_get σ vs j]
      by_cases hm : j ∈ vs
      · simp [hm]
      · have : ¬ j = v := fun z => e z.symm
        simp [hm, this]
theorem wipe_only {σ σ2 : L2.St} {us vs : List Nat} (o : OnlyAt us (wipe σ vs) σ2) (hs : ∀ u ∈ us, u ∈ vs) : wipe σ2 vs = wipe σ vs := by
  apply List.ext_getElem?
  intro j
  have hl : σ2.length = σ.length := by
    rw [o.1, wipe_length]
  rw [wipe_get, wipe_get, hl]
  by_cases hm : j ∈ vs
  · rw [if_pos hm, if_pos hm]
  · rw [if_neg hm, if_neg hm, o.2 j fun z => hm (hs j z), wipe_get, if_neg hm]
def E0 : WX := fun _ _ _ _ => False
def compLoop (t : Tg) (own : List Nat) (cond : M Bool) (elt : M Val) : List Val → Env → Sto → Res (List Val)
  | [], _, st => some (.ok [], st)
  | x :: xs, env, st => match bindT t x (wipeE env own) with
    | none => none
    | some env1 => match cond env1 st with
      | some (.ok true, st1) => match elt env1 st1 with
        | some (.ok y, st2) => match compLoop t own cond elt xs env st2 with
          | some (.ok ys, st3) => some (.ok (y :: ys), st3)
          | _ => none
        | _ => none
      | some (.ok false, st1) => compLoop t own cond elt xs env st1
      | _ => none
def compM (mi : M (List Val)) (t : Tg) (own : List Nat) (cond : M Bool) (elt : M Val) : M (List Val) := bnd mi fun xs env st => if xs.length ≤ LIM then compLoop t own cond elt xs env st else none
def yes : M Bool := ret true
def comp (mi : M (List Val)) (t : Tg) (own : List Nat) (cond : M Bool) (elt : M Val) : M Val := bnd (compM mi t own cond elt) fun ys => ret (.lst ys)
/-- a list that will be changed -/
def compS (mi : M (List Val)) (t : Tg) (own : List Nat) (cond : M Bool) (elt : M Val) : M Val := bnd (compM mi t own cond elt) fun ys => liftS fun st => some (.ref st.length, st ++ [.lst ys])
section
variable {X : Cx} {k : Kx} {E : WX}
theorem comp_core {mi : M (List Val)} {t : Tg} {own : List Nat} {cond : M Bool} {elt : M Val} {f : List Val → M Val} {σ : L2.St} {H : Hp} {Q : VK} (hs : ∀ u ∈ slots t, u ∈ own)
    (fin : ∀ (W W' : Wd) (H1 H' : Hp) (st : Sto) (D : Addr) (acc : List V) (ys : List Val), Le W W' H1 H' → H1 D = none → Ok k W' H' st → ¬ W'.fz D → D ∉ W'.rho → H' D = some (.lst acc) → RepL k W' H' ys acc → ∀ env o, f ys env st = some o → Fin k (RepV k) (fun c d H' => E c d σ H') W H1 Q o → Q (.ref D) H')
    (h : tM k E (bnd (compM mi t own cond elt) f) σ H Q) : tLc (tMi k E mi) (gT k.K t) (tMb k E0 cond) (tM k E0 elt) own σ H Q := by
  obtain ⟨W, env, st, o, h1, h2, h3, h4⟩ := h
  unfold Mi.bnd compM at h3
  unfold Mi.bnd at h3
  cases em : mi env st with
  | none =>
    rw [em] at h3
    cases h3
  | some p =>
    obtain ⟨r, st1⟩ := p
    rw [em] at h3
    cases r with
    | error x =>
      cases h3
      exact ⟨W, env, st, _, h1, h2, em, h4⟩
    | ok xs =>
      refine ⟨W, env, st, _, h1, h2, em, fun W1 H1 J l1 o1 walks D hD => ?_⟩
      dsimp only at h3
      by_cases hlim : xs.length ≤ LIM
      · rw [if_pos hlim] at h3
        cases ec : compLoop t own cond elt xs env st1 with
        | none =>
          rw [ec] at h3
          cases h3
        | some p =>
          obtain ⟨r, st2⟩ := p
          rw [ec] at h3
          cases r with
          | error x =>
            -- no turn raises
            exfalso
            clear h3 h4
            have all : ∀ (xs : List Val) st, compLoop t own cond elt xs env st ≠ some (.error x, st2) := by
              intro xs
              induction xs with
              | nil =>
                intro st e
                cases e
              | cons y ys ih =>
                intro st e
                dsimp only [compLoop] at e
                split at e
                · cases e
                · split at e
                  · split at e
                    · split at e
                      · cases e
                      · cases e
                    · cases e
                  · exact ih _ e
                  · cases e
            exact all xs st1 ec
          | ok ys =>
            dsimp only at h3
            refine ⟨fun i m Hc => i + m = xs.length ∧ ∃ W' st acc done rest, Le W1 W' H1 Hc ∧ Ok k W' Hc st ∧ ¬ W'.fz D ∧ D ∉ W'.rho ∧ Hc D = some (.lst acc) ∧ RepL k W' Hc done acc ∧ RepE k W' Hc env σ ∧ done.length ≤ i ∧ compLoop t own cond elt (xs.drop i) env st = some (.ok rest, st2) ∧ ys = done ++ rest,
              ⟨xs.length, by omega, W1, st1, [], [], ys, Le.new hD, o1.new hD, fun z => o1.fzs D z hD, fun z => o1.there z hD, upd_same, rfl, (h2.le l1).le (Le.new hD), Nat.le_refl _, ec, rfl⟩, ?_⟩
            rintro i m Hc ⟨hi, W', st, acc, done, rest, l, ok, nf, nr, hacc, ra, re, hlen, hl, hys⟩
            have l' : Le W1 W' H1 Hc := l
            obtain ⟨stop, go⟩ := walks W' Hc st l' ok
            by_cases hlt : i < xs.length
            · obtain ⟨g, y⟩ := go i xs[i] (List.getElem?_eq_getElem hlt)
              refine .inr ⟨g, fun Hn => ∃ W' st acc done rest, Le W1 W' H1 Hn ∧ Ok k W' Hn st ∧ ¬ W'.fz D ∧ D ∉ W'.rho ∧ Hn D = some (.lst acc) ∧ RepL k W' Hn done acc ∧ RepE k W' Hn env σ ∧ done.length ≤ i + 1 ∧ compLoop t own cond elt (xs.drop (i + 1)) env st = some (.ok rest, st2) ∧ ys = done ++ rest,
                fun Hn q => ⟨m - 1, by omega, by omega, q⟩, fun v H' hy => ?_⟩
              obtain ⟨W2, l2, ok2, rv⟩ := y v H' hy
              -- D stays aside
              have step : ∀ {Wa Wb : Wd} {Ha Hb : Hp}, Le Wa Wb Ha Hb → ¬ Wa.fz D → D ∉ Wa.rho → Ha D = some (.lst acc) → ¬ Wb.fz D ∧ D ∉ Wb.rho ∧ Hb D = some (.lst acc) := fun {Wa Wb Ha Hb} l a b c => by
                refine ⟨fun z => ?_, fun z => ?_, l.rest _ _ c b⟩
                · rcases l.newf D z with z | z
                  · exact a z
                  · rw [c] at z
                    cases z
                · rcases l.newr D z with z | z
                  · exact b z
                  · rw [c] at z
                    cases z
              obtain ⟨nf2, nr2, hacc2⟩ := step l2 nf nr hacc
              rw [List.drop_eq_getElem_cons hlt] at hl
              dsimp only [compLoop] at hl
              cases e : bindT t xs[i] (wipeE env own) with
              | none =>
                rw [e] at hl
                cases hl
              | some env1 =>
                rw [e] at hl
                dsimp only at hl
                refine gT_of rv ((re.le l2).wipe own) e fun σ2 re2 only => ⟨wipe_only only hs, ?_⟩
                cases et : cond env1 st with
                | none =>
                  rw [et] at hl
                  cases hl
                | some p =>
                  obtain ⟨b, st3⟩ := p
                  rw [et] at hl
                  cases b with
                  | error x => cases hl
                  | ok b =>
                    refine ⟨W2, env1, st, _, ok2, re2, et, fun W3 H3 b' l3 o3 r3 => ?_⟩
                    cases r3
                    obtain ⟨nf3, nr3, hacc3⟩ := step l3 nf2 nr2 hacc2
                    cases b with
                    | false =>
                      rw [if_neg Bool.false_ne_true]
                      exact ⟨W3, st3, acc, done, rest, (l'.trans l2).trans l3, o3, nf3, nr3, hacc3, (ra.le l2).le l3, (re.le l2).le l3, by omega, hl, hys⟩
                    | true =>
                      rw [if_pos rfl]
                      dsimp only at hl
                      cases ee : elt env1 st3 with
                      | none =>
                        rw [ee] at hl
                        cases hl
                      | some p =>
                        obtain ⟨r, st4⟩ := p
                        rw [ee] at hl
                        cases r with
                        | error x => cases hl
                        | ok z =>
                          dsimp only at hl
                          cases er : compLoop t own cond elt (xs.drop (i + 1)) env st4 with
                          | none =>
                            rw [er] at hl
                            cases hl
                          | some p =>
                            obtain ⟨r, st5⟩ := p
                            rw [er] at hl
                            cases r with
                            | error x => cases hl
                            | ok rest' =>
                              have hl' : (some ((.ok (z :: rest') : Except Exc (List Val)), st5)) = some (.ok rest, st2) := hl
                              cases hl'
                              refine ⟨W3, env1, st3, _, o3, re2.le l3, ee, fun W4 H4 v4 l4 o4 r4 => ?_⟩
                              obtain ⟨nf4, nr4, hacc4⟩ := step l4 nf3 nr3 hacc3
                              have ra4 := ((ra.le l2).le l3).le l4
                              refine ⟨acc, hacc4, ?_, W4, st4, acc ++ [v4], done ++ [z], rest', Le.aside (((l'.trans l2).trans l3).trans l4) hD, o4.aside nf4 nr4 hacc4, nf4, nr4, upd_same, (ra4.append (RepL.cons r4 (show RepL k W4 H4 [] [] from rfl))).aside nf4 hacc4, (((re.le l2).le l3).le l4).aside nf4 hacc4, ?_, er, ?_⟩
                              · rw [ra4.len]
                                exact lim_lt (Nat.lt_of_lt_of_le (Nat.lt_of_le_of_lt hlen hlt) hlim)
                              · rw [List.length_append]
                                show done.length + 1 ≤ i + 1
                                omega
                              · rw [hys, List.append_assoc]
                                rfl
            · have e : i = xs.length := by omega
              subst e
              rw [List.drop_length] at hl
              have hl' : (some ((.ok [] : Except Exc (List Val)), st)) = some (.ok rest, st2) := hl
              cases hl'
              rw [List.append_nil] at hys
              subst hys
              refine .inl ⟨stop, fin W1 W' H1 Hc _ D acc _ l' hD ok nf nr hacc ra env o h3 (h4.le l1)⟩
      · rw [if_neg hlim] at h3
        cases h3
theorem comp_read {mi : M (List Val)} {t : Tg} {own : List Nat} {cond : M Bool} {elt : M Val} {σ : L2.St} {H : Hp} {Q : VK} (hs : ∀ u ∈ slots t, u ∈ own) (h : tM k E (comp mi t own cond elt) σ H Q) : tLc (tMi k E mi) (gT k.K t) (tMb k E0 cond) (tM k E0 elt) own σ H Q :=
  comp_core hs (fun W W' H1 H' st D acc ys l hD ok nf nr hacc ra env o e fn => by
    cases e
    refine fn (W'.fr D) H' _ (l.frD hD) (ok.fr (by rw [hacc]; exact fun z => nomatch z) nr) ⟨D, acc, rfl, .inr rfl, hacc, ra.more (W := W') (W' := W'.fr D) (fun _ _ h => h) fun _ h => Or.inl h⟩) h
theorem compS_read {mi : M (List Val)} {t : Tg} {own : List Nat} {cond : M Bool} {elt : M Val} {σ : L2.St} {H : Hp} {Q : VK} (hs : ∀ u ∈ slots t, u ∈ own) (h : tM k E (compS mi t own cond elt) σ H Q) : tLc (tMi k E mi) (gT k.K t) (tMb k E0 cond) (tM k E0 elt) own σ H Q :=
  comp_core hs (fun W W' H1 H' st D acc ys l hD ok nf nr hacc ra env o e fn => by
    cases e
    refine fn (W'.ob D) H' _ (l.obD hD) (ok.obD nf nr ⟨acc, hacc, ra.more (W' := W'.ob D) ob_at fun _ h => h⟩) ⟨D, rfl, ?_⟩
    show (W'.rho ++ [D])[st.length]? = some D
    rw [List.getElem?_append_right (by rw [ok.len]; exact Nat.le_refl _), ok.len, Nat.sub_self]
    rfl) h
theorem mts_nil {X : Cx} : PTs X [] (tMb k E yes) := ⟨fun pins s σ H Q I h => pts_nil.run pins s σ H Q I (by
  obtain ⟨W, h⟩ := h
  exact h.ret rfl)⟩
theorem me_comp {elt tg iter : Expr} {ifs : List Expr} {scope : Scope} {own : List (Str × Nat)} {pos : Pos} {mi : M (List Val)} {t : Tg} {cond : M Bool} {m : M Val} (hs : ∀ u ∈ slots t, u ∈ own.map (·.2))
    (h : PE X (.ListComp elt [⟨tg, iter, ifs, 0⟩] scope pos) (tLc (tMi k E mi) (gT X.K t) (tMb k E0 cond) (tM k E0 m) (own.map (·.2)))) (hk : X.K = k.K := by rfl) : PE X (.ListComp elt [⟨tg, iter, ifs, 0⟩] scope pos) (tM k E (comp mi t (own.map (·.2)) cond m)) :=
  imp h fun σ H Q q => by
    rw [hk]
    exact comp_read hs q
theorem me_compS {elt tg iter : Expr} {ifs : List Expr} {scope : Scope} {own : List (Str × Nat)} {pos : Pos} {mi : M (List Val)} {t : Tg} {cond : M Bool} {m : M Val} (hs : ∀ u ∈ slots t, u ∈ own.map (·.2))
    (h : PE X (.ListComp elt [⟨tg, iter, ifs, 0⟩] scope pos) (tLc (tMi k E mi) (gT X.K t) (tMb k E0 cond) (tM k E0 m) (own.map (·.2)))) (hk : X.K = k.K := by rfl) : PE X (.ListComp elt [⟨tg, iter, ifs, 0⟩] scope pos) (tM k E (compS mi t (own.map (·.2)) cond m)) :=
  imp h fun σ H Q q => by
    rw [hk]
    exact compS_read hs q
/-- y = [..] -/
theorem ms_comp {i : Nat} {elt tg iter : Expr} {ifs : List Expr} {scope : Scope} {own : List (Str × Nat)} {st : Stmt} {mi : M (List Val)} {t : Tg} {cond : M Bool} {m : M Val} (hs : ∀ u ∈ slots t, u ∈ own.map (·.2))
    (h : PS X st (tAsg (tLc (tMi k E mi) (gT X.K t) (tMb k E0 cond) (tM k E0 m) (own.map (·.2))) (gName i))) (hk : X.K = k.K := by rfl) : PS X st (tS k E (sSet i (comp mi t (own.map (·.2)) cond m))) :=
  impS h fun D σ H q => by
    rw [hk]
    exact comp_read hs (set_read q)
theorem ms_compS {i : Nat} {elt tg iter : Expr} {ifs : List Expr} {scope : Scope} {own : List (Str × Nat)} {st : Stmt} {mi : M (List Val)} {t : Tg} {cond : M Bool} {m : M Val} (hs : ∀ u ∈ slots t, u ∈ own.map (·.2))
    (h : PS X st (tAsg (tLc (tMi k E mi) (gT X.K t) (tMb k E0 cond) (tM k E0 m) (own.map (·.2))) (gName i))) (hk : X.K = k.K := by rfl) : PS X st (tS k E (sSet i (compS mi t (own.map (·.2)) cond m))) :=
  impS h fun D σ H q => by
    rw [hk]
    exact compS_read hs (set_read q)
end
end Mi

namespace Mi
open PySem PySem.Spec PyProof.Rows L2

/-! ### defs and their calls -/
abbrev CF := List Val → Sto → Res Val
def spM (k : Kx) (n : Nat) (c : CF) : Sp := fun vs H Q E => ∃ W us st o, us.length = n ∧ Ok k W H st ∧ RepL k W H us vs ∧ c us st = some o ∧ Fin k (RepV k) E W H Q o
def env0 (N : Nat) (us : List Val) : Env := us.map some ++ List.replicate (N - us.length) none
def callS (N : Nat) (s : S) : CF := fun us st => match s (env0 N us) st with
  | some (.ret v, _, st') => some (.ok v, st')
  | some (.next, _, st') => some (.ok .non, st')
  | some (.err x, _, st') => some (.error x, st')
  | _ => none
def callM (n : Nat) (c : CF) (ds : List Val) (ms : M (List Val)) : M Val := bnd ms fun us _ st => if (us ++ ds).length = n then c (us ++ ds) st else none
section
variable {k : Kx}
theorem RepE.of_list {W : Wd} {H : Hp} : ∀ {us : List Val} {vs : List V}, RepL k W H us vs → RepE k W H (us.map some) (vs.map some)
  | [], vs, r => by
    have e : vs = [] := r
    rw [e]
    rfl
  | x :: xs, vs, r => by
    obtain ⟨v, u, rfl, r1, r2⟩ := r
    exact ⟨some v, _, rfl, fun y hy => ⟨v, rfl, by cases hy; exact r1⟩, RepE.of_list r2⟩
theorem RepE.nones {W : Wd} {H : Hp} : ∀ n : Nat, RepE k W H (List.replicate n none) (List.replicate n none)
  | 0 => rfl
  | n + 1 => ⟨none, _, rfl, fun y hy => (by cases hy), RepE.nones n⟩
theorem RepE.append {W : Wd} {H : Hp} : ∀ {e1 e2 : Env} {s1 s2 : L2.St}, RepE k W H e1 s1 → RepE k W H e2 s2 → RepE k W H (e1 ++ e2) (s1 ++ s2)
  | [], _, _, _, h, g => by
    have e : _ = _ := h
    rw [e]
    exact g
  | x :: xs, _, _, _, h, g => by
    obtain ⟨o, r, rfl, h1, h2⟩ := h
    exact ⟨o, _, rfl, h1, RepE.append h2 g⟩
theorem RepE.begin {W : Wd} {H : Hp} {us : List Val} {vs : List V} {N : List Str} (r : RepL k W H us vs) : RepE k W H (env0 N.length us) (L2.start N vs) := by
  unfold env0 L2.start
  rw [r.len]
  exact RepE.append (RepE.of_list r) (RepE.nones _)
/-- a def keeps its mirror -/
theorem ok_def {P : Program} {w : World} {mg : Str → Option Value} {base : Heap} {x qual : Str} {st : Stmt} {f : Addr} {fd : FuncData} {N ps : List Str} {j n nN : Nat} {s : S} {c : CF} (F : Fun k.K x qual st f fd) (S : FnScope N ps (defScope st)) (hc : c = callS nN s) (hN : N.length = nN) (hn : ps.length = n)
    (body : ∀ (cdv : Value) (A : Around) (outer : List PySem.Env) (s0 : Shared) (H : Hp) (E : XK), Room j (A.deeper (envOfC qual (defScope st) s0.heap.objs.size f cdv)) →
      PSs (cxOf (L2.CX P w) P w k.K mg base N qual (defScope st) f cdv A outer s0 H E) (defBody st) (tS k (fun c d _ H' => E c d H') s)) :
    FnOk P w k.K mg base (L2.CX P w) (j + 1) f fd ps (spM k n c) := by
  subst hc hN
  refine F.okX S (fun vs H Q E h => ?_) (fun cdv A outer s0 H vs Q E hr h => ⟨_, body cdv A outer s0 H E hr, ?_⟩)
  · obtain ⟨W, us, st, o, h0, h1, h2, h3, h4⟩ := h
    rw [h2.len, h0, hn]
  · obtain ⟨W, us, st, o, h0, h1, h2, h3, h4⟩ := h
    unfold callS at h3
    cases e : s (env0 N.length us) st with
    | none =>
      rw [e] at h3
      cases h3
    | some p =>
      obtain ⟨r, env, st'⟩ := p
      rw [e] at h3
      refine ⟨W, _, st, _, h1, RepE.begin h2, e, ?_⟩
      cases r with
      | next =>
        cases h3
        exact fun W' H' σ l o r => h4 W' H' .non l o rfl
      | brk => cases h3
      | cont => cases h3
      | ret v =>
        cases h3
        exact fun W' H' u l o r => h4 W' H' u l o r
      | err x =>
        cases h3
        exact fun W' H' σ c d l o _ r => h4 W' H' c d l o r
end
section
variable {X : Cx} {k : Kx} {E : WX} {pos p : Pos} {e : Expr} {es : List Expr} {ms : M (List Val)}
theorem call_read {n : Nat} {c : CF} {ds : List Val} {dvs : List V} (hd : ∀ W H, RepL k W H ds dvs) {σ : L2.St} {H : Hp} {Q : VK} (h : tM k E (callM n c ds ms) σ H Q) : tCallSD (spM k n c) dvs (WE E) (tMa k E ms) σ H Q :=
  tG.mono (tG.bnd (R1 := RepL k) h) fun vs H1 ⟨W, us, ru, env, st, o, h1, h2, h3, h4⟩ => by
    dsimp only at h3
    split at h3
    · rename_i hl
      exact ⟨W, us ++ ds, st, o, hl, h1, ru.append (hd W H1), h3, h4⟩
    · cases h3
theorem me_call {x : Str} {j n : Nat} {f : Addr} {fd : FuncData} {ps : List Str} {c : CF} {ds : List Val} {dvs : List V} {dus : List Value} (F : FnOk X.prog X.w X.K X.mg X.base (L2.CX X.prog X.w) j f fd ps (spM k n c)) (hr : Room j X.A) (hg : Gl X x) (hm : X.mg x = some (.ref f)) (hk : PySem.W.keepIn X.K (.ref f) = true)
    (hb : Binds X.K fd ps dus) (hv : Vals dvs dus) (hd : ∀ W H, RepL k W H ds dvs) (tk : Takes X E) (ha : PA X (e :: es) (tMa k E ms)) (hdb : (x == ("__debug__" : Str)) = false := by decide)
    (he : starEach (e :: es) X.env = (false, eval e X.env) :: starEach es X.env := by rfl) (hpl : (backTo pos (starEach es X.env)).any (·.1) = false := by rfl) : PE X (.Call (.Name x p) (e :: es) [] pos) (tM k E (callM n c ds ms)) :=
  imp (pe_callSD F hr hg hm hk hb hv (fun σ => passAt tk σ) ha hdb he hpl) fun σ H Q h => call_read hd h

/-! ### isinstance -/
def tyName (st : Sto) : Val → Option String
  | .non => some "NoneType"
  | .bl _ => some "bool"
  | .int _ => some "int"
  | .str _ => some "str"
  | .tup _ => some "tuple"
  | .lst _ => some "list"
  | .rol _ => some "list"
  | .ref i => match st[i]? with
    | some (.lst _) => some "list"
    | _ => none
  | .ins _ _ _ => none
/-- tb: the answer for a built-in type, own: for an instance of an own class -/
def isiV (tb : String → Option Bool) (own : Str → Option Bool) (st : Sto) (a : Val) : Option Val := match a with
  | .ins c _ _ => (own c).map .bl
  | .ref i => match st[i]? with
    | some (.ins c _ _) => (own c).map .bl
    | some (.lst _) => (tb "list").map .bl
    | none => none
  | a => match tyName st a with
    | some n => (tb n).map .bl
    | none => none
/-- what isinstance asks of an own class -/
structure ClsT (K : PySem.W.Frag) (C : Addr) : Prop where
  cl : Cls K C
  ha : PySem.W.findIn K (.ref C) "__class__" = some (some (.builtin "object.__class__"))
  hn : PySem.W.specialIn K (.builtin "object.__class__") "__get__" = some (some (.builtin "getset_descriptor.__get__"))
  htk : PySem.W.takesIn K (.builtin "object.__class__") = some true
  hm : PySem.W.mroIn K C (.type "object") = some true
theorem SqT.ty {K : PySem.W.Frag} {H : Hp} {p : Addr} {vs : List V} (h : SqT K H p vs) : TyX K H (.ref p) (.type "tuple") := by
  rcases h with (h | ⟨o, h⟩) | h
  · exact .base (.tup h)
  · exact .fTuple h
  · obtain ⟨o, its, n, e, c, _⟩ := h
    exact .kTuple e c
theorem RoL.ty {H : Hp} {p : Addr} {vs : List V} (h : RoL k H p vs) : TyX k.K H (.ref p) (.type "list") := by
  rcases h with ⟨o, h⟩ | (h | ⟨o, h⟩) | h
  · exact .base (.frz h)
  · cases h
  · cases h
  · obtain ⟨o, its, n, e, c, _⟩ := h
    exact .kList e c
theorem isi_rep {tb : String → Option Bool} {own : Str → Option Bool} {u : Value → Option Bool} (h1 : ∀ n b, tb n = some b → u (.type n) = some b) (h2 : ∀ c b, own c = some b → ClsT k.K (k.cl c) ∧ u (.ref (k.cl c)) = some b)
    {W : Wd} {H : Hp} {st : Sto} {a c : Val} {x : V} (o : Ok k W H st) (r : RepV k W H a x) (e : isiV tb own st a = some c) : ∃ t b, TyX k.K H x t ∧ u t = some b ∧ c = .bl b := by
  have ty : ∀ n (t : TyX k.K H x (.type n)), (tb n).map Val.bl = some c → ∃ t b, TyX k.K H x t ∧ u t = some b ∧ c = .bl b := fun n t e => by
    cases q : tb n with
    | none =>
      rw [q] at e
      cases e
    | some b =>
      rw [q] at e
      cases e
      exact ⟨_, b, t, h1 _ _ q, rfl⟩
  have ow : ∀ n p dx fs, x = .ref p → H p = some (.ins (k.cl n) dx fs) → (own n).map Val.bl = some c → ∃ t b, TyX k.K H x t ∧ u t = some b ∧ c = .bl b := fun n p dx fs ex hp e => by
    cases q : own n with
    | none =>
      rw [q] at e
      cases e
    | some b =>
      rw [q] at e
      cases e
      obtain ⟨T, hu⟩ := h2 _ _ q
      subst ex
      exact ⟨_, b, .base (.ins hp T.cl T.ha T.hn T.htk T.hm), hu, rfl⟩
  cases a with
  | non =>
    have r' : x = .non := r
    subst r'
    exact ty _ (.base .non) e
  | bl b =>
    have r' : x = .bl b := r
    subst r'
    exact ty _ (.base (.bl b)) e
  | int b =>
    have r' : x = .int b := r
    subst r'
    exact ty _ (.base (.int b)) e
  | str b =>
    have r' : x = .str b := r
    subst r'
    exact ty _ (.base (.str b)) e
  | tup xs =>
    obtain ⟨p, vs, rfl, s, _⟩ := r
    exact ty _ (SqT.ty s) e
  | lst xs =>
    obtain ⟨p, vs, rfl, f, s, _⟩ := r
    exact ty _ (.base (.lst s)) e
  | rol xs =>
    obtain ⟨p, vs, rfl, s, _⟩ := r
    exact ty _ (RoL.ty s) e
  | ins n ks xs =>
    obtain ⟨p, dx, vs, ex, f, s, _⟩ := r
    exact ow n p dx _ ex s e
  | ref i =>
    obtain ⟨p, ex, s⟩ := r
    dsimp only [isiV] at e
    cases q : st[i]? with
    | none =>
      rw [q] at e
      cases e
    | some ob =>
      rw [q] at e
      have rr := o.obj i ob p q s
      cases ob with
      | lst xs =>
        obtain ⟨vs, z, _⟩ := rr
        subst ex
        exact ty _ (.base (.lst z)) e
      | ins n ks xs =>
        obtain ⟨dx, vs, z, _⟩ := rr
        exact ow n p dx _ ex z e
theorem me_isi {a c : Expr} {m : M Val} {cv : V} {u : Value} {tb : String → Option Bool} {own : Str → Option Bool} (hc : ClsV cv u) (h1 : ∀ n b, tb n = some b → PySem.W.kitOne k.K (.type n) u = some b) (h2 : ∀ c b, own c = some b → ClsT k.K (k.cl c) ∧ PySem.W.kitOne k.K (.ref (k.cl c)) u = some b)
    (hg : Gl X "isinstance") (hm : X.mg "isinstance" = none) (ha : PE X a (tM k E m)) (hcl : PE X c (tC cv)) (hs1 : starEach [a, c] X.env = (false, eval a X.env) :: starEach [c] X.env := by rfl) (hs2 : starEach [c] X.env = (false, eval c X.env) :: starEach [] X.env := by rfl) (hk : X.K = k.K := by rfl)
    (hpl : (backTo pos (starEach [c] X.env)).any (·.1) = false := by rfl) : PE X (.Call (.Name "isinstance" p) [a, c] [] pos) (tM k E (un (isiV tb own) m)) := by
  refine imp (pe_callB call_isi hg hm boot_isinstance (pa_cons ha (pa_cons hcl pa_nil hs2) hs1) (by decide) (by decide) hs1 hpl) fun σ H Q h => ?_
  rw [hk]
  refine tG.mono (tG.bnd (R1 := RepV k) h) fun x H1 ⟨W, b, rb, h3⟩ => ?_
  obtain ⟨c, st, e, o, q⟩ := h3.lift
  obtain ⟨t, b, ty, hu, hc'⟩ := isi_rep (u := fun t => PySem.W.kitOne k.K t u) h1 h2 o rb e
  subst hc'
  exact ⟨x, cv, t, u, b, rfl, hc, ty, hu, q W H1 _ (Le.refl _ _) o rfl⟩
/-- isinstance(x, (c1, c2)) -/
theorem me_isi2 {a c1 c2 : Expr} {m : M Val} {cv1 cv2 : V} {u1 u2 : Value} {x1 : Nat} {tp : Pos} {tb : String → Option Bool} {own : Str → Option Bool} (hc1 : ClsV cv1 u1) (hc2 : ClsV cv2 u2) (h1 : ∀ n b, tb n = some b → PySem.W.kitAny k.K (.type n) [u1, u2] = some b) (h2 : ∀ c b, own c = some b → ClsT k.K (k.cl c) ∧ PySem.W.kitAny k.K (.ref (k.cl c)) [u1, u2] = some b)
    (hg : Gl X "isinstance") (hm : X.mg "isinstance" = none) (ha : PE X a (tM k E m)) (hcl1 : PE X c1 (tC cv1)) (hcl2 : PE X c2 (tC cv2)) (hs1 : starEach [a, .Tuple [c1, c2] x1 tp] X.env = (false, eval a X.env) :: starEach [.Tuple [c1, c2] x1 tp] X.env := by rfl) (hs2 : starEach [.Tuple [c1, c2] x1 tp] X.env = (false, eval (.Tuple [c1, c2] x1 tp) X.env) :: starEach [] X.env := by rfl)
    (hs3 : starEach [c1, c2] X.env = (false, eval c1 X.env) :: starEach [c2] X.env := by rfl) (hs4 : starEach [c2] X.env = (false, eval c2 X.env) :: starEach [] X.env := by rfl) (hk : X.K = k.K := by rfl)
    (hpl : (backTo pos (starEach [.Tuple [c1, c2] x1 tp] X.env)).any (·.1) = false := by rfl) : PE X (.Call (.Name "isinstance" p) [a, .Tuple [c1, c2] x1 tp] [] pos) (tM k E (un (isiV tb own) m)) := by
  refine imp (pe_callB call_isiT hg hm boot_isinstance (pa_cons ha (pa_cons (pe_tup (pa_cons hcl1 (pa_cons hcl2 pa_nil hs4) hs3)) pa_nil hs2) hs1) (by decide) (by decide) hs1 hpl) fun σ H Q h => ?_
  rw [hk]
  refine tG.mono (tG.bnd (R1 := RepV k) h) fun x H1 ⟨W, b, rb, h3⟩ => ?_
  obtain ⟨c, st, e, o, q⟩ := h3.lift
  refine ⟨by show 2 ≤ sizeLine; decide, fun tp htp => ?_⟩
  have l : Le W W H1 (upd H1 tp (.tup [cv1, cv2])) := Le.new htp
  have o' := o.new (o := .tup [cv1, cv2]) htp
  obtain ⟨t, b, ty, hu, hc'⟩ := isi_rep (u := fun t => PySem.W.kitAny k.K t [u1, u2]) h1 h2 o' (rb.le l) e
  subst hc'
  exact ⟨x, tp, [cv1, cv2], t, [u1, u2], b, rfl, upd_same, .cons hc1 (.cons hc2 .nil), ty, hu, q W _ _ l o' rfl⟩

/-! ### methods of texts -/
def m1 (f : Sto → Val → Val → Option Val) (mo ma : M Val) : M Val := bnd mo fun a => bnd (lift fun _ => strOf a) fun _ => bnd ma fun b => lift fun st => f st a b
theorem m1_read {f : Sto → Val → Val → Option Val} {r : V → List V → Hp → VK → Prop} (hf : ∀ W H st a b x y c Q, Ok k W H st → RepV k W H a x → RepV k W H b y → f st a b = some c → (∀ W' H' v, Le W W' H H' → Ok k W' H' st → RepV k W' H' c v → Q v H') → r x [y] H Q)
    {mo ma : M Val} {σ : L2.St} {H : Hp} {Q : VK} (h : tM k E (m1 f mo ma) σ H Q) : tM1 r (tM k E mo) (tM k E ma) σ H Q :=
  tG.mono (tG.bnd (R1 := RepV k) h) fun x H1 ⟨W, a, ra, env, st, o, h1, h2, h3, h4⟩ => by
    cases a with
    | str z =>
      refine ⟨⟨z, ra⟩, ?_⟩
      have h5 : At k (RepV k) E (bnd ma fun b => lift fun st => f st (.str z) b) W σ H1 Q := ⟨env, st, o, h1, h2, h3, h4⟩
      refine tG.mono (At.bnd (R1 := RepV k) (fun W H => RepV k W H (.str z) x) (fun l r => r.le l) ra h5) fun y H2 ⟨W2, b, ra2, rb, h6⟩ => ?_
      obtain ⟨c, st, e, o, q⟩ := h6.lift
      exact hf W2 H2 st _ b x y c Q o ra2 rb e q
    | _ => cases h3
def splitV (_ : Sto) : Val → Val → Option Val
  | .str a, .str b => if b.length ≠ 0 ∧ a.length + 2 ≤ LIM then some (.lst ((Txt.split a b).map .str)) else none
  | _, _ => none
def joinV (st : Sto) : Val → Val → Option Val
  | .str a, b => match seqOf st b with
    | some xs => match allOf strOf xs with
      | some ys => if (ys.map (·.length)).sum + ys.length * a.length ≤ LIM then some (.str (Txt.join a ys)) else none
      | none => none
    | none => none
  | _, _ => none
theorem me_split {o : Expr} {mo ma : M Val} {apos : Pos} (ho : PE X o (tM k E mo)) (he : PE X e (tM k E ma)) (hs : starEach [e] X.env = [(false, eval e X.env)] := by rfl) (hbase : attributeBase o "split" X.env (eval o X.env) = eval o X.env := by rfl) (hline : (apos.endLine == pos.line) = true := by rfl) :
    PE X (.Call (.Attribute o "split" apos) [e] [] pos) (tM k E (m1 splitV mo ma)) := by
  refine imp (pe_split ho he hs hbase hline) fun σ H Q h => m1_read (fun W H st a b x y c Q o ra rb e q => ?_) h
  cases a <;> cases b <;> first | cases e | skip
  rename_i a b
  dsimp only [splitV] at e
  split at e
  · rename_i hl
    cases e
    refine ⟨a, b, ra, by rw [show y = .str b from rb], ?_, lim_le hl.2, fun p hp => newLst o hp (RepL.map (f := Val.str) (g := V.str) (fun _ => rfl) _) q⟩
    have := hl.1
    simpa using this
  · cases e
theorem me_join {o : Expr} {mo ma : M Val} {apos : Pos} (ho : PE X o (tM k E mo)) (he : PE X e (tM k E ma)) (hs : starEach [e] X.env = [(false, eval e X.env)] := by rfl) (hbase : attributeBase o "join" X.env (eval o X.env) = eval o X.env := by rfl) (hline : (apos.endLine == pos.line) = true := by rfl) (hk : X.K = k.K := by rfl) :
    PE X (.Call (.Attribute o "join" apos) [e] [] pos) (tM k E (m1 joinV mo ma)) := by
  refine imp (pe_join ho he hs hbase hline) fun σ H Q h => ?_
  rw [hk]
  refine m1_read (fun W H st a b x y c Q o ra rb e q => ?_) h
  cases a with
  | str a =>
    dsimp only [joinV] at e
    split at e
    · rename_i xs hxs
      split at e
      · rename_i ys hys
        split at e
        · rename_i hl
          cases e
          obtain ⟨p, vs, e1, s, r⟩ := seqOf_rep o rb hxs
          have e2 := strs_rep r (allOf_map strOf_eq hys)
          rw [e2] at s
          exact ⟨a, p, ys, ra, by rw [e1], s, Nat.le_trans hl (by decide), q W H _ (Le.refl _ _) o rfl⟩
        · cases e
      · cases e
    · cases e
  | _ => cases e

/-! ### methods of lists of the store -/
def isLst (st : Sto) (a : Val) : Option Unit := match lstOf st a with
  | some _ => some ()
  | none => none
def lm (f : Sto → Val → List Val → Option (Val × Sto)) (mo : M Val) (ms : M (List Val)) : M Val := bnd mo fun a => bnd (lift fun st => isLst st a) fun _ => bnd ms fun as => liftS fun st => f st a as
theorem lm_read {f : Sto → Val → List Val → Option (Val × Sto)} {r : V → List V → Hp → VK → Prop} (hf : ∀ W H st a as x xs c st' Q, Ok k W H st → RepV k W H a x → RepL k W H as xs → f st a as = some (c, st') → (∀ W' H' v, Le W W' H H' → Ok k W' H' st' → RepV k W' H' c v → Q v H') → r x xs H Q)
    {mo : M Val} {ms : M (List Val)} {σ : L2.St} {H : Hp} {Q : VK} (h : tM k E (lm f mo ms) σ H Q) : tM k E mo σ H fun x H1 => tyV k.K "list" x H1 ∧ tMa k E ms σ H1 fun xs H2 => r x xs H2 Q :=
  tG.mono (tG.bnd (R1 := RepV k) h) fun x H1 ⟨W, a, ra, env, st, o, h1, h2, h3, h4⟩ => by
    unfold bnd lift at h3
    dsimp only at h3
    cases hx : isLst st a with
    | none =>
      rw [hx] at h3
      cases h3
    | some z =>
      rw [hx] at h3
      unfold isLst at hx
      cases hy : lstOf st a with
      | none =>
        rw [hy] at hx
        cases hx
      | some ys =>
        obtain ⟨p, vs, e1, s, r1⟩ := lstOf_rep h1 ra hy
        refine ⟨by rw [e1]; exact .inl ⟨rfl, vs, s⟩, ?_⟩
        have h5 : At k (RepV k) E (bnd ms fun as => liftS fun st => f st a as) W σ H1 Q := ⟨env, st, o, h1, h2, h3, h4⟩
        refine tG.mono (At.bnd (R1 := RepL k) (fun W H => RepV k W H a x) (fun l r => r.le l) ra h5) fun xs H2 ⟨W2, as, ra2, rs, h6⟩ => ?_
        obtain ⟨c, st, st', e, o, q⟩ := h6.liftS
        exact hf W2 H2 st a as x xs c st' Q o ra2 rs e q
def appendV (st : Sto) : Val → List Val → Option (Val × Sto)
  | .ref i, [a] => match st[i]? with
    | some (.lst xs) => if xs.length < LIM then some (.non, st.set i (.lst (xs ++ [a]))) else none
    | _ => none
  | _, _ => none
def popV (st : Sto) : Val → List Val → Option (Val × Sto)
  | .ref i, [] => match st[i]? with
    | some (.lst xs) => match xs[xs.length - 1]? with
      | some y => some (y, st.set i (.lst xs.dropLast))
      | none => none
    | _ => none
  | _, _ => none
def popAtV (st : Sto) : Val → List Val → Option (Val × Sto)
  | .ref i, [.int j] => match st[i]? with
    | some (.lst xs) => if 0 ≤ j ∧ j < xs.length ∧ j < 1000000 then match xs[j.toNat]? with
      | some y => some (y, st.set i (.lst (xs.eraseIdx j.toNat)))
      | none => none
      else none
    | _ => none
  | _, _ => none
theorem Ok.putLe {W : Wd} {H : Hp} {st : Sto} {i : Nat} {p : Addr} {o o' : HO} (h : Ok k W H st) (hi : W.rho[i]? = some p) (ho : H p = some o) (hm : ¬ Imm o) : Le W W H (upd H p o') := by
  have hp : p ∈ W.rho := List.mem_of_getElem? hi
  exact ⟨⟨[], by simp⟩, fun _ h => h, fun q v e m => by
    have ne : q ≠ p := fun z => by
      rw [z, ho] at e
      cases e
      exact hm m
    rw [upd_ne ne]
    exact e, fun q v e f => by
    have ne : q ≠ p := fun z => h.apart p hp (z ▸ f)
    rw [upd_ne ne]
    exact e, fun q v e f => by
    have ne : q ≠ p := fun z => f (z ▸ hp)
    rw [upd_ne ne]
    exact e, fun _ h => .inl h, fun _ h => .inl h, fun _ h => upd_dom h⟩
theorem Ok.putL {W : Wd} {H : Hp} {st : Sto} {i : Nat} {p : Addr} {xs ys : List Val} {vs us : List V} (h : Ok k W H st) (hi : W.rho[i]? = some p) (ho : H p = some (.lst vs)) (r : RepL k W H ys us) : Le W W H (upd H p (.lst us)) ∧ Ok k W (upd H p (.lst us)) (st.set i (.lst ys)) := by
  have l : Le W W H (upd H p (.lst us)) := h.putLe hi ho (fun z => z)
  exact h.put hi ho (fun z => z) ⟨us, upd_same, r.le l⟩
theorem append_hf : ∀ W H st a as x xs c st' (Q : VK), Ok k W H st → RepV k W H a x → RepL k W H as xs → appendV st a as = some (c, st') → (∀ W' H' v, Le W W' H H' → Ok k W' H' st' → RepV k W' H' c v → Q v H') → rAppend x xs H Q := by
  intro W H st a as x xs c st' Q o ra rs e q
  unfold appendV at e
  split at e
  · rename_i i b
    split at e
    · rename_i ys hys
      split at e
      · rename_i hl
        cases e
        obtain ⟨p, e1, hp⟩ := ra
        obtain ⟨vs, hv, rv⟩ := o.obj i _ p hys hp
        obtain ⟨v, rfl, rb⟩ := rep1 rs
        obtain ⟨l, o'⟩ := o.putL (xs := ys) hp hv (rv.append (RepL.cons rb (show RepL k W H [] [] from rfl)))
        exact ⟨p, vs, v, e1, rfl, hv, by rw [rv.len]; exact lim_lt hl, q W _ _ l o' rfl⟩
      · cases e
    · cases e
  · cases e
theorem RepL.dropLast {W : Wd} {H : Hp} {xs : List Val} {vs : List V} (r : RepL k W H xs vs) : RepL k W H xs.dropLast vs.dropLast := by
  rw [List.dropLast_eq_take, List.dropLast_eq_take, r.len]
  exact r.take _
theorem pop_hf : ∀ W H st a as x xs c st' (Q : VK), Ok k W H st → RepV k W H a x → RepL k W H as xs → popV st a as = some (c, st') → (∀ W' H' v, Le W W' H H' → Ok k W' H' st' → RepV k W' H' c v → Q v H') → rPop x xs H Q := by
  intro W H st a as x xs c st' Q o ra rs e q
  unfold popV at e
  split at e
  · rename_i i
    split at e
    · rename_i ys hys
      split at e
      · rename_i y hy
        cases e
        obtain ⟨p, e1, hp⟩ := ra
        obtain ⟨vs, hv, rv⟩ := o.obj i _ p hys hp
        have exs : xs = [] := rs
        subst exs
        obtain ⟨v, hv2, ry⟩ := rv.get hy
        obtain ⟨l, o'⟩ := o.putL (xs := ys) hp hv rv.dropLast
        exact ⟨p, vs, v, e1, rfl, hv, by rw [rv.len]; exact hv2, q W _ _ l o' (ry.le l)⟩
      · cases e
    · cases e
  · cases e
theorem popAt_hf : ∀ W H st a as x xs c st' (Q : VK), Ok k W H st → RepV k W H a x → RepL k W H as xs → popAtV st a as = some (c, st') → (∀ W' H' v, Le W W' H H' → Ok k W' H' st' → RepV k W' H' c v → Q v H') → rPopAt x xs H Q := by
  intro W H st a as x xs c st' Q o ra rs e q
  unfold popAtV at e
  split at e
  · rename_i i j
    split at e
    · rename_i ys hys
      split at e
      · rename_i hl
        split at e
        · rename_i y hy
          cases e
          obtain ⟨p, e1, hp⟩ := ra
          obtain ⟨vs, hv, rv⟩ := o.obj i _ p hys hp
          obtain ⟨w, rfl, rb⟩ := rep1 rs
          obtain ⟨v, hv2, ry⟩ := rv.get hy
          obtain ⟨l, o'⟩ := o.putL (xs := ys) hp hv (rv.eraseIdx j.toNat)
          refine ⟨p, vs, j, j.toNat, v, e1, by rw [show w = .int j from rb], hv, by omega, by omega, ?_, hv2, q W _ _ l o' (ry.le l)⟩
          rw [rv.len]
          exact (ixN_seq (show ixN ys.length j = some j.toNat from by unfold ixN; rw [if_pos hl.1, if_pos hl.2.1])).1
        · cases e
      · cases e
    · cases e
  · cases e
theorem me_append {o : Expr} {mo ma : M Val} {apos : Pos} (ho : PE X o (tM k E mo)) (ha : PA X [e] (tMa k E ms)) (h : PE X (.Call (.Attribute o "append" apos) [e] [] pos) (tBM X.K "list" rAppend (tM k E mo) (tMa k E ms))) (hk : X.K = k.K := by rfl) :
    PE X (.Call (.Attribute o "append" apos) [e] [] pos) (tM k E (lm appendV mo ms)) := imp h fun σ H Q q => by
  rw [hk]
  exact lm_read append_hf q
theorem me_popAt {o : Expr} {mo ma : M Val} {apos : Pos} (ho : PE X o (tM k E mo)) (ha : PA X [e] (tMa k E ms)) (h : PE X (.Call (.Attribute o "pop" apos) [e] [] pos) (tBM X.K "list" rPopAt (tM k E mo) (tMa k E ms))) (hk : X.K = k.K := by rfl) :
    PE X (.Call (.Attribute o "pop" apos) [e] [] pos) (tM k E (lm popAtV mo ms)) := imp h fun σ H Q q => by
  rw [hk]
  exact lm_read popAt_hf q
theorem me_pop {o : Expr} {mo : M Val} {apos : Pos} (h : PE X (.Call (.Attribute o "pop" apos) [] [] pos) (tBM0 X.K "list" rPop (tM k E mo))) (hk : X.K = k.K := by rfl) :
    PE X (.Call (.Attribute o "pop" apos) [] [] pos) (tM k E (lm popV mo nilM)) := imp h fun σ H Q q => by
  rw [hk]
  refine tG.mono (lm_read pop_hf q) fun x H1 ⟨ty, h1⟩ => ⟨ty, ?_⟩
  obtain ⟨W, h1⟩ := h1
  exact h1.ret (show RepL k W H1 [] [] from rfl)

/-! ### xs[i] = e -/
def sSub (me mo mi : M Val) : S := sBnd me fun v => sBnd mo fun a => sBnd mi fun j env st => match a, j with
  | .ref i, .int n => match st[i]? with
    | some (.lst xs) => match ixN xs.length n with
      | some l => some (.next, env, st.set i (.lst (xs.set l v)))
      | none => none
    | _ => none
  | _, _ => none
theorem AtS.bnd {α β : Type} {R : Wd → Hp → α → β → Prop} {m : M α} {f : α → S} {D : Ends} {σ : L2.St} {H : Hp} {W : Wd} (P : Wd → Hp → Prop) (mono : ∀ {W W' : Wd} {H H' : Hp}, Le W W' H H' → P W H → P W' H') (hp : P W H)
    (h : AtS k E (sBnd m f) W D σ H) : tG k R E m σ H fun x H1 => ∃ W1 a, P W1 H1 ∧ R W1 H1 a x ∧ AtS k E (f a) W1 D σ H1 := by
  obtain ⟨env, st, o, h1, h2, h3, h4⟩ := h
  unfold sBnd at h3
  cases e : m env st with
  | none =>
    rw [e] at h3
    cases h3
  | some p =>
    rw [e] at h3
    obtain ⟨r, st1⟩ := p
    cases r with
    | ok a => exact ⟨W, env, st, _, h1, h2, e, fun W' H' v l o' r' => ⟨W', a, mono l hp, r', env, st1, o, o', h2.le l, h3, h4.le l⟩⟩
    | error x =>
      cases h3
      exact ⟨W, env, st, _, h1, h2, e, fun W' H' c d l o r => h4 W' H' σ c d l o (h2.le l) r⟩
theorem ms_sub {o i : Expr} {me mo mi : M Val} (h : PS X (.Assign [.Subscript o i p] e pos) (tAsg (tM k E me) (gSub (tM k E mo) (tM k E mi) rSetL))) : PS X (.Assign [.Subscript o i p] e pos) (tS k E (sSub me mo mi)) :=
  impS h fun D σ H q => tG.mono (tS.bnd (R := RepV k) q) fun x H1 ⟨W, v, rv, h1⟩ =>
    tG.mono (AtS.bnd (R := RepV k) (fun W H => RepV k W H v x) (fun l r => r.le l) rv h1) fun y H2 ⟨W2, a, rv2, ra, h2⟩ =>
      tG.mono (AtS.bnd (R := RepV k) (fun W H => RepV k W H v x ∧ RepV k W H a y) (fun l r => ⟨r.1.le l, r.2.le l⟩) ⟨rv2, ra⟩ h2) fun z H3 ⟨W3, j, ⟨rv3, ra3⟩, rj, env, st, o, g1, g2, g3, g4⟩ => by
        cases a with
        | ref i =>
          cases j with
          | int n =>
            dsimp only at g3
            split at g3
            · rename_i ys hys
              split at g3
              · rename_i l hl
                cases g3
                obtain ⟨p, e1, hp⟩ := ra3
                obtain ⟨vs, hv, rvs⟩ := g1.obj i _ p hys hp
                obtain ⟨le, o'⟩ := g1.putL (xs := ys) hp hv (rvs.set rv3 l)
                exact ⟨p, vs, n, l, e1, rj, hv, by rw [rvs.len]; exact hl, g4 W3 _ σ le o' (g2.le le)⟩
              · cases g3
            · cases g3
          | _ => cases g3
        | _ => cases g3
end
end Mi

namespace PySem
open Sem (wp)
/-- enumerate(v), v told by how its walk begins -/
theorem mi_enumNew {v : Value} {o : Obj} {Hh : Heap → Prop} (B : Begins v o Hh) : Meets (Builtin.«enumerate.__new__» ⟨[.type "enumerate", v], []⟩) (fun _ R s => Hh s.heap ∧
    R (.ok (.ret (.ref (s.heap.push o).objs.size))) { s with heap := (s.heap.push o).push { cls := .type "enumerate", data := .fields #[.none, .bool false, .ref s.heap.objs.size, rawInt 0, .none, .none] } }) :=
  .of_wp fun prog w A R s h => by
    obtain ⟨hp, g, d, tk, os⟩ := s
    obtain ⟨h1, h⟩ := h
    have hsub := sub_enumerate
    have walk : ∀ {A' : Around} {E : Value → Shared → Prop} {Q : Value → Shared → Prop}, Q (.ref hp.objs.size) ⟨hp.push o, g, d, tk, os⟩ → wpAny (model prog w) A' (pyIter v) Q E ⟨hp, g, d, tk, os⟩ := fun q => B.iter prog w _ _ _ _ h1 q
    wp_walk using walk
    refine wpAny_stack_any fun st => wpAny_pure ?_
    split
    · rename_i c _ _ _ _ _
      cases (c == Value.type "enumerate") <;> (wp_walk using walk; exact ⟨_, rfl, h⟩)
    · wp_walk using walk
      exact ⟨_, rfl, h⟩
theorem mi_enumCall {prog : Program} {w : World} {A : Around} {E : Value → Shared → Prop} {s : Shared} {v : Value} {o : Obj} {Hh : Heap → Prop} {Q : Value → Shared → Prop} (B : Begins v o Hh) (h1 : Hh s.heap)
    (h : ∀ h', IsEnum h' (s.heap.objs.size + 1) s.heap.objs.size 0 .none → h'.get? s.heap.objs.size = some o → (∀ b u, s.heap.get? b = some u → h'.get? b = some u) → Q (.ref (s.heap.objs.size + 1)) { s with heap := h' }) :
    wpAny (model prog w) A (call (.type "enumerate") [v]) Q E s := by
  refine callType_new F.called_enumerate (by decide) (F.typeCall_enumerate_1 _) (F.newCall_enumerate_1 _) (fun obj => F.args_object_init_2 obj _) F.entry_enumerate_new (mi_enumNew B) ⟨h1, ?_⟩
  have hz : (s.heap.push o).objs.size = s.heap.objs.size + 1 := Heap.size_push ..
  show _ ∧ _
  rw [hz]
  have he : IsEnum ((s.heap.push o).push { cls := .type "enumerate", data := .fields #[.none, .bool false, .ref s.heap.objs.size, rawInt 0, .none, .none] }) (s.heap.objs.size + 1) s.heap.objs.size 0 .none := by
    have q := Heap.get?_push_size (s.heap.push o) (o := { cls := .type "enumerate", data := .fields #[.none, .bool false, .ref s.heap.objs.size, rawInt 0, .none, .none] }) rfl
    rw [hz] at q
    exact q
  exact ⟨⟨_, he, rfl⟩, h _ he (Heap.get?_push_of_some _ (Heap.get?_push_size _ B.free)) fun b u x => Heap.get?_push_of_some _ (Heap.get?_push_of_some _ x)⟩
end PySem
namespace Mi
open PySem PySem.Spec PyProof.Rows L2

/-! ### enumerate, zip: over lists and tuples, in any mix -/
inductive Sc where
  | l (a : Addr) | t (a : Addr)
def Sc.addr : Sc → Addr
  | .l a => a
  | .t a => a
def Sc.sq (K : PySem.W.Frag) (H : Hp) : Sc → List V → Prop
  | .l a, xs => SqL K H a xs
  | .t a, xs => SqT K H a xs
def Sc.it (h : Heap) (I : Addr) (i : Nat) : Sc → Prop
  | .l a => h.IsListIter I a i
  | .t a => h.IsTupleIter I a i
def Sc.is (h : Heap) (items : Array Value) : Sc → Prop
  | .l a => h.IsList a items
  | .t a => h.IsTuple a items
def Sc.first : Sc → Obj
  | .l a => { cls := .type "list_iterator", data := .fields #[.ref a, .int 0 0] }
  | .t a => { cls := .type "tuple_iterator", data := .fields #[.ref a, .int 0 0] }
theorem Sc.begins (c : Sc) (items : Array Value) : Begins (.ref c.addr) c.first fun h => c.is h items := by
  cases c with
  | l a => exact begins_list a items
  | t a => exact begins_tuple a items
theorem Sc.it_first {h : Heap} {I : Addr} {c : Sc} (e : h.get? I = some c.first) : c.it h I 0 := by
  cases c with
  | l a => exact ⟨_, e, rfl, rfl⟩
  | t a => exact ⟨_, e, rfl, rfl⟩
theorem Sc.it_obj {h : Heap} {I : Addr} {i : Nat} {c : Sc} (x : c.it h I i) : ∃ o, h.get? I = some o ∧ ∀ v, o.data ≠ .cell v := by
  cases c with
  | l a =>
    obtain ⟨o, e, _, d⟩ := x
    exact ⟨o, e, fun v q => by rw [d] at q; cases q⟩
  | t a =>
    obtain ⟨o, e, _, d⟩ := x
    exact ⟨o, e, fun v q => by rw [d] at q; cases q⟩
theorem Sc.it_at {h h' : Heap} {I : Addr} {i : Nat} {c : Sc} (x : c.it h I i) (k : ∀ o, h.get? I = some o → h'.get? I = some o) : c.it h' I i := by
  cases c with
  | l a => exact Heap.IsListIter.at x k
  | t a => exact Heap.IsTupleIter.at x k
theorem Sc.draws {prog : Program} {w : World} {A : Around} (hh : A.handled = none) (c : Sc) (I : Addr) (hne : c.addr ≠ I) (items : Array Value) :
    Draws prog w A I [I, c.addr] items.size (fun i v => items[i]? = some v) (fun i h => c.it h I i ∧ c.is h items) := by
  cases c with
  | l a => exact Draws.list hh I a hne items
  | t a => exact Draws.tuple hh I a hne items
section
variable {X : Cx} {pins : List (Addr × Obj)} {σ : L2.St} {H : Hp} {s : Shared} {c : Sc} {xs ys : List V}
theorem Sc.of (I : Inv X pins σ H s) (h : c.sq X.K H xs) : ∃ its : List Value, Vals xs its ∧ c.is s.heap its.toArray := by
  cases c with
  | l a =>
    obtain ⟨its, rv, p, _⟩ := I.list h
    exact ⟨its, rv, p.isList⟩
  | t a =>
    obtain ⟨its, rv, p, _⟩ := I.tuple h
    exact ⟨its, rv, p⟩
theorem Sc.inj (I : Inv X pins σ H s) (h : c.sq X.K H xs) (h' : c.sq X.K H ys) : xs = ys := by
  cases c with
  | l a => exact I.list_inj h h'
  | t a => exact I.tuple_inj h h'
theorem Sc.ne (I : Inv X pins σ H s) (h : c.sq X.K H xs) {b : Addr} (hf : FpOk X pins H b) : c.addr ≠ b := by
  have old : ∀ a o, X.K.lookup a = some o → a ≠ b := fun a o e z => by
    have e1 := I.ok.mod.kin a o e
    obtain ⟨_, _, _, f3, _⟩ := hf
    rcases f3 with f3 | f3
    · exact I.ok.noex a o e1 (z ▸ f3)
    · exact absurd (Nat.lt_of_lt_of_le (Heap.lt_size (I.ok.bs a o e1).1) (z ▸ f3)) (Nat.lt_irrefl _)
  cases c with
  | l a =>
    rcases h with (h | ⟨o, h⟩) | ⟨o, _, _, e, _⟩
    · exact ne_of_none h hf.1
    · exact ne_of_none h hf.1
    · exact old a o e
  | t a =>
    rcases h with (h | ⟨o, h⟩) | ⟨o, _, _, e, _⟩
    · exact ne_of_none h hf.1
    · exact ne_of_none h hf.1
    · exact old a o e
end
def IteS (K : PySem.W.Frag) (c : Sc) : It :=
  ⟨fun i H => ∃ (xs : List V) (x : V), c.sq K H xs ∧ xs[i]? = some x, fun i H v H' => ∃ T x, v = .ref T ∧ H T = none ∧ H' = upd H T (.tup [.int (i : Nat), x]) ∧ ∀ xs, c.sq K H xs → xs[i]? = some x, fun i H => ∃ xs : List V, c.sq K H xs ∧ xs.length = i⟩
theorem turnEnum {P : Program} {w : World} {K : PySem.W.Frag} {elts : List Expr} {kk : Nat} {tpos : Pos} (c : Sc) (e it : Addr) :
    Turn P w K (.Tuple elts kk tpos) (IteS K c) [e, it] e (fun i h => (∃ old, IsEnum h e it ((i : Nat) : Int) old) ∧ c.it h it i ∧ e ≠ it) where
  mem := by simp
  obj := fun i h st b hb => by
    obtain ⟨⟨old, he⟩, hit, _⟩ := st
    have e' : b = e ∨ b = it := by simpa using hb
    rcases e' with z | z
    · rw [z]
      exact ⟨_, he, fun v q => nomatch q⟩
    · rw [z]
      exact Sc.it_obj hit
  keep := fun i h h' st k => by
    obtain ⟨⟨old, he⟩, hi, hne⟩ := st
    exact ⟨⟨old, k e (by simp) _ he⟩, Sc.it_at hi fun o q => k it (by simp) o q, hne⟩
  item := by
    intro X hP hw hK hc i pins s σ H E I hf st hg
    subst hP hw hK
    obtain ⟨⟨old, he⟩, hit, hne⟩ := st
    obtain ⟨xs, x, hq, hx⟩ := hg
    obtain ⟨its, rv, p⟩ := Sc.of I hq
    obtain ⟨u, hu, ru⟩ := rv.get hx
    have hel : e < s.heap.objs.size := Heap.lt_size he
    have hil : it < s.heap.objs.size := by
      obtain ⟨_, q, _⟩ := Sc.it_obj hit
      exact Heap.lt_size q
    have hai := Sc.ne I hq (hf it (by simp))
    have hae := Sc.ne I hq (hf e (by simp))
    have hef : e ∉ [it, c.addr] := fun z => by
      rcases List.mem_cons.mp z with z | z
      · exact hne z
      · exact hae (List.mem_singleton.mp z).symm
    have hlt : i < its.toArray.size := by
      have := (List.getElem?_eq_some_iff.mp hu).1
      simpa using this
    refine wpAny_pyNext_enum_itemC (Sc.draws (A := X.A.in1) (I.ok.hd hc) c it hai its.toArray) he ⟨hit, p⟩ hlt hne hef fun x' h' tk hP ho hst' hT hsz hk => ?_
    have ex : u = x' := by
      have q : its.toArray[i]? = some x' := hP
      have q' : its[i]? = some x' := by simpa using q
      exact Option.some.inj (hu.symm.trans q')
    subst ex
    refine ⟨_, rfl, wpAny_letOwnedTupleGo_enum (s := { s with heap := h', toks := tk + 1 }) ho fun h'' he' sb => ?_⟩
    have hT2 : h''.get? s.heap.objs.size = some { cls := .type "tuple", data := .seq #[.int i tk, u] } := (sb.2 _ (Nat.ne_of_gt hel)).trans hT
    have new : ObjOk X.prog X.w (upd H s.heap.objs.size (.tup [.int (i : Nat), x])) h'' s.heap.objs.size (.tup [.int (i : Nat), x]) :=
      ⟨by show 2 ≤ sizeLine; decide, [.int i tk, u], .cons ⟨_, rfl⟩ (.cons ru .nil), ⟨_, hT2, rfl, _, rfl⟩⟩
    have I1 : Inv X pins σ (upd H s.heap.objs.size (.tup [.int (i : Nat), x])) { s with heap := h'', toks := tk + 1 } :=
      I.turnedNew (ch := [e, it]) (fun b ob hb q => (sb.2 b (fun z => hb (by simp [z]))).trans (hk b ob (fun z => hb (by simp [z])) (fun z => hb (by simp [z])) q)) hf (Nat.le_refl _) new
    refine ⟨.ref s.heap.objs.size, _, I1, rfl, ⟨_, x, rfl, I.hok.fresh (Nat.le_refl _), rfl, fun ys hy => by rw [Sc.inj I hy hq]; exact hx⟩, ⟨⟨u, ?_⟩, Sc.it_at hst'.1 fun o q => (sb.2 it (Ne.symm hne)).trans q, hne⟩, fun b hb => ?_⟩
    · have e1 : ((i + 1 : Nat) : Int) = (i : Int) + 1 := by omega
      rw [e1]
      exact he'
    · have hb' : b < s.heap.objs.size := by
        have e' : b = e ∨ b = it := by simpa using hb
        rcases e' with z | z
        · rw [z]
          exact hel
        · rw [z]
          exact hil
      rw [upd_ne (Nat.ne_of_lt hb')]
      exact (hf b hb).1
  done := by
    intro X hP hw hK hc i pins s σ H E I hf st hg
    subst hP hw hK
    obtain ⟨⟨old, he⟩, hit, hne⟩ := st
    obtain ⟨xs, hq, hx⟩ := hg
    obtain ⟨its, rv, p⟩ := Sc.of I hq
    obtain ⟨f0, f1, f2, f3, f4, f5⟩ := hf it (by simp)
    have hl := rv.length
    have hi : its.toArray.size = i := by
      rw [List.size_toArray]
      omega
    refine wpAny_pyNext_enum_endD (Sc.draws (A := X.A.in1) (I.ok.hd hc) c it (Sc.ne I hq (hf it (by simp))) its.toArray) he ⟨by rw [hi]; exact hit, p⟩ fun h' eb => ⟨rfl, I.turned (t' := s.toks) (fun b o hb q => eb b o hb q) f0 f1 f3 f4 f5⟩
  self := fun A i s Q E st h => by
    obtain ⟨⟨_, he⟩, _⟩ := st
    exact wpAny_pyIter_enum he h
theorem pi_enumS {X : Cx} {e : Expr} {ta : TA} {p pos tpos : Pos} {elts : List Expr} {kk : Nat} (hg : Gl X "enumerate") (hm : X.mg "enumerate" = none) (ha : PA X [e] ta) (hs : starEach [e] X.env = [(false, eval e X.env)] := by rfl) :
    PI X (.Tuple elts kk tpos) (.Call (.Name "enumerate" p) [e] [] pos) (fun σ H R => ta σ H fun vs H1 => ∃ c xs, vs = [.ref (Sc.addr c)] ∧ c.sq X.K H1 xs ∧ R (IteS X.K c) H1) := by
  refine ⟨fun pins s σ H R I h => ?_⟩
  refine Call_ (ld_blt I hg hm boot_enumerate (PyProof.Rows.callWith_type1 (thn (ha.run pos pins s σ H _ I h) fun us s1 ⟨vs, H1, I1, r1, q1⟩ => ?_) hs rfl))
  obtain ⟨c, xs, ec, hq, q⟩ := q1
  subst ec
  cases r1 with
  | cons r rr =>
    cases rr
    cases r
    obtain ⟨its, rv, p'⟩ := Sc.of I1 hq
    refine mi_enumCall (c.begins its.toArray) p' fun h' he hit hk => wpAny_pyIter_enum he ?_
    have I2 : Inv X pins σ H1 { s1 with heap := h' } := I1.kept (t' := s1.toks) hk
    refine ⟨s1.heap.objs.size + 1, [s1.heap.objs.size + 1, s1.heap.objs.size], _, _, H1, rfl, I2, turnEnum c (s1.heap.objs.size + 1) s1.heap.objs.size, ⟨⟨.none, he⟩, Sc.it_first hit, Nat.succ_ne_self _⟩, fun b hb => ?_, q⟩
    have e' : b = s1.heap.objs.size + 1 ∨ b = s1.heap.objs.size := by simpa using hb
    have hle : s1.heap.objs.size ≤ b := by
      rcases e' with z | z
      · rw [z]
        exact Nat.le_add_right _ _
      · rw [z]
        exact Nat.le_refl _
    exact I1.fpOk hle (I1.hok.fresh hle)
def IzS (K : PySem.W.Frag) (c d : Sc) : It :=
  ⟨fun i H => ∃ (xs ys : List V) (x y : V), c.sq K H xs ∧ d.sq K H ys ∧ xs[i]? = some x ∧ ys[i]? = some y,
    fun i H v H' => ∃ T x y, v = .ref T ∧ H T = none ∧ H' = upd H T (.tup [x, y]) ∧ (∀ xs, c.sq K H xs → xs[i]? = some x) ∧ ∀ ys, d.sq K H ys → ys[i]? = some y,
    fun i H => ∃ xs ys : List V, c.sq K H xs ∧ d.sq K H ys ∧ i ≤ xs.length ∧ i ≤ ys.length ∧ (i = xs.length ∨ i = ys.length)⟩
structure ZAp (z TI TO i1 i2 : Addr) : Prop where
  a1 : TI ≠ z
  a2 : TO ≠ z
  a3 : TI ≠ TO
  a4 : TI ≠ i1
  a5 : TI ≠ i2
  a6 : z ≠ i1
  a7 : z ≠ i2
  a8 : TO ≠ i1
  a9 : TO ≠ i2
  b1 : i1 ≠ i2
theorem ZAp.sep {z TI TO i1 i2 a b : Addr} (D : ZAp z TI TO i1 i2) (h1 : a ≠ z) (h2 : a ≠ TO) (h3 : a ≠ i2) (h4 : b ≠ z) (h5 : b ≠ TO) (h6 : b ≠ i1) : ZipSep2 z TI TO i1 i2 [i1, a] [i2, b] := by
  have no : ∀ {x y w : Addr}, x ≠ y → w ≠ x → x ∉ [y, w] := fun {x y w} p q m => by
    rcases List.mem_cons.mp m with m | m
    · exact p m
    · exact q (List.mem_singleton.mp m).symm
  exact ⟨D.a1, D.a2, D.a3, D.a4, by simp, no D.a6 h1, no D.a8 h2, D.a5, by simp, no D.a7 h4, no D.a9 h5, no D.b1 h6, no (Ne.symm D.b1) h3⟩
theorem turnZip {P : Program} {w : World} {K : PySem.W.Frag} {elts : List Expr} {kk : Nat} {tpos : Pos} (c d : Sc) {z TI TO i1 i2 : Addr} (D : ZAp z TI TO i1 i2) :
    Turn P w K (.Tuple elts kk tpos) (IzS K c d) [z, TI, TO, i1, i2] z (fun i h => IsZip h z TI TO .none ∧ IsTupOf2 h TI (.ref i1) (.ref i2) ∧ (∃ x y, IsTupOf2 h TO x y) ∧ c.it h i1 i ∧ d.it h i2 i) where
  mem := by simp
  obj := fun i h st b hb => by
    obtain ⟨hz, hTI, ⟨x, y, hTO⟩, h1, h2⟩ := st
    have e' : b = z ∨ b = TI ∨ b = TO ∨ b = i1 ∨ b = i2 := by simpa using hb
    rcases e' with q | q | q | q | q
    · rw [q]
      exact ⟨_, hz, fun v q => nomatch q⟩
    · rw [q]
      exact ⟨_, hTI, fun v q => nomatch q⟩
    · rw [q]
      exact ⟨_, hTO, fun v q => nomatch q⟩
    · rw [q]
      exact Sc.it_obj h1
    · rw [q]
      exact Sc.it_obj h2
  keep := fun i h h' st k => by
    obtain ⟨hz, hTI, ⟨x, y, hTO⟩, h1, h2⟩ := st
    exact ⟨k z (by simp) _ hz, k TI (by simp) _ hTI, ⟨x, y, k TO (by simp) _ hTO⟩, Sc.it_at h1 fun o q => k i1 (by simp) o q, Sc.it_at h2 fun o q => k i2 (by simp) o q⟩
  item := by
    intro X hP hw hK hc i pins s σ H E I hf st hg
    subst hP hw hK
    obtain ⟨hz, hTI, ⟨x0, y0, hTO⟩, h1, h2⟩ := st
    obtain ⟨xs, ys, x, y, hqx, hqy, hx, hy⟩ := hg
    obtain ⟨its, rv, p⟩ := Sc.of I hqx
    obtain ⟨its2, rv2, p2⟩ := Sc.of I hqy
    obtain ⟨u, hu, ru⟩ := rv.get hx
    obtain ⟨u2, hu2, ru2⟩ := rv2.get hy
    have hzl : z < s.heap.objs.size := Heap.lt_size hz
    have nc : ∀ b ∈ [z, TI, TO, i1, i2], c.addr ≠ b := fun b hb => Sc.ne I hqx (hf b hb)
    have nd : ∀ b ∈ [z, TI, TO, i1, i2], d.addr ≠ b := fun b hb => Sc.ne I hqy (hf b hb)
    have S := D.sep (nc z (by simp)) (nc TO (by simp)) (nc i2 (by simp)) (nd z (by simp)) (nd TO (by simp)) (nd i1 (by simp))
    have lt1 : i < its.toArray.size := by
      have := (List.getElem?_eq_some_iff.mp hu).1
      simpa using this
    have lt2 : i < its2.toArray.size := by
      have := (List.getElem?_eq_some_iff.mp hu2).1
      simpa using this
    refine wpAny_pyNext_zipD2_item S (Sc.draws (A := X.A.in1) (I.ok.hd hc) c i1 (nc i1 (by simp)) its.toArray) (Sc.draws (A := X.A.in1) (I.ok.hd hc) d i2 (nd i2 (by simp)) its2.toArray) hz hTI hTO ⟨h1, p⟩ ⟨h2, p2⟩ lt1 lt2
      fun x1 x2 h' tk hP1 hP2 z' TO' st1 st2 hT hsz hk => ?_
    have e1 : u = x1 := by
      have q : its.toArray[i]? = some x1 := hP1
      have q' : its[i]? = some x1 := by simpa using q
      exact Option.some.inj (hu.symm.trans q')
    have e2 : u2 = x2 := by
      have q : its2.toArray[i]? = some x2 := hP2
      have q' : its2[i]? = some x2 := by simpa using q
      exact Option.some.inj (hu2.symm.trans q')
    subst e1 e2
    refine ⟨_, rfl, wpAny_letOwnedTupleGo_zip (s := { s with heap := h', toks := tk }) z' fun h'' z'' sb => ?_⟩
    have hT2 : h''.get? s.heap.objs.size = some { cls := .type "tuple", data := .seq #[u, u2] } := (sb.2 _ (Nat.ne_of_gt hzl)).trans hT
    have new : ObjOk X.prog X.w (upd H s.heap.objs.size (.tup [x, y])) h'' s.heap.objs.size (.tup [x, y]) :=
      ⟨by show 2 ≤ sizeLine; decide, [u, u2], .cons ru (.cons ru2 .nil), ⟨_, hT2, rfl, _, rfl⟩⟩
    have I1 : Inv X pins σ (upd H s.heap.objs.size (.tup [x, y])) { s with heap := h'', toks := tk } :=
      I.turnedNew (ch := [z, TI, TO, i1, i2]) (fun b o hb q => (sb.2 b (fun q' => hb (by simp [q']))).trans (hk b o (fun q' => hb (by simp [q'])) (fun q' => hb (by simp [q'])) (fun q' => hb (by simp [q'])) (fun q' => hb (by simp [q'])) q)) hf (Nat.le_refl _) new
    refine ⟨.ref s.heap.objs.size, _, I1, rfl, ⟨_, x, y, rfl, I.hok.fresh (Nat.le_refl _), rfl, fun l hl => by rw [Sc.inj I hl hqx]; exact hx, fun l hl => by rw [Sc.inj I hl hqy]; exact hy⟩, ⟨z'', ?_, ⟨u, u2, ?_⟩, ?_, ?_⟩, fun b hb => ?_⟩
    · exact (sb.2 _ D.a1).trans (hk _ _ D.a1 D.a3 D.a4 D.a5 hTI)
    · exact (sb.2 _ D.a2).trans TO'
    · exact Sc.it_at st1.1 fun o q => (sb.2 _ (Ne.symm D.a6)).trans q
    · exact Sc.it_at st2.1 fun o q => (sb.2 _ (Ne.symm D.a7)).trans q
    · have hlt : b < s.heap.objs.size := by
        have e' : b = z ∨ b = TI ∨ b = TO ∨ b = i1 ∨ b = i2 := by simpa using hb
        rcases e' with q | q | q | q | q
        · rw [q]
          exact hzl
        · rw [q]
          exact Heap.lt_size hTI
        · rw [q]
          exact Heap.lt_size hTO
        · rw [q]
          obtain ⟨_, e1, _⟩ := Sc.it_obj h1
          exact Heap.lt_size e1
        · rw [q]
          obtain ⟨_, e2, _⟩ := Sc.it_obj h2
          exact Heap.lt_size e2
      rw [upd_ne (Nat.ne_of_lt hlt)]
      exact (hf b hb).1
  done := by
    intro X hP hw hK hc i pins s σ H E I hf st hg
    subst hP hw hK
    obtain ⟨hz, hTI, ⟨x0, y0, hTO⟩, h1, h2⟩ := st
    obtain ⟨xs, ys, hqx, hqy, hl1, hl2, hend⟩ := hg
    obtain ⟨its, rv, p⟩ := Sc.of I hqx
    obtain ⟨its2, rv2, p2⟩ := Sc.of I hqy
    have nc : ∀ b ∈ [z, TI, TO, i1, i2], c.addr ≠ b := fun b hb => Sc.ne I hqx (hf b hb)
    have nd : ∀ b ∈ [z, TI, TO, i1, i2], d.addr ≠ b := fun b hb => Sc.ne I hqy (hf b hb)
    have S := D.sep (nc z (by simp)) (nc TO (by simp)) (nc i2 (by simp)) (nd z (by simp)) (nd TO (by simp)) (nd i1 (by simp))
    have e1 := rv.length
    have e2 := rv2.length
    refine wpAny_pyNext_zipD2_end (i := i) S (Sc.draws (A := X.A.in1) (I.ok.hd hc) c i1 (nc i1 (by simp)) its.toArray) (Sc.draws (A := X.A.in1) (I.ok.hd hc) d i2 (nd i2 (by simp)) its2.toArray) hz hTI hTO ⟨h1, p⟩ ⟨h2, p2⟩ (by simp; omega) (by simp; omega) (by simp; omega) fun h' tk hk => ⟨rfl, ?_⟩
    have keep : ∀ b o, b ∉ [z, TI, TO, i1, i2] → s.heap.get? b = some o → h'.get? b = some o := fun b o hb q => hk b o (fun q' => hb (by simp [q'])) (fun q' => hb (by simp [q'])) (fun q' => hb (by simp [q'])) (fun q' => hb (by simp [q'])) q
    exact I.turnedL (t' := tk) keep hf
  self := fun A i s Q E st h => wpAny_pyIter_zip st.1 h
theorem pi_zipS {X : Cx} {e e2 : Expr} {ta : TA} {p pos tpos : Pos} {elts : List Expr} {kk : Nat} (hg : Gl X "zip") (hm : X.mg "zip" = none) (ha : PA X [e, e2] ta)
    (hs : starEach [e, e2] X.env = (false, eval e X.env) :: starEach [e2] X.env := by rfl) (hpl : (backTo pos (starEach [e2] X.env)).any (·.1) = false := by rfl) :
    PI X (.Tuple elts kk tpos) (.Call (.Name "zip" p) [e, e2] [] pos) (fun σ H R => ta σ H fun vs H1 => ∃ c d xs ys, vs = [.ref (Sc.addr c), .ref (Sc.addr d)] ∧ c.sq X.K H1 xs ∧ d.sq X.K H1 ys ∧ R (IzS X.K c d) H1) := by
  refine ⟨fun pins s σ H R I h => ?_⟩
  refine Call_ (ld_blt I hg hm PyProof.Rows.boot_zip (PyProof.Rows.callWith_type1 (thn (ha.run pos pins s σ H _ I h) fun us s1 ⟨vs, H1, I1, r1, q1⟩ => ?_) hs hpl))
  obtain ⟨c, d, xs, ys, ex, hqx, hqy, q⟩ := q1
  subst ex
  cases r1 with
  | cons r rr =>
    cases rr with
    | cons r2 rr =>
      cases rr
      cases r
      cases r2
      obtain ⟨its, rv, p1⟩ := Sc.of I1 hqx
      obtain ⟨its2, rv2, p2⟩ := Sc.of I1 hqy
      refine zip_begins2 (c.begins its.toArray) (d.begins its2.toArray) p1 p2 fun h' hz hTI hTO h1 h2 hsz hk => wpAny_pyIter_zip hz ?_
      have I2 : Inv X pins σ H1 { s1 with heap := h' } := I1.kept (t' := s1.toks) hk
      have ne : ∀ i j : Nat, i ≠ j → s1.heap.objs.size + i ≠ s1.heap.objs.size + j := fun i j h e => h (Nat.add_left_cancel e)
      have ne0 : ∀ i : Nat, i ≠ 0 → s1.heap.objs.size + i ≠ s1.heap.objs.size := fun i h e => h (Nat.add_left_cancel (e.trans (Nat.add_zero _).symm))
      refine ⟨s1.heap.objs.size + 4, [s1.heap.objs.size + 4, s1.heap.objs.size + 2, s1.heap.objs.size + 3, s1.heap.objs.size, s1.heap.objs.size + 1], _, _, H1, rfl, I2,
        turnZip c d (z := s1.heap.objs.size + 4) (TI := s1.heap.objs.size + 2) (TO := s1.heap.objs.size + 3) (i1 := s1.heap.objs.size) (i2 := s1.heap.objs.size + 1)
          ⟨ne 2 4 (by decide), ne 3 4 (by decide), ne 2 3 (by decide), ne0 2 (by decide), ne 2 1 (by decide), ne0 4 (by decide), ne 4 1 (by decide), ne0 3 (by decide), ne 3 1 (by decide), Ne.symm (ne0 1 (by decide))⟩,
        ⟨hz, hTI, ⟨_, _, hTO⟩, Sc.it_first h1, Sc.it_first h2⟩, fun b hb => ?_, q⟩
      have hle : s1.heap.objs.size ≤ b := by
        have e' : b = s1.heap.objs.size + 4 ∨ b = s1.heap.objs.size + 2 ∨ b = s1.heap.objs.size + 3 ∨ b = s1.heap.objs.size ∨ b = s1.heap.objs.size + 1 := by simpa using hb
        rcases e' with z | z | z | z | z <;> rw [z] <;> first | exact Nat.le_refl _ | exact Nat.le_add_right _ _
      exact I1.fpOk hle (I1.hok.fresh hle)

/-! ### .. in the mirror -/
def seqStill : Val → Option (List Val)
  | .lst xs => some xs
  | .rol xs => some xs
  | .tup xs => some xs
  | _ => none
section
variable {k : Kx} {W : Wd} {H : Hp} {a : Val} {x : V} {xs : List Val}
theorem seqStill_rep (r : RepV k W H a x) (e : seqStill a = some xs) : ∃ c vs, x = .ref (Sc.addr c) ∧ (∀ W' H', Le W W' H H' → c.sq k.K H' vs) ∧ RepL k W H xs vs := by
  cases a with
  | lst ys =>
    cases e
    obtain ⟨p, vs, e1, f, s, r⟩ := r
    exact ⟨.l p, vs, e1, fun W' H' l => .inl (.inl (l.keep _ _ s f)), r⟩
  | rol ys =>
    cases e
    obtain ⟨p, vs, e1, s, r⟩ := r
    refine ⟨.l p, vs, e1, fun W' H' l => ?_, r⟩
    rcases s with ⟨u, s⟩ | s
    · exact .inl (.inr ⟨u, l.imm _ _ s trivial⟩)
    · exact SqL.ro s
  | tup ys =>
    cases e
    obtain ⟨p, vs, e1, s, r⟩ := r
    exact ⟨.t p, vs, e1, fun W' H' l => l.sqT s, r⟩
  | _ => cases e
theorem walks_enum {c : Sc} {vs : List V} (hs : ∀ W' H', Le W W' H H' → c.sq k.K H' vs) (r : RepL k W H xs vs) : Walks k W H (pairs xs) (IteS k.K c) := fun W' H' st l o =>
  ⟨⟨vs, hs W' H' l, by unfold pairs; rw [r.len]; simp⟩, fun i y e => by
    unfold pairs at e
    rw [List.getElem?_map, List.getElem?_zipIdx] at e
    cases q : xs[i]? with
    | none =>
      rw [q] at e
      cases e
    | some z =>
      rw [q] at e
      cases e
      obtain ⟨v, ev, rv⟩ := r.get q
      refine ⟨⟨vs, v, hs W' H' l, ev⟩, fun u H'' y => ?_⟩
      obtain ⟨T, v', e1, hT, e2, e3⟩ := y
      have e4 : v = v' := Option.some.inj (ev.symm.trans (e3 vs (hs W' H' l)))
      subst e1 e2 e4
      refine ⟨W', Le.new hT, o.new hT, T, _, rfl, .inl (.inl upd_same), ?_⟩
      exact RepL.cons (by show V.int _ = V.int _; simp) (RepL.cons ((rv.le l).le (Le.new hT)) (show RepL k _ _ [] [] from rfl))⟩
theorem walks_zip {c d : Sc} {ys : List Val} {vs us : List V} (hs : ∀ W' H', Le W W' H H' → c.sq k.K H' vs) (hs2 : ∀ W' H', Le W W' H H' → d.sq k.K H' us) (r : RepL k W H xs vs) (r2 : RepL k W H ys us) :
    Walks k W H ((xs.zip ys).map fun p => .tup [p.1, p.2]) (IzS k.K c d) := fun W' H' st l o =>
  ⟨⟨vs, us, hs W' H' l, hs2 W' H' l, by rw [r.len]; simp; omega, by rw [r2.len]; simp; omega, by rw [r.len, r2.len]; simp; omega⟩, fun i y e => by
    rw [List.getElem?_map] at e
    cases q : (xs.zip ys)[i]? with
    | none =>
      rw [q] at e
      cases e
    | some z =>
      rw [q] at e
      cases e
      obtain ⟨q1, q2⟩ := List.getElem?_zip_eq_some.mp q
      obtain ⟨v, ev, rv⟩ := r.get q1
      obtain ⟨u, eu, ru⟩ := r2.get q2
      refine ⟨⟨vs, us, v, u, hs W' H' l, hs2 W' H' l, ev, eu⟩, fun t H'' y => ?_⟩
      obtain ⟨T, v', u', e1, hT, e2, e3, e4⟩ := y
      have e5 : v = v' := Option.some.inj (ev.symm.trans (e3 vs (hs W' H' l)))
      have e6 : u = u' := Option.some.inj (eu.symm.trans (e4 us (hs2 W' H' l)))
      subst e1 e2 e5 e6
      refine ⟨W', Le.new hT, o.new hT, T, _, rfl, .inl (.inl upd_same), ?_⟩
      exact RepL.cons ((rv.le l).le (Le.new hT)) (RepL.cons ((ru.le l).le (Le.new hT)) (show RepL k _ _ [] [] from rfl))⟩
end
def enumM (ms : M (List Val)) : M (List Val) := bnd ms fun as => lift fun _ => match as with
  | [a] => (seqStill a).map pairs
  | _ => none
def zipM (ms : M (List Val)) : M (List Val) := bnd ms fun as => lift fun _ => match as with
  | [a, b] => match seqStill a, seqStill b with
    | some xs, some ys => some ((xs.zip ys).map fun p => .tup [p.1, p.2])
    | _, _ => none
  | _ => none
section
variable {X : Cx} {k : Kx} {E : WX}
theorem mi_enum {e : Expr} {ms : M (List Val)} {p pos tpos : Pos} {elts : List Expr} {kk : Nat} (hg : Gl X "enumerate") (hm : X.mg "enumerate" = none) (ha : PA X [e] (tMa k E ms)) (hs : starEach [e] X.env = [(false, eval e X.env)] := by rfl) (hk : X.K = k.K := by rfl) :
    PI X (.Tuple elts kk tpos) (.Call (.Name "enumerate" p) [e] [] pos) (tMi k E (enumM ms)) :=
  impI (pi_enumS hg hm ha hs) fun σ H R q => tG.mono (tG.bnd (R1 := RepL k) q) fun vs H1 ⟨W, as, ra, h1⟩ => by
    rw [hk]
    obtain ⟨c, st, e, o, q⟩ := h1.lift
    split at e
    · rename_i a
      obtain ⟨v, rfl, r1⟩ := rep1 ra
      cases h : seqStill a with
      | none =>
        rw [h] at e
        cases e
      | some xs =>
        rw [h] at e
        cases e
        obtain ⟨c, us, e1, hs, r⟩ := seqStill_rep r1 h
        exact ⟨c, us, by rw [e1], hs W H1 (Le.refl _ _), q W H1 _ (Le.refl _ _) o (walks_enum hs r)⟩
    · cases e
theorem mi_zip {e e2 : Expr} {ms : M (List Val)} {p pos tpos : Pos} {elts : List Expr} {kk : Nat} (hg : Gl X "zip") (hm : X.mg "zip" = none) (ha : PA X [e, e2] (tMa k E ms))
    (hs : starEach [e, e2] X.env = (false, eval e X.env) :: starEach [e2] X.env := by rfl) (hpl : (backTo pos (starEach [e2] X.env)).any (·.1) = false := by rfl) (hk : X.K = k.K := by rfl) :
    PI X (.Tuple elts kk tpos) (.Call (.Name "zip" p) [e, e2] [] pos) (tMi k E (zipM ms)) :=
  impI (pi_zipS hg hm ha hs hpl) fun σ H R q => tG.mono (tG.bnd (R1 := RepL k) q) fun vs H1 ⟨W, as, ra, h1⟩ => by
    rw [hk]
    obtain ⟨c, st, e, o, q⟩ := h1.lift
    split at e
    · rename_i a b
      obtain ⟨v, u, rfl, r1, r2⟩ := rep2 ra
      split at e
      · rename_i xs ys hx hy
        cases e
        obtain ⟨c, us, e1, hs, r⟩ := seqStill_rep r1 hx
        obtain ⟨d, ws, e2, hs2, r'⟩ := seqStill_rep r2 hy
        exact ⟨c, d, us, ws, by rw [e1, e2], hs W H1 (Le.refl _ _), hs2 W H1 (Le.refl _ _), q W H1 _ (Le.refl _ _) o (walks_zip hs hs2 r r')⟩
      · cases e
    · cases e
end

/-! ### isinstance: which classes -/
def noOwn : Str → Option Bool := fun _ => none
theorem noOwn_ok {k : Kx} {u : Value → Option Bool} : ∀ c b, noOwn c = some b → ClsT k.K (k.cl c) ∧ u (.ref (k.cl c)) = some b := fun c b h => by cases h
def tyNames : List String := ["NoneType", "bool", "int", "str", "tuple", "list"]
def isiT (T : String) (n : String) : Option Bool := if n ∈ tyNames then some (n == T || (n == "bool" && T == "int")) else none
def isiT2 (T U : String) (n : String) : Option Bool := if n ∈ tyNames then some ((n == T || (n == "bool" && T == "int")) || (n == U || (n == "bool" && U == "int"))) else none
theorem isiT_ok {K : PySem.W.Frag} {T : String} (h : (tyNames.all fun n => kitB n T == some (n == T || (n == "bool" && T == "int"))) = true) : ∀ n b, isiT T n = some b → PySem.W.kitOne K (.type n) (.type T) = some b := fun n b e => by
  unfold isiT at e
  split at e
  · rename_i hn
    cases e
    have q := List.all_eq_true.mp h n hn
    exact kit_ty (by simpa using q)
  · cases e
theorem isiT2_ok {K : PySem.W.Frag} {T U : String} (h : (tyNames.all fun n => kitB n T == some (n == T || (n == "bool" && T == "int")) && kitB n U == some (n == U || (n == "bool" && U == "int"))) = true) : ∀ n b, isiT2 T U n = some b → PySem.W.kitAny K (.type n) [.type T, .type U] = some b := fun n b e => by
  unfold isiT2 at e
  split at e
  · rename_i hn
    cases e
    have q := Bool.and_eq_true_iff.mp (List.all_eq_true.mp h n hn)
    have q1 : PySem.W.kitOne K (.type n) (.type T) = some _ := kit_ty (by simpa using q.1)
    have q2 : PySem.W.kitOne K (.type n) (.type U) = some _ := kit_ty (by simpa using q.2)
    refine kitAny_cons q1 (fun e1 => ?_) (fun e1 => by rw [e1]; rfl)
    rw [e1]
    exact kitAny_cons q2 (fun e2 => by rw [e2]; exact kitAny_nil) (fun e2 => by rw [e2]; rfl)
  · cases e

/-! ### a reversed copy that will be changed -/
def unS (f : Sto → Val → Option (Val × Sto)) (m : M Val) : M Val := bnd m fun a => liftS fun st => f st a
def revVM (st : Sto) (a : Val) : Option (Val × Sto) := (lstOf st a).map fun xs => (.ref st.length, st ++ [.lst xs.reverse])
theorem me_revM {X : Cx} {k : Kx} {E : WX} {e : Expr} {j : Nat} {p1 p2 p3 pos : Pos} {m : M Val} (he : PE X e (tM k E m)) (hk : X.K = k.K := by rfl) :
    PE X (.Subscript e (.Slice none none (some (.UnaryOp .USub (.Constant (.int 1) j p1) p2)) p3) pos) (tM k E (unS revVM m)) := by
  refine imp (pe_revL he) fun σ H Q h => ?_
  rw [hk]
  refine tG.mono (tG.bnd (R1 := RepV k) h) fun x H1 ⟨W, a, ra, h1⟩ => ?_
  obtain ⟨c, st, st', e, o, q⟩ := h1.liftS
  unfold revVM at e
  cases h : lstOf st a with
  | none =>
    rw [h] at e
    cases e
  | some xs =>
    rw [h] at e
    cases e
    obtain ⟨p, vs, e1, s, r⟩ := lstOf_rep o ra h
    exact ⟨p, vs, e1, s, fun p hp => newLstM o hp r.reverse q⟩
end Mi

namespace Mi
open PySem PySem.Spec PyProof.Rows L2

/-! ### the law's own call: its frame lies right on the caller's, and nothing is being shown (guards) -/
/-- a def's body, run around A alone -/
theorem run_at {P : Program} {w : World} {K : PySem.W.Frag} {mg : Str → Option Value} {base : Heap} {x qual : Str} {st : Stmt} {f : Addr} {fd : FuncData} {N ps : List Str} {j : Nat} {A : Around} {outer : List PySem.Env} {s0 : Shared} {H : Hp} {args : Args} {us : List Value} {vs : List V} {Q : VK} {E : XK} {t : TS}
    (F : Fun K x qual st f fd) (S : FnScope N ps (defScope st)) (hl : vs.length = ps.length) (hr : Room (j + 1) A) (e0 : Env0 P w K mg base A outer s0 H) (hb : BindsTo s0 fd args (ps.zip us)) (rv : Vals vs us)
    (body : ∀ cdv : Value, Room j (A.deeper (envOfC qual (defScope st) s0.heap.objs.size f cdv)) → PSs (cxOf (L2.CX P w) P w K mg base N qual (defScope st) f cdv A outer s0 H E) (defBody st) t)
    (ht : t { nx := fun _ H' => Q .non H', rt := Q } (L2.start N vs) H) : codeAny (model P w) A (.call (.ref f) args) (CR (L2.CX P w) outer P w H s0 Q E) s0 := by
  obtain ⟨oc, od, kV, doc, pm, an, cdv, ct, osl, rfl, lk, hcd⟩ := F.ex
  have stays : ∀ b o, base.get? b = some o → s0.heap.get? b = some o := fun b o q => (e0.bs b o q).1
  have KX : K.In s0.heap := e0.mod.kin.keeps stays
  refine codeAny_call_function hr.depth (KX _ _ lk) rfl S.co S.gen rfl (PySem.W.codeRec_of KX hcd) (hb _ _ _ _ ?_)
  refine wpAny_newFunctionEnv_cells S.kind (fun y hy => ?_) fun env he s1 ic => ?_
  · rcases S.par y.1 (List.of_mem_zip (show (y.1, y.2) ∈ ps.zip us from hy)).1 with q | q
    · exact .inl q
    · exact .inr ⟨q, PySem.W.cellsFrom_some _ _ _ (.inl q)⟩
  subst he
  refine ⟨(e0.mod.nolimit.keeps stays).keeps ic.toInCall.keep, codeAny_func ?_⟩
  have I := inv_start (CX := L2.CX P w) (E := E) S hr.hd e0 hl rv ic
  refine wpAny_mono ((body cdv (hr.deeper _)).run [] s1 _ H _ I ht) (fun fl s' hs => ?_) fun _ _ hs => hs
  cases fl with
  | ret u =>
    obtain ⟨v, σ', H', J, r, q⟩ := hs
    exact ⟨v, H', J.os, J.bare, J.base, J.hok, r, q⟩
  | next =>
    obtain ⟨σ', H', J, q⟩ := hs
    exact ⟨.non, H', J.os, J.bare, J.base, J.hok, rfl, q⟩
  | brk =>
    obtain ⟨_, _, _, q⟩ := hs
    exact q.elim
  | cont =>
    obtain ⟨_, _, _, q⟩ := hs
    exact q.elim
theorem caller_room {j : Nat} (h : j ≤ 40) : Room j callerA := by
  have r : Room 40 callerA := ⟨rfl, by decide, by decide⟩
  exact r.mono h
/-- from the call's run to the law's end -/
theorem law_at {P : Program} {w : World} {K : PySem.W.Frag} {mg mb : Str → Option Value} {fa a : Addr} {s : Shared} {vs : List Value} {ns : List Int} (KX : K.In s.heap) (hns : s.heap.Ns mainGlobals mg) (hb : s.heap.Ns builtinsNs mb) (hbb : ∀ x : Str, x ≠ "__name__" → mb x = bootBuiltins x)
    (hlim : s.heap.NoLimit) (hg : s.gens = #[]) (ha : s.heap.get? a = some { cls := .type "list", data := .seq vs.toArray }) (hi : IntsAre vs ns) (hl : ns.length ≤ sizeLine)
    (run : ∀ (base : Heap) (H : Hp), K.In base → base.Ns mainGlobals mg → Env0 P w K mg base callerA [] s H → Only H → SqL K H a (ns.map V.int) →
      codeAny (model P w) callerA (.call (.ref fa) ⟨[.ref a], []⟩) (CR (L2.CX P w) [] P w H s (fun v _ => v = .bl true) fun _ _ _ => False) s) :
    codeAny (model P w) callerA (.call (.ref fa) ⟨[.ref a], []⟩) (fun r s' => r = .ok (.ret (.bool true)) ∧ OldK s.heap s'.heap ∧ s'.os = s.os ∧ AllBare s'.gens) s := by
  -- what is tracked at the entry: nothing, or the script alone
  suffices main : ∀ H : Hp, Only H → SqL K H a (ns.map V.int) → HOk P w H s.heap → (∀ b u, H b = some u → b = a ∧ K.lookup a = none) →
      codeAny (model P w) callerA (.call (.ref fa) ⟨[.ref a], []⟩) (fun r s' => r = .ok (.ret (.bool true)) ∧ OldK s.heap s'.heap ∧ s'.os = s.os ∧ AllBare s'.gens) s by
    have rv := vals_ints hi
    have lenV := hi.length
    cases hk : K.lookup a with
    | some o =>
      have e := KX a o hk
      rw [ha] at e
      cases e
      refine main (fun _ => none) (fun _ => .inl rfl) (.inr ⟨_, vs.toArray, _, hk, rfl, rfl, rfl, ?_, ?_⟩) (fun b u z => nomatch z) fun b u z => nomatch z
      · rw [List.size_toArray, lenV]
        exact hl
      · simpa using rv
    | none =>
      have only : ∀ b, (if b = a then some (HO.frz { cls := .type "list", data := .seq vs.toArray } (.lst (ns.map V.int))) else none) = none ∨ b = a := fun b => by
        by_cases h : b = a
        · exact .inr h
        · exact .inl (if_neg h)
      refine main (fun b => if b = a then some (.frz { cls := .type "list", data := .seq vs.toArray } (.lst (ns.map V.int))) else none) (fun b => ?_) (.inl (.inr ⟨_, if_pos rfl⟩)) (fun b u z => ?_) fun b u z => ?_
      · by_cases h : b = a
        · exact .inr ⟨_, _, if_pos h⟩
        · exact .inl (if_neg h)
      · by_cases h : b = a
        · subst h
          have z' := (if_pos rfl).symm.trans z
          cases z'
          exact ⟨ha, by rw [List.length_map]; exact hl, vs, _, rv, ha⟩
        · have z' := (if_neg h).symm.trans z
          cases z'
      · by_cases h : b = a
        · exact ⟨h, hk⟩
        · have z' := (if_neg h).symm.trans z
          cases z'
  intro H hO hS hok hA
  have lay : ∀ {b : Addr} {o : Obj}, s.heap.get? b = some o → H b = none → (hidT s.heap H).get? b = some o := fun q n => hidT_get q n
  have free : ∀ {b : Addr} {m : Str → Option Value}, s.heap.Ns b m → H b = none := fun {b m} ⟨o, es, ep, q, d, _⟩ => by
    cases z : H b with
    | none => rfl
    | some u =>
      obtain ⟨e, _⟩ := hA b u z
      subst e
      rw [ha] at q
      cases q
      cases (show Data.seq vs.toArray _ = Data.dict es ep from d)
  have ns' : ∀ {b : Addr} {m : Str → Option Value}, s.heap.Ns b m → (hidT s.heap H).Ns b m := fun {b m} x => by
    have n := free x
    obtain ⟨o, es, ep, q, d⟩ := x
    exact ⟨o, es, ep, lay q n, d⟩
  have kb : K.In (hidT s.heap H) := fun b o q => lay (KX b o q) (by
    cases z : H b with
    | none => rfl
    | some u =>
      obtain ⟨e, n⟩ := hA b u z
      rw [e, n] at q
      cases q)
  obtain ⟨mc, c1, c2⟩ := hlim
  have e0 : Env0 P w K mg (hidT s.heap H) callerA [] s H := ⟨rfl, ⟨kb, ns' hns, ⟨mb, ns' hb, hbb⟩, ⟨mc, ns' c1, c2⟩⟩, fun b o q => of_hidT q, Nat.le_of_eq (hidT_size _ _), trivial, fun b m => absurd (show b ∈ ([] : List Addr) from m) (by simp), hok, .of_eq hg⟩
  refine codeAny_mono (run _ H kb (ns' hns) e0 hO hS) fun r s' h => ?_
  cases r with
  | error e =>
    obtain ⟨_, _, _, _, _, _, _, _, _, _, _, _, z⟩ := h
    exact z.elim
  | ok fl =>
    cases fl with
    | next => exact False.elim h
    | brk => exact False.elim h
    | cont => exact False.elim h
    | ret u =>
      obtain ⟨v, H', os, bare, un, hok', r, q⟩ := h
      cases (show v = .bl true from q)
      cases (show u = Value.bool true from r)
      refine ⟨rfl, OldK.of_keep fun b o q => ?_, os, bare⟩
      cases z : H b with
      | none => exact un.keep b o q z (fun m => absurd (show b ∈ ([] : List Addr) from m) (by simp)) (by simp)
      | some u =>
        rcases hO b with n | ⟨ob, xs, n⟩
        · rw [z] at n
          cases n
        · have same := (hok b _ n).1
          rw [q] at same
          cases same
          exact (hok' b _ (un.frzs b _ _ n)).1
/-- the end: the law's mirror says True -/
theorem walk_law {l : PySem.W.OpenLaw} {n j : Nat} {q : Program} {loose : List Str} {XP : (Str → Option Value) → Heap → Prop} {YP : World → Heap → Prop} {d : DefRec} {K : Params → PySem.W.Frag} {x : Str} {st : Stmt} {N : List Str} {s : S} {cl : World → Str → Addr}
    (hn : l.most = some n) (hn2 : n ≤ sizeLine) (hdf : d.params.defaults = []) (hj : j + 1 ≤ 40) (hY : ∀ (w : World) (h : Heap), YP w h → (K w.params).In h) (Sc : FnScope N [x] (defScope st))
    (F : ∀ (w : World) (mg : Str → Option Value) (fa : Addr) (h : Heap), (K w.params).In h → h.Ns mainGlobals mg → mg d.name = some (.ref fa) →
      ∃ fd : FuncData, Fun (K w.params) "law" "law" st fa fd ∧ (∀ (s : Shared) (u : Value), BindsTo s fd ⟨[u], []⟩ [(x, u)]) ∧ ∃ cl : Str → Addr, ∀ (base : Heap) (cdv : Value) (A : Around) (outer : List PySem.Env) (s0 : Shared) (H : Hp) (E : XK),
        A.guards = some [] → Room j (A.deeper (envOfC "law" (defScope st) s0.heap.objs.size fa cdv)) →
          PSs (cxOf (L2.CX l.prog w) l.prog w (K w.params) mg base N "law" (defScope st) fa cdv A outer s0 H E) (defBody st) (tS ⟨K w.params, cl⟩ (fun c d _ H' => E c d H') s))
    (hs : ∀ ns : List Int, ns.length ≤ n → (∀ i ∈ ns, Builtin.Int.intBits i ≤ 1048576) → ∃ env st', s (env0 N.length [.rol (ns.map .int)]) [] = some (.ret (.bl true), env, st')) :
    PySem.W.WalkO q loose XP YP l.row.toRowW d [] (fun f vs => PySem.call f vs) := by
  refine Att.attach_callB hn hdf fun w s₀ s₁ mg mb fa o pm cd doc a vs ns G Y ho hd hcd hmg hobj hints hlen hbits hg => ?_
  have KX := hY w _ Y
  obtain ⟨fd, FF, hb, cl, hF⟩ := F w mg fa _ KX G.T.g hmg
  refine law_at KX G.T.g G.T.b G.T.builtins G.T.nolimit hg hobj hints (Nat.le_trans hlen hn2) fun base H kb nb e0 hO hS => ?_
  obtain ⟨env, st', es⟩ := hs ns hlen hbits
  refine run_at (j := j) (ps := [x]) (vs := [.ref a]) (us := [.ref a]) FF Sc rfl (caller_room hj) e0 (hb _ _) (.cons rfl .nil) (fun cdv hr => hF base cdv callerA [] s₁ H _ rfl hr) ?_
  have hRo : RoL ⟨K w.params, cl⟩ H a (ns.map V.int) := by
    rcases hS with (h | h) | h
    · rcases hO a with z | ⟨ob, xs, z⟩
      · rw [h] at z
        cases z
      · rw [h] at z
        cases z
    · exact .inl h
    · exact .inr (.inr h)
  refine ⟨⟨[], fun _ => False⟩, _, [], _, ⟨List.nodup_nil, rfl, fun _ z => z.elim, fun _ _ z => z, fun i o p e => ?_⟩, RepE.begin (us := [.rol (ns.map .int)]) (RepL.cons ⟨a, ns.map V.int, rfl, hRo, RepL.map (f := Val.int) (g := V.int) (fun _ => rfl) _⟩ (show RepL _ _ _ [] [] from rfl)), es, ?_⟩
  · rw [List.getElem?_nil] at e
    cases e
  · exact fun W' H' u l o r => r

/-! ### repr -/
def reprV (st : Sto) : List Val → Option Val
  | [a] => match toD st a with
    | some d => if d.showable = true ∧ d.hasDict = false ∧ d.shown.length ≤ LIM ∧ d.depth ≤ 50 then some (.str d.shown) else none
    | none => none
  | _ => none
theorem leaf_repr {P : Program} {w : World} {A : Around} {E : Value → Shared → Prop} {s : Shared} {d : PyData} {v : Value} {as : List Addr} {Q : Value → Shared → Prop} (r : Reads s.heap v d as) (hs : d.showable = true) (hd : d.hasDict = false) (hg : A.guards = some []) (hu : A.units + (d.depth + 1) < cLine) (hz : d.shown.length ≤ sizeLine)
    (hQ : ∀ h' u tk, (∀ b o, s.heap.get? b = some o → h'.get? b = some o) → Q (.str d.shown u) { s with heap := h', toks := tk }) : wpAny (model P w) A (call (.builtin "repr") [v]) Q E s := by
  cases r with
  | list h1 h2 h3 h4 => exact repr_of_reads' (Reads.list h1 h2 h3 h4) hs (fun z => by rw [hd] at z; cases z) hg hu (fun _ _ h => h) hQ hz
  | tuple h1 h2 h3 h4 => exact repr_of_reads' (Reads.tuple h1 h2 h3 h4) hs (fun z => by rw [hd] at z; cases z) hg hu (fun _ _ h => h) hQ hz
  | none => exact PySem.P.repr_of_none (hQ _ _ _ fun _ _ h => h)
  | bool b => exact PySem.P.repr_of_bool (hQ _ _ _ fun _ _ h => h)
  | int i t => exact PySem.P.repr_of_int (of_decide_eq_true hs) (hQ _ _ _ fun _ _ h => h)
  | str x t => exact PySem.P.repr_of_str (hQ _ _ _ fun _ _ h => h) hz
  | dict h1 h2 h3 h4 h5 => cases hd
theorem call_reprD {X : Cx} (hG : X.A.guards = some []) (hu : X.A.units + 64 < cLine) : CallR X (.builtin "repr") (fun xs H Q => ∃ v d, xs = [v] ∧ Dp X.K H v d ∧ d.showable = true ∧ d.hasDict = false ∧ d.shown.length ≤ sizeLine ∧ d.depth ≤ 50 ∧ Q (.str d.shown) H) := by
  intro pins s σ H xs us Q I r h
  obtain ⟨v, d, rfl, hD, h1, h2, h3, h4, q⟩ := h
  obtain ⟨u, rfl, ru⟩ := vals1 r
  obtain ⟨as, rd⟩ := Dp.reads I d v u hD ru
  exact leaf_repr rd h1 h2 hG (by omega) h3 fun h' t tk k => ⟨.str d.shown, H, I.kept k, ⟨_, rfl⟩, q⟩
theorem cu_repr {X : Cx} {k : Kx} {n : Nat} (hG : X.A.guards = some []) (hr : Room n X.A) (hk : X.K = k.K := by rfl) : CallU X k (.builtin "repr") reprV := by
  refine ⟨_, ?_, call_reprD hG hr.units⟩
  intro W H st as xs c Q o r e q
  unfold reprV at e
  split at e
  · rename_i a
    obtain ⟨v, rfl, r1⟩ := rep1 r
    split at e
    · rename_i d hd
      split at e
      · rename_i hs
        cases e
        rw [hk]
        exact ⟨v, d, rfl, toD_rep o r1 hd, hs.1, hs.2.1, lim_le hs.2.2.1, hs.2.2.2, q W H _ (Le.refl _ _) o rfl⟩
      · cases e
    · cases e
  · cases e
end Mi

namespace Mi
open PySem L2
/-! ### running the mirror -/
section
variable {α β : Type} {env e1 : Env} {st s1 : Sto} {a : α}
theorem bnd_ok {m : M α} {f : α → M β} (h : m env st = some (.ok a, s1)) : bnd m f env st = f a env s1 := by
  unfold bnd
  rw [h]
theorem sBnd_ok {m : M α} {f : α → S} (h : m env st = some (.ok a, s1)) : sBnd m f env st = f a env s1 := by
  unfold sBnd
  rw [h]
theorem sSeq_next {x y : S} (h : x env st = some (.next, e1, s1)) : sSeq x y env st = y e1 s1 := by
  unfold sSeq
  rw [h]
theorem sSeq_ret {x y : S} {v : Val} (h : x env st = some (.ret v, e1, s1)) : sSeq x y env st = some (.ret v, e1, s1) := by
  unfold sSeq
  rw [h]
theorem sSeq_err {x y : S} {v : Exc} (h : x env st = some (.err v, e1, s1)) : sSeq x y env st = some (.err v, e1, s1) := by
  unfold sSeq
  rw [h]
theorem sSet_ok {m : M Val} {i : Nat} {v : Val} (h : m env st = some (.ok v, s1)) : sSet i m env st = some (.next, env.set i (some v), s1) := sBnd_ok h
theorem sRet_ok {m : M Val} {v : Val} (h : m env st = some (.ok v, s1)) : sRet m env st = some (.ret v, env, s1) := sBnd_ok h
theorem sExpr_ok {m : M Val} {v : Val} (h : m env st = some (.ok v, s1)) : sExpr m env st = some (.next, env, s1) := sBnd_ok h
theorem sIf_true {c : M Bool} {x y : S} (h : c env st = some (.ok true, s1)) : sIf c x y env st = x env s1 := by
  unfold sIf
  rw [sBnd_ok h]
  rfl
theorem sIf_false {c : M Bool} {x y : S} (h : c env st = some (.ok false, s1)) : sIf c x y env st = y env s1 := by
  unfold sIf
  rw [sBnd_ok h]
  rfl
theorem lift_ok {o : Sto → Option α} (h : o st = some a) : lift o env st = some (.ok a, st) := by
  unfold lift
  rw [h]
  rfl
theorem liftS_ok {o : Sto → Option (α × Sto)} (h : o st = some (a, s1)) : liftS o env st = some (.ok a, s1) := by
  unfold liftS
  rw [h]
  rfl
theorem bin_ok {f : Sto → Val → Val → Option Val} {ma mb : M Val} {x y z : Val} {s2 : Sto} (ha : ma env st = some (.ok x, s1)) (hb : mb env s1 = some (.ok y, s2)) (hf : f s2 x y = some z) : bin f ma mb env st = some (.ok z, s2) := by
  unfold bin
  rw [bnd_ok ha, bnd_ok hb]
  exact lift_ok hf
theorem un_ok {f : Sto → Val → Option Val} {ma : M Val} {x z : Val} (ha : ma env st = some (.ok x, s1)) (hf : f s1 x = some z) : un f ma env st = some (.ok z, s1) := by
  unfold un
  rw [bnd_ok ha]
  exact lift_ok hf
theorem asB_ok {m : M Val} {b : Bool} (h : m env st = some (.ok (.bl b), s1)) : asB m env st = some (.ok b, s1) := by
  unfold asB
  rw [bnd_ok h]
  rfl
theorem andB_ok {x y : M Bool} {b c : Bool} {s2 : Sto} (h : x env st = some (.ok b, s1)) (h2 : b = true → y env s1 = some (.ok c, s2)) (h3 : b = false → s2 = s1 ∧ c = false) : andB x y env st = some (.ok c, s2) := by
  unfold andB
  rw [bnd_ok h]
  cases b with
  | true => exact h2 rfl
  | false =>
    obtain ⟨e1, e2⟩ := h3 rfl
    rw [e1, e2]
    rfl
theorem orB_ff {x y : M Bool} {c : Bool} {s2 : Sto} (h : x env st = some (.ok false, s1)) (h2 : y env s1 = some (.ok c, s2)) : orB x y env st = some (.ok c, s2) := by
  unfold orB
  rw [bnd_ok h]
  exact h2
theorem notB_ok {x : M Bool} {b : Bool} (h : x env st = some (.ok b, s1)) : notB x env st = some (.ok (!b), s1) := by
  unfold notB
  rw [bnd_ok h]
  rfl
theorem andV_tt {x y : M Val} {v : Val} {s2 : Sto} (h : x env st = some (.ok (.bl true), s1)) (h2 : y env s1 = some (.ok v, s2)) : andV x y env st = some (.ok v, s2) := by
  unfold andV
  rw [bnd_ok (asB_ok h)]
  exact h2
theorem consM_ok {m : M Val} {ms : M (List Val)} {v : Val} {vs : List Val} {s2 : Sto} (h : m env st = some (.ok v, s1)) (h2 : ms env s1 = some (.ok vs, s2)) : consM m ms env st = some (.ok (v :: vs), s2) := by
  unfold consM
  rw [bnd_ok h, bnd_ok h2]
  rfl
theorem nilM_ok : nilM env st = some (.ok [], st) := rfl
theorem app_ok {f : Sto → List Val → Option Val} {ms : M (List Val)} {vs : List Val} {z : Val} (h : ms env st = some (.ok vs, s1)) (hf : f s1 vs = some z) : app f ms env st = some (.ok z, s1) := by
  unfold app
  rw [bnd_ok h]
  exact lift_ok hf
theorem callM_ok {n : Nat} {c : CF} {ds : List Val} {ms : M (List Val)} {vs : List Val} {z : Val} {s2 : Sto} (h : ms env st = some (.ok vs, s1)) (hn : (vs ++ ds).length = n) (hc : c (vs ++ ds) s1 = some (.ok z, s2)) : callM n c ds ms env st = some (.ok z, s2) := by
  unfold callM
  rw [bnd_ok h]
  show (if (vs ++ ds).length = n then c (vs ++ ds) s1 else none) = _
  rw [if_pos hn]
  exact hc
theorem callS_ret {N : Nat} {s : S} {us : List Val} {v : Val} (h : s (env0 N us) st = some (.ret v, e1, s1)) : callS N s us st = some (.ok v, s1) := by
  unfold callS
  rw [h]
theorem callS_next {N : Nat} {s : S} {us : List Val} (h : s (env0 N us) st = some (.next, e1, s1)) : callS N s us st = some (.ok .non, s1) := by
  unfold callS
  rw [h]
theorem ifV_true {c : M Bool} {x y : M Val} (h : c env st = some (.ok true, s1)) : ifV c x y env st = x env s1 := by
  unfold ifV
  rw [bnd_ok h]
  rfl
theorem ifV_false {c : M Bool} {x y : M Val} (h : c env st = some (.ok false, s1)) : ifV c x y env st = y env s1 := by
  unfold ifV
  rw [bnd_ok h]
  rfl
theorem mkTup_ok {ms : M (List Val)} {vs : List Val} (h : ms env st = some (.ok vs, s1)) (hl : vs.length ≤ LIM) : mkTup ms env st = some (.ok (.tup vs), s1) := by
  unfold mkTup
  rw [bnd_ok h]
  exact lift_ok (if_pos hl)
theorem mkLst_ok {ms : M (List Val)} {vs : List Val} (h : ms env st = some (.ok vs, s1)) (hl : vs.length ≤ LIM) : mkLst ms env st = some (.ok (.lst vs), s1) := by
  unfold mkLst
  rw [bnd_ok h]
  exact lift_ok (if_pos hl)
theorem mkLstM_ok {ms : M (List Val)} {vs : List Val} (h : ms env st = some (.ok vs, s1)) (hl : vs.length ≤ LIM) : mkLstM ms env st = some (.ok (.ref s1.length), s1 ++ [.lst vs]) := by
  unfold mkLstM
  rw [bnd_ok h]
  exact liftS_ok (if_pos hl)
theorem m1_ok {f : Sto → Val → Val → Option Val} {mo ma : M Val} {x : Str} {y z : Val} {s2 : Sto} (ha : mo env st = some (.ok (.str x), s1)) (hb : ma env s1 = some (.ok y, s2)) (hf : f s2 (.str x) y = some z) : m1 f mo ma env st = some (.ok z, s2) := by
  unfold m1
  rw [bnd_ok ha]
  show bnd (lift fun _ => strOf (.str x)) (fun _ => bnd ma fun b => lift fun st => f st (.str x) b) env s1 = _
  have h1 : (lift fun _ => strOf (.str x)) env s1 = some (.ok x, s1) := rfl
  rw [bnd_ok h1, bnd_ok hb]
  exact lift_ok hf
theorem lm_ok {f : Sto → Val → List Val → Option (Val × Sto)} {mo : M Val} {ms : M (List Val)} {x z : Val} {xs : List Val} {vs : List Val} {s2 s3 : Sto} (ha : mo env st = some (.ok x, s1)) (hl : lstOf s1 x = some xs) (hb : ms env s1 = some (.ok vs, s2)) (hf : f s2 x vs = some (z, s3)) : lm f mo ms env st = some (.ok z, s3) := by
  unfold lm
  rw [bnd_ok ha]
  have h1 : (lift fun st => isLst st x) env s1 = some (.ok (), s1) := by
    refine lift_ok ?_
    show isLst s1 x = some ()
    unfold isLst
    rw [hl]
  rw [bnd_ok h1, bnd_ok hb]
  exact liftS_ok hf
end

/-! ### == -/
theorem toD0s_ints : ∀ ns : List Int, toD0s (ns.map Val.int) = some (ns.map PyData.int)
  | [] => rfl
  | n :: ns => by
    show (match toD0 (.int n), toD0s (ns.map Val.int) with | some d, some ds => some (d :: ds) | _, _ => none) = _
    rw [toD0s_ints ns]
    rfl
theorem canAll_ints : ∀ ns : List Int, PyData.canLayAll0 (ns.map PyData.int) = true
  | [] => rfl
  | n :: ns => by
    show (PyData.canLay0 (.int n) && PyData.canLayAll0 (ns.map PyData.int)) = true
    rw [canAll_ints ns]
    rfl
theorem depth_ints : ∀ ns : List Int, PyData.depthAll (ns.map PyData.int) ≤ 1
  | [] => Nat.zero_le _
  | n :: ns => by
    have := depth_ints ns
    show max (PyData.depth (.int n)) (PyData.depthAll (ns.map PyData.int)) ≤ 1
    simp [PyData.depth]
    omega
theorem shaped_ints (ns : List Int) : SeqAt.shaped (.list (ns.map PyData.int)) = true := by
  have h := depth_ints ns
  unfold SeqAt.shaped
  show (PyData.canLayAll0 (ns.map PyData.int) && decide (PyData.depthAll (ns.map PyData.int) + 1 ≤ 64)) = true
  rw [canAll_ints]
  simp
  omega
theorem eqV_int (st : Sto) (i j : Int) : eqV st (.int i) (.int j) = some (.bl (i == j)) := rfl
theorem neV_int (st : Sto) (i j : Int) : neV st (.int i) (.int j) = some (.bl (!(i == j))) := rfl
theorem shaped_str {x : Str} (h : PyData.strOk x = true) : SeqAt.shaped (.str x) = true := by
  unfold SeqAt.shaped
  rw [Bool.and_eq_true]
  refine ⟨?_, rfl⟩
  simpa only [PyData.canLay0] using h
theorem eqV_str {st : Sto} {x y : Str} : eqV st (.str x) (.str y) = some (.bl (x == y)) := rfl
theorem neV_str {st : Sto} {x y : Str} : neV st (.str x) (.str y) = some (.bl (!(x == y))) := rfl
theorem eqV_same {st : Sto} {a b : Val} {d : PyData} (ha : toD st a = some d) (hb : toD st b = some d) (h : SeqAt.shaped d = true) : eqV st a b = some (.bl true) := by
  unfold eqV
  split
  · rename_i x y hx hy
    have e1 := strOf_is hx
    have e2 := strOf_is hy
    subst e1 e2
    cases ha
    cases hb
    simp
  unfold eqD
  rw [ha, hb]
  show (if SeqAt.shaped d = true ∧ SeqAt.shaped d = true then some (Val.bl (d.eqv d)) else none) = _
  rw [if_pos ⟨h, h⟩]
  have hc : d.canLay0 = true := (Bool.and_eq_true_iff.mp h).1
  rw [SeqAt.eqv_refl d hc]
theorem neV_same {st : Sto} {a b : Val} {d : PyData} (ha : toD st a = some d) (hb : toD st b = some d) (h : SeqAt.shaped d = true) : neV st a b = some (.bl false) := by
  unfold neV
  split
  · rename_i x y hx hy
    have e1 := strOf_is hx
    have e2 := strOf_is hy
    subst e1 e2
    cases ha
    cases hb
    simp
  unfold neD
  rw [ha, hb]
  show (if SeqAt.shaped d = true ∧ SeqAt.shaped d = true then some (Val.bl (!d.eqv d)) else none) = _
  rw [if_pos ⟨h, h⟩]
  have hc : d.canLay0 = true := (Bool.and_eq_true_iff.mp h).1
  rw [SeqAt.eqv_refl d hc]
  rfl
/-- deal[0] != [] -/
theorem neV_nil {st : Sto} {c : Nat} {ns : List Int} (h : st[c]? = some (.lst (ns.map .int))) : neV st (.ref c) (.lst []) = some (.bl (!ns.isEmpty)) := by
  have e1 : toD st (.ref c) = some (.list (ns.map PyData.int)) := by
    show (match st[c]? with | some (.lst xs) => (toD0s xs).map PyData.list | _ => none) = _
    rw [h]
    show (toD0s (ns.map Val.int)).map PyData.list = _
    rw [toD0s_ints]
    rfl
  show neD st (.ref c) (.lst []) = _
  unfold neD
  rw [e1]
  show (if SeqAt.shaped (.list (ns.map PyData.int)) = true ∧ SeqAt.shaped (.list []) = true then some (Val.bl (!(PyData.list (ns.map PyData.int)).eqv (.list []))) else none) = _
  rw [if_pos ⟨shaped_ints ns, rfl⟩]
  cases ns <;> rfl

theorem showAll_ints : ∀ {ns : List Int}, (∀ n ∈ ns, n.natAbs < 1000000) → PyData.showableAll (ns.map PyData.int) = true ∧ PyData.hasDictAll (ns.map PyData.int) = false ∧ PyData.leavesShortAll 13 (ns.map PyData.int) = true ∧ PyData.bulkAll (ns.map PyData.int) = ns.length
  | [], _ => ⟨rfl, rfl, rfl, rfl⟩
  | n :: ns, h => by
    obtain ⟨a, b, c, d⟩ := showAll_ints (ns := ns) fun m hm => h m (List.mem_cons_of_mem _ hm)
    have hn := h n List.mem_cons_self
    have h1 : n.natAbs.log2 < 1920 := by
      by_cases z : n.natAbs = 0
      · rw [z]
        decide
      · have q := (Nat.log2_lt (k := 20) z).mpr (by omega)
        omega
    refine ⟨?_, ?_, ?_, ?_⟩
    · simp only [List.map_cons, PyData.showableAll, PyData.showable, a, Bool.and_true]
      exact decide_eq_true h1
    · simp only [List.map_cons, PyData.hasDictAll, PyData.hasDict, b, Bool.or_false]
    · simp only [List.map_cons, PyData.leavesShortAll, PyData.leavesShort, c, Bool.and_true]
      exact decide_eq_true (PyData.shown_int_le (by omega))
    · simp only [List.map_cons, PyData.bulkAll, PyData.bulk, d, List.length_cons]
      omega
/-- the repr of a tuple of small numbers -/
theorem repr_ints {st : Sto} {ns : List Int} (h : ∀ n ∈ ns, n.natAbs < 1000000) (hl : ns.length ≤ 10000) : reprV st [.tup (ns.map .int)] = some (.str (PyData.shown (.tuple (ns.map .int)))) := by
  obtain ⟨a, b, c, d⟩ := showAll_ints h
  show (match (toD0s (ns.map Val.int)).map PyData.tuple with | some d => if d.showable = true ∧ d.hasDict = false ∧ d.shown.length ≤ LIM ∧ d.depth ≤ 50 then some (Val.str d.shown) else none | none => none) = _
  rw [toD0s_ints]
  dsimp only [Option.map]
  refine if_pos ⟨a, b, ?_, ?_⟩
  · have q := PyData.shown_le_bulk 13 (by decide) (.tuple (ns.map .int)) c
    have e : (PyData.tuple (ns.map .int)).bulk = ns.length := d
    rw [e] at q
    show _ ≤ 1000000
    omega
  · have q := depth_ints ns
    show PyData.depthAll (ns.map PyData.int) + 1 ≤ 50
    omega

/-! ### loops and comprehensions -/
theorem loop_inv {t : Tg} {body : S} (I : Nat → Env → Sto → Prop) : ∀ (xs : List Val) (n : Nat) {env : Env} {st : Sto}, I n env st →
    (∀ i x env st, xs[i]? = some x → I (n + i) env st → ∃ env1, bindT t x env = some env1 ∧ ∃ env2 st2, (body env1 st = some (.next, env2, st2) ∨ body env1 st = some (.cont, env2, st2)) ∧ I (n + i + 1) env2 st2) →
    ∃ env' st', loop t body xs env st = some (.next, env', st') ∧ I (n + xs.length) env' st'
  | [], n, env, st, h0, _ => ⟨env, st, rfl, h0⟩
  | x :: xs, n, env, st, h0, hs => by
    obtain ⟨env1, e1, env2, st2, eb, h1⟩ := hs 0 x env st rfl h0
    obtain ⟨env', st', e2, h2⟩ := loop_inv I xs (n + 1) (env := env2) (st := st2) h1 fun i y env st hy hI => by
      have hI' : I (n + (i + 1)) env st := by
        rw [show n + (i + 1) = n + 1 + i by omega]
        exact hI
      obtain ⟨a, b, c, d, e, f⟩ := hs (i + 1) y env st hy hI'
      refine ⟨a, b, c, d, e, ?_⟩
      rw [show n + 1 + i + 1 = n + (i + 1) + 1 by omega]
      exact f
    refine ⟨env', st', ?_, ?_⟩
    · unfold loop
      rw [e1]
      dsimp only
      rcases eb with eb | eb
      · rw [eb]
        exact e2
      · rw [eb]
        exact e2
    · rw [List.length_cons, show n + (xs.length + 1) = n + 1 + xs.length by omega]
      exact h2
theorem sFor_inv {mi : M (List Val)} {t : Tg} {body : S} (I : Nat → Env → Sto → Prop) {xs : List Val} {env : Env} {st s1 : Sto} (hm : mi env st = some (.ok xs, s1)) (h0 : I 0 env s1)
    (hs : ∀ i x env st, xs[i]? = some x → I i env st → ∃ env1, bindT t x env = some env1 ∧ ∃ env2 st2, (body env1 st = some (.next, env2, st2) ∨ body env1 st = some (.cont, env2, st2)) ∧ I (i + 1) env2 st2) :
    ∃ env' st', sFor mi t body env st = some (.next, env', st') ∧ I xs.length env' st' := by
  obtain ⟨e, s, h1, h2⟩ := loop_inv I xs 0 h0 fun i x env st hx hI => by
    have hI' : I i env st := by simpa using hI
    obtain ⟨a, b, c, d, e, f⟩ := hs i x env st hx hI'
    exact ⟨a, b, c, d, e, by simpa using f⟩
  refine ⟨e, s, ?_, by simpa using h2⟩
  unfold sFor
  rw [sBnd_ok hm]
  exact h1
theorem compLoop_pure {t : Tg} {own : List Nat} {cond : M Bool} {elt : M Val} {p : Val → Bool} {f : Val → Val} : ∀ {xs : List Val} {env : Env} {st : Sto},
    (∀ x ∈ xs, ∃ env1, bindT t x (wipeE env own) = some env1 ∧ cond env1 st = some (.ok (p x), st) ∧ (p x = true → elt env1 st = some (.ok (f x), st))) → compLoop t own cond elt xs env st = some (.ok ((xs.filter p).map f), st)
  | [], _, _, _ => rfl
  | x :: xs, env, st, h => by
    obtain ⟨env1, e1, e2, e3⟩ := h x List.mem_cons_self
    have ih := compLoop_pure (t := t) (own := own) (cond := cond) (elt := elt) (p := p) (f := f) (xs := xs) (env := env) (st := st) fun y hy => h y (List.mem_cons_of_mem _ hy)
    unfold compLoop
    rw [e1]
    dsimp only
    rw [e2]
    cases hp : p x with
    | true =>
      dsimp only
      rw [e3 hp]
      dsimp only
      rw [ih]
      rw [List.filter_cons_of_pos hp]
      rfl
    | false =>
      dsimp only
      rw [ih, List.filter_cons_of_neg (by rw [hp]; exact Bool.false_ne_true)]
theorem comp_pure {mi : M (List Val)} {t : Tg} {own : List Nat} {cond : M Bool} {elt : M Val} {p : Val → Bool} {f : Val → Val} {xs : List Val} {env : Env} {st s1 : Sto} (hm : mi env st = some (.ok xs, s1)) (hl : xs.length ≤ LIM)
    (h : ∀ x ∈ xs, ∃ env1, bindT t x (wipeE env own) = some env1 ∧ cond env1 s1 = some (.ok (p x), s1) ∧ (p x = true → elt env1 s1 = some (.ok (f x), s1))) : comp mi t own cond elt env st = some (.ok (.lst ((xs.filter p).map f)), s1) := by
  have e : compM mi t own cond elt env st = some (.ok ((xs.filter p).map f), s1) := by
    unfold compM
    rw [bnd_ok hm]
    show (if xs.length ≤ LIM then compLoop t own cond elt xs env s1 else none) = _
    rw [if_pos hl]
    exact compLoop_pure h
  unfold comp
  rw [bnd_ok e]
  rfl
theorem comp_map {mi : M (List Val)} {t : Tg} {own : List Nat} {elt : M Val} {f : Val → Val} {xs : List Val} {env : Env} {st s1 : Sto} (hm : mi env st = some (.ok xs, s1)) (hl : xs.length ≤ LIM)
    (h : ∀ x ∈ xs, ∃ env1, bindT t x (wipeE env own) = some env1 ∧ elt env1 s1 = some (.ok (f x), s1)) : comp mi t own yes elt env st = some (.ok (.lst (xs.map f)), s1) := by
  have q := comp_pure (p := fun _ => true) (cond := yes) (elt := elt) (t := t) (own := own) (f := f) hm hl fun x hx => by
    obtain ⟨e, h1, h2⟩ := h x hx
    exact ⟨e, h1, rfl, fun _ => h2⟩
  rw [List.filter_eq_self.mpr (fun _ _ => rfl)] at q
  exact q
/-- the turns change the store -/
theorem compLoop_inv {t : Tg} {own : List Nat} {elt : M Val} (I : List Val → Sto → Prop) : ∀ {xs done : List Val} {env : Env} {st : Sto}, I done st →
    (∀ done x st, x ∈ xs → I done st → ∃ env1, bindT t x (wipeE env own) = some env1 ∧ ∃ y st2, elt env1 st = some (.ok y, st2) ∧ I (done ++ [y]) st2) → ∃ ys st', compLoop t own yes elt xs env st = some (.ok ys, st') ∧ I (done ++ ys) st' ∧ ys.length = xs.length
  | [], done, env, st, h0, _ => ⟨[], st, rfl, by rw [List.append_nil]; exact h0, rfl⟩
  | x :: xs, done, env, st, h0, hs => by
    obtain ⟨env1, e1, y, st2, e2, h1⟩ := hs done x st List.mem_cons_self h0
    obtain ⟨ys, st', e3, h2, h3⟩ := compLoop_inv I (xs := xs) (env := env) h1 fun d z s hz hI => hs d z s (List.mem_cons_of_mem _ hz) hI
    refine ⟨y :: ys, st', ?_, ?_, by simp [h3]⟩
    · unfold compLoop
      rw [e1]
      dsimp only
      show (match elt env1 st with | some (.ok y, st2) => (match compLoop t own yes elt xs env st2 with | some (.ok ys, st3) => some ((.ok (y :: ys) : Except Exc (List Val)), st3) | _ => none) | _ => none) = _
      rw [e2]
      dsimp only
      rw [e3]
    · rw [List.append_assoc] at h2
      exact h2
theorem comp_inv {mi : M (List Val)} {t : Tg} {own : List Nat} {elt : M Val} (I : List Val → Sto → Prop) {xs : List Val} {env : Env} {st s1 : Sto} (hm : mi env st = some (.ok xs, s1)) (hl : xs.length ≤ LIM) (h0 : I [] s1)
    (hs : ∀ done x st, x ∈ xs → I done st → ∃ env1, bindT t x (wipeE env own) = some env1 ∧ ∃ y st2, elt env1 st = some (.ok y, st2) ∧ I (done ++ [y]) st2) : ∃ ys st', comp mi t own yes elt env st = some (.ok (.lst ys), st') ∧ I ys st' ∧ ys.length = xs.length := by
  obtain ⟨ys, st', e, h1, h2⟩ := compLoop_inv I (xs := xs) (env := env) (t := t) (own := own) (elt := elt) h0 hs
  refine ⟨ys, st', ?_, h1, h2⟩
  have e' : compM mi t own yes elt env st = some (.ok ys, st') := by
    unfold compM
    rw [bnd_ok hm]
    show (if xs.length ≤ LIM then compLoop t own yes elt xs env s1 else none) = _
    rw [if_pos hl]
    exact e
  unfold comp
  rw [bnd_ok e']
  rfl
theorem rng1_ok {ms : M (List Val)} {env : Env} {st s1 : Sto} {j : Int} (h : ms env st = some (.ok [.int j], s1)) (h0 : -(2 ^ 62) ≤ j) (h1 : j < 2 ^ 62) : rng1 ms env st = some (.ok ((List.range j.toNat).map fun (i : Nat) => .int (0 + i)), s1) := by
  unfold rng1
  rw [bnd_ok h]
  exact lift_ok (if_pos ⟨h0, h1⟩)
theorem itS_ok {m : M Val} {env : Env} {st s1 : Sto} {v : Val} {xs : List Val} (h : m env st = some (.ok v, s1)) (hv : stillOf v = some xs) : itS m env st = some (.ok xs, s1) := by
  unfold itS
  rw [bnd_ok h]
  exact lift_ok hv
theorem enumM_ok {ms : M (List Val)} {env : Env} {st s1 : Sto} {v : Val} {xs : List Val} (h : ms env st = some (.ok [v], s1)) (hv : seqStill v = some xs) : enumM ms env st = some (.ok (pairs xs), s1) := by
  unfold enumM
  rw [bnd_ok h]
  refine lift_ok ?_
  show (seqStill v).map pairs = _
  rw [hv]
  rfl
theorem loopR_inv {t : Tg} {body : S} {a n : Nat} (I : Nat → Env → Sto → Prop)
    (hs : ∀ i env st, i < n → I i env st → ∃ xs x env1, lstAt st a = some xs ∧ xs.length = n ∧ xs[i]? = some x ∧ bindT t x env = some env1 ∧ ∃ env2 st2, (body env1 st = some (.next, env2, st2) ∨ body env1 st = some (.cont, env2, st2)) ∧ I (i + 1) env2 st2)
    (hd : ∀ env st, I n env st → ∃ xs, lstAt st a = some xs ∧ xs.length = n) : ∀ (r : Nat) {env : Env} {st : Sto}, r ≤ n → I (n - r) env st → ∃ env' st', loopR t body a n r env st = some (.next, env', st') ∧ I n env' st'
  | 0, env, st, _, h => by
    obtain ⟨xs, e1, e2⟩ := hd env st h
    refine ⟨env, st, ?_, h⟩
    unfold loopR
    rw [e1]
    dsimp only
    rw [if_pos e2]
  | r + 1, env, st, hr, h => by
    obtain ⟨xs, x, env1, e1, e2, e3, e4, env2, st2, e5, h1⟩ := hs (n - (r + 1)) env st (by omega) h
    have h1' : I (n - r) env2 st2 := by
      rw [show n - r = n - (r + 1) + 1 by omega]
      exact h1
    obtain ⟨env', st', e6, h2⟩ := loopR_inv I hs hd r (by omega) h1'
    refine ⟨env', st', ?_, h2⟩
    unfold loopR
    rw [e1]
    dsimp only
    rw [if_pos e2, e3]
    dsimp only
    rw [e4]
    dsimp only
    rcases e5 with e5 | e5
    · rw [e5]
      exact e6
    · rw [e5]
      exact e6
theorem sForR_inv {m : M Val} {t : Tg} {body : S} {a : Nat} {xs0 : List Val} {env : Env} {st s1 : Sto} (I : Nat → Env → Sto → Prop) (hm : m env st = some (.ok (.ref a), s1)) (hx : lstAt s1 a = some xs0) (h0 : I 0 env s1)
    (hs : ∀ i env st, i < xs0.length → I i env st → ∃ xs x env1, lstAt st a = some xs ∧ xs.length = xs0.length ∧ xs[i]? = some x ∧ bindT t x env = some env1 ∧ ∃ env2 st2, (body env1 st = some (.next, env2, st2) ∨ body env1 st = some (.cont, env2, st2)) ∧ I (i + 1) env2 st2)
    (hd : ∀ env st, I xs0.length env st → ∃ xs, lstAt st a = some xs ∧ xs.length = xs0.length) : ∃ env' st', sForR m t body env st = some (.next, env', st') ∧ I xs0.length env' st' := by
  obtain ⟨env', st', e, h⟩ := loopR_inv I hs hd xs0.length (Nat.le_refl _) (by rw [Nat.sub_self]; exact h0)
  refine ⟨env', st', ?_, h⟩
  unfold sForR
  rw [sBnd_ok hm]
  dsimp only
  rw [hx]
  exact e
end Mi

namespace K13
open PySem PySem.Spec PyProof.Rows L2 Mi
def topS (i : Nat) : Stmt := PySem.Challenge.pw_turncalls_k13_roads_and_their_texts.main.body.getD i (.Pass ⟨0, 0, 0, 0⟩)
abbrev st_is_integer : Stmt := topS 7
theorem sc_is_integer : FnScope ["value"] ["value"] (defScope st_is_integer) := ⟨rfl, rfl, rfl, by decide +kernel, rfl, by decide +kernel, by decide +kernel⟩
abbrev st_is_sequence : Stmt := topS 8
theorem sc_is_sequence : FnScope ["value"] ["value"] (defScope st_is_sequence) := ⟨rfl, rfl, rfl, by decide +kernel, rfl, by decide +kernel, by decide +kernel⟩
abbrev st_number_in : Stmt := topS 9
theorem sc_number_in : FnScope ["word", "digit"] ["word"] (defScope st_number_in) := ⟨rfl, rfl, rfl, by decide +kernel, rfl, by decide +kernel, by decide +kernel⟩
abbrev st_need_road : Stmt := topS 11
theorem sc_need_road : FnScope ["road", "at", "leg"] ["road"] (defScope st_need_road) := ⟨rfl, rfl, rfl, by decide +kernel, rfl, by decide +kernel, by decide +kernel⟩
abbrev st_road_text : Stmt := topS 12
theorem sc_road_text : FnScope ["road", "leg"] ["road"] (defScope st_road_text) := ⟨rfl, rfl, rfl, by decide +kernel, rfl, by decide +kernel, by decide +kernel⟩
abbrev st_read_road : Stmt := topS 13
theorem sc_read_road : FnScope ["text", "found", "at", "word", "leg"] ["text"] (defScope st_read_road) := ⟨rfl, rfl, rfl, by decide +kernel, rfl, by decide +kernel, by decide +kernel⟩
abbrev st_l_deal : Stmt := topS 15
theorem sc_l_deal : FnScope ["_law_script", "_law_base", "_law_cells", "_law_stirred", "_law_cell"] ["_law_script", "_law_base"] (defScope st_l_deal) := ⟨rfl, rfl, rfl, by decide +kernel, rfl, by decide +kernel, by decide +kernel⟩
abbrev st_l_draw : Stmt := topS 16
theorem sc_l_draw : FnScope ["_law_deal_here", "_law_many", "_law_left"] ["_law_deal_here", "_law_many"] (defScope st_l_draw) := ⟨rfl, rfl, rfl, by decide +kernel, rfl, by decide +kernel, by decide +kernel⟩
abbrev st_l_pick : Stmt := topS 17
theorem sc_l_pick : FnScope ["_law_deal_here", "_law_some"] ["_law_deal_here", "_law_some"] (defScope st_l_pick) := ⟨rfl, rfl, rfl, by decide +kernel, rfl, by decide +kernel, by decide +kernel⟩
abbrev st_law : Stmt := topS 18
theorem sc_law : FnScope ["_law_script", "_law_deal_here", "_law_kept", "_law_turn", "_law_legs", "_law_due", "_law_given", "_law_k", "_law_size"] ["_law_script"] (defScope st_law) := ⟨rfl, rfl, rfl, by decide +kernel, rfl, by decide +kernel, by decide +kernel⟩
structure Ad where
  f_is_integer : Addr
  d_is_integer : FuncData
  f_is_sequence : Addr
  d_is_sequence : FuncData
  f_number_in : Addr
  d_number_in : FuncData
  f_need_road : Addr
  d_need_road : FuncData
  f_road_text : Addr
  d_road_text : FuncData
  f_read_road : Addr
  d_read_road : FuncData
  f_l_deal : Addr
  d_l_deal : FuncData
  f_l_draw : Addr
  d_l_draw : FuncData
  f_l_pick : Addr
  d_l_pick : FuncData
  f_law : Addr
  d_law : FuncData
structure Tx (k : Kx) (mg : Str → Option Value) (a : Ad) : Prop where
  F_is_integer : Fun k.K "is_integer" "is_integer" st_is_integer a.f_is_integer a.d_is_integer
  g_is_integer : mg "is_integer" = some (.ref a.f_is_integer)
  b_is_integer : Binds k.K a.d_is_integer ["value"] []
  F_is_sequence : Fun k.K "is_sequence" "is_sequence" st_is_sequence a.f_is_sequence a.d_is_sequence
  g_is_sequence : mg "is_sequence" = some (.ref a.f_is_sequence)
  b_is_sequence : Binds k.K a.d_is_sequence ["value"] []
  F_number_in : Fun k.K "number_in" "number_in" st_number_in a.f_number_in a.d_number_in
  g_number_in : mg "number_in" = some (.ref a.f_number_in)
  b_number_in : Binds k.K a.d_number_in ["word"] []
  F_need_road : Fun k.K "need_road" "need_road" st_need_road a.f_need_road a.d_need_road
  g_need_road : mg "need_road" = some (.ref a.f_need_road)
  b_need_road : Binds k.K a.d_need_road ["road"] []
  F_road_text : Fun k.K "road_text" "road_text" st_road_text a.f_road_text a.d_road_text
  g_road_text : mg "road_text" = some (.ref a.f_road_text)
  b_road_text : Binds k.K a.d_road_text ["road"] []
  F_read_road : Fun k.K "read_road" "read_road" st_read_road a.f_read_road a.d_read_road
  g_read_road : mg "read_road" = some (.ref a.f_read_road)
  b_read_road : Binds k.K a.d_read_road ["text"] []
  F_l_deal : Fun k.K "_law_deal" "_law_deal" st_l_deal a.f_l_deal a.d_l_deal
  g_l_deal : mg "_law_deal" = some (.ref a.f_l_deal)
  b_l_deal : Binds k.K a.d_l_deal ["_law_script", "_law_base"] []
  F_l_draw : Fun k.K "_law_draw" "_law_draw" st_l_draw a.f_l_draw a.d_l_draw
  g_l_draw : mg "_law_draw" = some (.ref a.f_l_draw)
  b_l_draw : Binds k.K a.d_l_draw ["_law_deal_here", "_law_many"] []
  F_l_pick : Fun k.K "_law_pick" "_law_pick" st_l_pick a.f_l_pick a.d_l_pick
  g_l_pick : mg "_law_pick" = some (.ref a.f_l_pick)
  b_l_pick : Binds k.K a.d_l_pick ["_law_deal_here", "_law_some"] []
  F_law : Fun k.K "law" "law" st_law a.f_law a.d_law
  g_law : mg "law" = some (.ref a.f_law)
  b_law : Binds k.K a.d_law ["_law_script"] []
  z_isinstance : mg "isinstance" = none
  z_bool : mg "bool" = none
  z_int : mg "int" = none
  z_list : mg "list" = none
  z_tuple : mg "tuple" = none
  z_all : mg "all" = none
  z_len : mg "len" = none
  z_enumerate : mg "enumerate" = none
  z_str : mg "str" = none
  z_abs : mg "abs" = none
  z_range : mg "range" = none
  z_repr : mg "repr" = none
  c_DIGITS : ∃ (v : V) (u : Value), mg "DIGITS" = some u ∧ RelV v u ∧ Cst k (.str "0123456789") v
  c_MOST_DIGITS : ∃ (v : V) (u : Value), mg "MOST_DIGITS" = some u ∧ RelV v u ∧ Cst k (.int 4) v
def s_is_integer : S :=
  (sRet (andV (un (isiV (isiT "int") noOwn) (var 0)) (notV (un (isiV (isiT "bool") noOwn) (var 0)))))
def c_is_integer : CF := callS 1 s_is_integer
def s_is_sequence : S :=
  (sRet (un (isiV (isiT2 "list" "tuple") noOwn) (var 0)))
def c_is_sequence : CF := callS 1 s_is_sequence
def s_number_in : S :=
  (sSeq (sIf (orB (notB (asB (chain (cmpV fun i j => decide (i < j)) (cmpV fun i j => decide (i ≤ j)) (ret (.int 0)) (app lenV (consM (var 0) nilM)) (ret (.int 4))))) (notB (asB (app allV (consM (comp (itS (var 0)) (.name 1) [1] yes (bin inVal (var 1) (ret (.str "0123456789")))) nilM))))) (sRet (ret .non)) sNext)
    (sRet (ifV (orB (asB (bin eqV (var 0) (ret (.str "0")))) (asB (bin neV (bin idxV (var 0) (ret (.int 0))) (ret (.str "0"))))) (app intV (consM (var 0) nilM)) (ret .non))))
def c_number_in : CF := callS 2 s_number_in
def s_need_road : S :=
  (sSeq (sIf (notB (asB (callM 1 c_is_sequence [] (consM (var 0) nilM)))) sStuck sNext)
    (sFor (enumM (consM (var 0) nilM)) (.tup [.name 1, .name 2]) (sIf (orB (notB (asB (callM 1 c_is_integer [] (consM (var 2) nilM)))) (asB (bin (cmpV fun i j => decide (i < j)) (var 2) (ret (.int 1))))) sStuck sNext)))
def c_need_road : CF := callS 3 s_need_road
def s_road_text : S :=
  (sSeq (sExpr (callM 1 c_need_road [] (consM (var 0) nilM)))
    (sRet (m1 joinV (ret (.str " ")) (comp (itS (var 0)) (.name 1) [1] yes (app strV (consM (var 1) nilM))))))
def c_road_text : CF := callS 2 s_road_text
def s_read_road : S :=
  (sSeq (sSet 1 (mkLstM nilM))
    (sSeq (sFor (enumM (consM (ifV (asB (bin neV (var 0) (ret (.str "")))) (m1 splitV (var 0) (ret (.str " "))) (mkLst nilM)) nilM)) (.tup [.name 2, .name 3]) (sSeq (sSet 4 (callM 1 c_number_in [] (consM (var 3) nilM)))
    (sSeq (sIf (orB (asB (bin isNV (var 4) (ret .non))) (asB (bin (cmpV fun i j => decide (i < j)) (var 4) (ret (.int 1))))) sStuck sNext)
    (sExpr (lm appendV (var 1) (consM (var 4) nilM))))))
    (sRet (app tupleV (consM (var 1) nilM)))))
def c_read_road : CF := callS 5 s_read_road
def s_l_deal : S :=
  (sSeq (sSet 2 (comp (itS (sliceM (var 0) (part (var 1)) (part (ret (.int 64))))) (.name 4) [4] yes (app absV' (consM (app intV (consM (var 4) nilM)) nilM))))
    (sSeq (sSet 3 (bin addV (ret (.int 32452843)) (bin mulV (ret (.int 23)) (var 1))))
    (sSeq (sFor (itS (var 2)) (.name 4) (sSet 3 (bin modV (app intV (consM (bin addV (bin addV (bin mulV (var 3) (ret (.int 48271))) (bin modV (app intV (consM (var 4) nilM)) (ret (.int 2147483629)))) (ret (.int 13))) nilM)) (ret (.int 2147483647)))))
    (sRet (mkLstM (consM (unS revVM (comp (itS (var 2)) (.name 4) [4] (asB (bin (cmpV fun i j => decide (j ≤ i)) (var 4) (bin powV (ret (.int 10)) (ret (.int 18))))) (var 4))) (consM (var 3) nilM)))))))
def c_l_deal : CF := callS 5 s_l_deal
def s_l_draw : S :=
  (sSeq (sWhile (andB (asB (bin neV (bin idxV (var 0) (ret (.int 0))) (mkLst nilM))) (asB (bin eqV (bin idxV (bin idxV (var 0) (ret (.int 0))) (un (fun _ a => (intOf a).map fun i => .int (-i)) (ret (.int 1)))) (ret (.int 0))))) (sExpr (lm popV (bin idxV (var 0) (ret (.int 0))) nilM)) 100)
    (sSeq (sIf (asB (bin neV (bin idxV (var 0) (ret (.int 0))) (mkLst nilM))) (sSeq (sSet 2 (lm popV (bin idxV (var 0) (ret (.int 0))) nilM))
    (sSeq (sExpr (lm appendV (bin idxV (var 0) (ret (.int 0))) (consM (bin fdivV (var 2) (var 1)) nilM)))
    (sRet (bin modV (app intV (consM (var 2) nilM)) (var 1))))) sNext)
    (sSeq (sSub (bin modV (app intV (consM (bin addV (bin mulV (bin idxV (var 0) (ret (.int 1))) (ret (.int 48271))) (ret (.int 9))) nilM)) (ret (.int 2147483647))) (var 0) (ret (.int 1)))
    (sRet (bin modV (app intV (consM (bin fdivV (bin idxV (var 0) (ret (.int 1))) (ret (.int 16))) nilM)) (var 1))))))
def c_l_draw : CF := callS 3 s_l_draw
def s_l_pick : S :=
  (sRet (bin idxV (var 1) (callM 2 c_l_draw [] (consM (var 0) (consM (app lenV (consM (var 1) nilM)) nilM)))))
def c_l_pick : CF := callS 2 s_l_pick
def s_law : S :=
  (sSeq (sSet 1 (callM 2 c_l_deal [] (consM (var 0) (consM (ret (.int 0)) nilM))))
    (sSeq (sSet 2 (mkLstM nilM))
    (sSeq (sFor (rng1 (consM (ret (.int 6)) nilM)) (.name 3) (sSeq (sSet 4 (comp (rng1 (consM (callM 2 c_l_pick [] (consM (var 1) (consM (mkLst (consM (ret (.int 0)) (consM (ret (.int 1)) (consM (ret (.int 3)) (consM (ret (.int 12)) nilM))))) nilM))) nilM)) (.name 7) [7] yes (bin addV (ret (.int 1)) (callM 2 c_l_draw [] (consM (var 1) (consM (ret (.int 20)) nilM))))))
    (sSeq (sPar 5 6 (consM (m1 joinV (ret (.str " ")) (comp (itS (var 4)) (.name 8) [8] yes (app strV (consM (var 8) nilM)))) (consM (app listV (consM (var 4) nilM)) nilM)))
    (sSeq (sIf (orB (asB (bin neV (callM 1 c_road_text [] (consM (var 6) nilM)) (var 5))) (orB (asB (bin neV (callM 1 c_road_text [] (consM (app tupleV (consM (var 4) nilM)) nilM)) (var 5))) (asB (bin neV (var 6) (var 4))))) (sRet (ret (.bl false))) sNext)
    (sSeq (sIf (asB (bin neV (app reprV (consM (callM 1 c_read_road [] (consM (var 5) nilM)) nilM)) (app reprV (consM (app tupleV (consM (var 4) nilM)) nilM)))) (sRet (ret (.bl false))) sNext)
    (sExpr (lm appendV (var 2) (consM (mkTup (consM (var 5) (consM (app tupleV (consM (var 4) nilM)) nilM))) nilM))))))))
    (sSeq (sForR (var 2) (.tup [.name 5, .name 4]) (sIf (orB (asB (bin neV (callM 1 c_read_road [] (consM (var 5) nilM)) (var 4))) (asB (bin neV (callM 1 c_road_text [] (consM (callM 1 c_read_road [] (consM (var 5) nilM)) nilM)) (var 5)))) (sRet (ret (.bl false))) sNext))
    (sRet (andV (bin eqV (callM 1 c_read_road [] (consM (ret (.str "")) nilM)) (mkTup nilM)) (andV (bin eqV (callM 1 c_road_text [] (consM (mkTup nilM) nilM)) (ret (.str ""))) (bin eqV (callM 1 c_read_road [] (consM (ret (.str "7")) nilM)) (mkTup (consM (ret (.int 7)) nilM))))))))))
def c_law : CF := callS 9 s_law
section
variable {P : Program} {w : World} {k : Kx} {mg : Str → Option Value} {base : Heap} {a : Ad}
theorem ok_is_integer (T : Tx k mg a) : FnOk P w k.K mg base (L2.CX P w) 1 a.f_is_integer a.d_is_integer ["value"] (spM k 1 c_is_integer) :=
  ok_def (j := 0) (s := s_is_integer) T.F_is_integer sc_is_integer (show c_is_integer = callS 1 s_is_integer from rfl) rfl rfl fun cdv A outer s0 H E hr => by
    have tk : Takes (cxOf (L2.CX P w) P w k.K mg base ["value"] "is_integer" (defScope st_is_integer) a.f_is_integer cdv A outer s0 H E) (fun c d _ H' => E c d H') := takes_of rfl rfl rfl rfl
    exact (ms_one (ms_ret (me_and (me_isi (.ty "int") (isiT_ok (by decide +kernel)) (fun _ _ h => nomatch h) (by rfl) T.z_isinstance (me_var 0 (pv 0)) (pe_bltn (by rfl) T.z_int (by decide +kernel) rfl)) (me_one (me_not (me_isi (.ty "bool") (isiT_ok (by decide +kernel)) (fun _ _ h => nomatch h) (by rfl) T.z_isinstance (me_var 0 (pv 0)) (pe_bltn (by rfl) T.z_bool (by decide +kernel) rfl)))))))
theorem ok_is_sequence (T : Tx k mg a) : FnOk P w k.K mg base (L2.CX P w) 1 a.f_is_sequence a.d_is_sequence ["value"] (spM k 1 c_is_sequence) :=
  ok_def (j := 0) (s := s_is_sequence) T.F_is_sequence sc_is_sequence (show c_is_sequence = callS 1 s_is_sequence from rfl) rfl rfl fun cdv A outer s0 H E hr => by
    have tk : Takes (cxOf (L2.CX P w) P w k.K mg base ["value"] "is_sequence" (defScope st_is_sequence) a.f_is_sequence cdv A outer s0 H E) (fun c d _ H' => E c d H') := takes_of rfl rfl rfl rfl
    exact (ms_one (ms_ret (me_isi2 (.ty "list") (.ty "tuple") (isiT2_ok (by decide +kernel)) (fun _ _ h => nomatch h) (by rfl) T.z_isinstance (me_var 0 (pv 0)) (pe_bltn (by rfl) T.z_list (by decide +kernel) rfl) (pe_bltn (by rfl) T.z_tuple (by decide +kernel) rfl))))
theorem ok_number_in (T : Tx k mg a) : FnOk P w k.K mg base (L2.CX P w) 1 a.f_number_in a.d_number_in ["word"] (spM k 1 c_number_in) :=
  ok_def (j := 0) (s := s_number_in) T.F_number_in sc_number_in (show c_number_in = callS 2 s_number_in from rfl) rfl rfl fun cdv A outer s0 H E hr => by
    have tk : Takes (cxOf (L2.CX P w) P w k.K mg base ["word", "digit"] "number_in" (defScope st_number_in) a.f_number_in cdv A outer s0 H E) (fun c d _ H' => E c d H') := takes_of rfl rfl rfl rfl
    exact (ms_cons (ms_if (PW.pt (mw_or (mt_not (mt_ch (cu_lt) (cu_le) me_int (me_cb (cu_len) (by rfl) T.z_len PySem.boot_len (ma_cons (me_var 0 (pv 0)) ma_nil)) (T.c_MOST_DIGITS |> fun ⟨_, _, h1, h2, h3⟩ => me_glob (by rfl) h1 h2 h3))) (mw_or1 (mt_not (mt_val (me_cb (cu_all rfl) (by rfl) T.z_all (by decide +kernel) (ma_cons (me_comp (t := (.name 1)) (own := [("digit", 1)]) (by decide) (pe_lc (own := [("digit", 1)]) (g := gT _ (.name 1)) rfl sc_number_in.nd (mi_still (me_var 0 (pv 0))) (blkOk_by (own := [("digit", 1)]) (N := ["word", "digit"]) (sc := defScope st_number_in) (by decide +kernel)) (fun _ _ _ _ _ => (pg_name (i := 1) sc_number_in.nd rfl (by first | exact Or.inl rfl | exact Or.inr rfl))) (fun _ _ _ _ _ => mts_nil) (fun _ _ _ _ _ => (me_cu (cu_in) (me_var 1 (pv 1)) (T.c_DIGITS |> fun ⟨_, _, h1, h2, h3⟩ => me_glob (by rfl) h1 h2 h3))))) ma_nil))))))) (ms_one (ms_ret me_non)) ms_nil)
      (ms_one (ms_ret (me_if (PW.pt (mw_or (mt_cu (cu_eq hr) (me_var 0 (pv 0)) me_str) (mw_or1 (mt_cu (cu_ne hr) (me_idx (me_var 0 (pv 0)) me_int (fun _ _ => rfl)) me_str)))) (me_ct (cu_int) (by rfl) T.z_int (by decide +kernel) (ma_cons (me_var 0 (pv 0)) ma_nil)) me_non))))
theorem ok_need_road (T : Tx k mg a) : FnOk P w k.K mg base (L2.CX P w) 2 a.f_need_road a.d_need_road ["road"] (spM k 1 c_need_road) :=
  ok_def (j := 1) (s := s_need_road) T.F_need_road sc_need_road (show c_need_road = callS 3 s_need_road from rfl) rfl rfl fun cdv A outer s0 H E hr => by
    have tk : Takes (cxOf (L2.CX P w) P w k.K mg base ["road", "at", "leg"] "need_road" (defScope st_need_road) a.f_need_road cdv A outer s0 H E) (fun c d _ H' => E c d H') := takes_of rfl rfl rfl rfl
    exact (ms_cons (ms_if (mt_not (mt_val (me_call (ok_is_sequence T) (hr.mono (by decide)) (by rfl) T.g_is_sequence T.F_is_sequence.kp T.b_is_sequence .nil (fun _ _ => rfl) tk (ma_cons (me_var 0 (pv 0)) ma_nil)))) (ms_one ms_never) ms_nil)
      (ms_one (ms_for (t := (.tup [.name 1, .name 2])) (passes_of rfl) rfl (mi_enum (by rfl) T.z_enumerate (ma_cons (me_var 0 (pv 0)) ma_nil)) (pg_tup rfl (pgs_cons (pg_name (i := 1) sc_need_road.nd rfl (by first | exact Or.inl rfl | exact Or.inr rfl)) (pgs_cons (pg_name (i := 2) sc_need_road.nd rfl (by first | exact Or.inl rfl | exact Or.inr rfl)) pgs_nil))) (ms_one (ms_if (PW.pt (mw_or (mt_not (mt_val (me_call (ok_is_integer T) (hr.mono (by decide)) (by rfl) T.g_is_integer T.F_is_integer.kp T.b_is_integer .nil (fun _ _ => rfl) tk (ma_cons (me_var 2 (pv 2)) ma_nil)))) (mw_or1 (mt_cu (cu_lt) (me_var 2 (pv 2)) me_int)))) (ms_one ms_never) ms_nil)))))
theorem ok_road_text (T : Tx k mg a) : FnOk P w k.K mg base (L2.CX P w) 3 a.f_road_text a.d_road_text ["road"] (spM k 1 c_road_text) :=
  ok_def (j := 2) (s := s_road_text) T.F_road_text sc_road_text (show c_road_text = callS 2 s_road_text from rfl) rfl rfl fun cdv A outer s0 H E hr => by
    have tk : Takes (cxOf (L2.CX P w) P w k.K mg base ["road", "leg"] "road_text" (defScope st_road_text) a.f_road_text cdv A outer s0 H E) (fun c d _ H' => E c d H') := takes_of rfl rfl rfl rfl
    exact (ms_cons (ms_expr (me_call (ok_need_road T) (hr.mono (by decide)) (by rfl) T.g_need_road T.F_need_road.kp T.b_need_road .nil (fun _ _ => rfl) tk (ma_cons (me_var 0 (pv 0)) ma_nil)))
      (ms_one (ms_ret (me_join me_str (me_comp (t := (.name 1)) (own := [("leg", 1)]) (by decide) (pe_lc (own := [("leg", 1)]) (g := gT _ (.name 1)) rfl sc_road_text.nd (mi_still (me_var 0 (pv 0))) (blkOk_by (own := [("leg", 1)]) (N := ["road", "leg"]) (sc := defScope st_road_text) (by decide +kernel)) (fun _ _ _ _ _ => (pg_name (i := 1) sc_road_text.nd rfl (by first | exact Or.inl rfl | exact Or.inr rfl))) (fun _ _ _ _ _ => mts_nil) (fun _ _ _ _ _ => (me_ct (cu_str) (by rfl) T.z_str (by decide +kernel) (ma_cons (me_var 1 (pv 1)) ma_nil)))))))))
theorem ok_read_road (T : Tx k mg a) : FnOk P w k.K mg base (L2.CX P w) 2 a.f_read_road a.d_read_road ["text"] (spM k 1 c_read_road) :=
  ok_def (j := 1) (s := s_read_road) T.F_read_road sc_read_road (show c_read_road = callS 5 s_read_road from rfl) rfl rfl fun cdv A outer s0 H E hr => by
    have tk : Takes (cxOf (L2.CX P w) P w k.K mg base ["text", "found", "at", "word", "leg"] "read_road" (defScope st_read_road) a.f_read_road cdv A outer s0 H E) (fun c d _ H' => E c d H') := takes_of rfl rfl rfl rfl
    exact (ms_cons (ms_set (i := 1) sc_read_road.nd rfl (by first | exact Or.inl rfl | exact Or.inr rfl) (me_lstM ma_nil))
      (ms_cons (ms_for (t := (.tup [.name 2, .name 3])) (passes_of rfl) rfl (mi_enum (by rfl) T.z_enumerate (ma_cons (me_if (mt_cu (cu_ne hr) (me_var 0 (pv 0)) me_str) (me_split (me_var 0 (pv 0)) me_str) (me_lst ma_nil)) ma_nil)) (pg_tup rfl (pgs_cons (pg_name (i := 2) sc_read_road.nd rfl (by first | exact Or.inl rfl | exact Or.inr rfl)) (pgs_cons (pg_name (i := 3) sc_read_road.nd rfl (by first | exact Or.inl rfl | exact Or.inr rfl)) pgs_nil))) (ms_cons (ms_set (i := 4) sc_read_road.nd rfl (by first | exact Or.inl rfl | exact Or.inr rfl) (me_call (ok_number_in T) (hr.mono (by decide)) (by rfl) T.g_number_in T.F_number_in.kp T.b_number_in .nil (fun _ _ => rfl) tk (ma_cons (me_var 3 (pv 3)) ma_nil)))
      (ms_cons (ms_if (PW.pt (mw_or (mt_cu (cu_is) (me_var 4 (pv 4)) me_non) (mw_or1 (mt_cu (cu_lt) (me_var 4 (pv 4)) me_int)))) (ms_one ms_never) ms_nil)
      (ms_one (ms_expr (me_append (ma := stuck) (me_var 1 (pv 1)) (ma_cons (me_var 4 (pv 4)) ma_nil) (pe_bm PySem.F.plainAttrs_list PySem.F.slot_list_append PySem.F.type_list_append mt_append (me_var 1 (pv 1)) (ma_cons (me_var 4 (pv 4)) ma_nil))))))))
      (ms_one (ms_ret (me_ct (cu_tuple) (by rfl) T.z_tuple (by decide +kernel) (ma_cons (me_var 1 (pv 1)) ma_nil))))))
theorem ok_l_deal (T : Tx k mg a) : FnOk P w k.K mg base (L2.CX P w) 1 a.f_l_deal a.d_l_deal ["_law_script", "_law_base"] (spM k 2 c_l_deal) :=
  ok_def (j := 0) (s := s_l_deal) T.F_l_deal sc_l_deal (show c_l_deal = callS 5 s_l_deal from rfl) rfl rfl fun cdv A outer s0 H E hr => by
    have tk : Takes (cxOf (L2.CX P w) P w k.K mg base ["_law_script", "_law_base", "_law_cells", "_law_stirred", "_law_cell"] "_law_deal" (defScope st_l_deal) a.f_l_deal cdv A outer s0 H E) (fun c d _ H' => E c d H') := takes_of rfl rfl rfl rfl
    exact (ms_cons (ms_comp (i := 2) (elt := .Constant .none 0 ⟨0,0,0,0⟩) (tg := .Constant .none 0 ⟨0,0,0,0⟩) (iter := .Constant .none 0 ⟨0,0,0,0⟩) (ifs := []) (scope := defScope st_l_deal) (t := (.name 4)) (own := [("_law_cell", 4)]) (by decide) (ps_setLc (i := 2) (own := [("_law_cell", 4)]) (g := gT _ (.name 4)) rfl sc_l_deal.nd rfl rfl (sw_true rfl rfl rfl (by decide +kernel)) (mi_still (me_slice (me_var 0 (pv 0)) (mo_some (me_var 1 (pv 1))) (mo_some me_int))) (blkOk_by (own := [("_law_cell", 4)]) (N := ["_law_script", "_law_base", "_law_cells", "_law_stirred", "_law_cell"]) (sc := defScope st_l_deal) (by decide +kernel)) (fun _ _ _ _ _ => (pg_name (i := 4) sc_l_deal.nd rfl (by first | exact Or.inl rfl | exact Or.inr rfl))) (fun _ _ _ _ _ => mts_nil) (fun _ _ _ _ _ => (me_cb (cu_abs) (by rfl) T.z_abs PyProof.Rows.boot_abs (ma_cons (me_ct (cu_int) (by rfl) T.z_int (by decide +kernel) (ma_cons (me_var 4 (pv 4)) ma_nil)) ma_nil)))))
      (ms_cons (ms_set (i := 3) sc_l_deal.nd rfl (by first | exact Or.inl rfl | exact Or.inr rfl) (me_add me_int (me_mul me_int (me_var 1 (pv 1)))))
      (ms_cons (ms_for (t := (.name 4)) (passes_of rfl) rfl (mi_still (me_var 2 (pv 2))) (pg_name (i := 4) sc_l_deal.nd rfl (by first | exact Or.inl rfl | exact Or.inr rfl)) (ms_one (ms_set (i := 3) sc_l_deal.nd rfl (by first | exact Or.inl rfl | exact Or.inr rfl) (me_mod (me_ct (cu_int) (by rfl) T.z_int (by decide +kernel) (ma_cons (me_add (me_add (me_mul (me_var 3 (pv 3)) me_int) (me_mod (me_ct (cu_int) (by rfl) T.z_int (by decide +kernel) (ma_cons (me_var 4 (pv 4)) ma_nil)) me_int)) me_int) ma_nil)) me_int))))
      (ms_one (ms_ret (me_lstM (ma_cons (me_revM (me_comp (t := (.name 4)) (own := [("_law_cell", 4)]) (by decide) (pe_lc (own := [("_law_cell", 4)]) (g := gT _ (.name 4)) rfl sc_l_deal.nd (mi_still (me_var 2 (pv 2))) (blkOk_by (own := [("_law_cell", 4)]) (N := ["_law_script", "_law_base", "_law_cells", "_law_stirred", "_law_cell"]) (sc := defScope st_l_deal) (by decide +kernel)) (fun _ _ _ _ _ => (pg_name (i := 4) sc_l_deal.nd rfl (by first | exact Or.inl rfl | exact Or.inr rfl))) (fun _ _ _ _ _ => pts_one (mt_cu (cu_ge) (me_var 4 (pv 4)) (me_pow me_int me_int))) (fun _ _ _ _ _ => (me_var 4 (pv 4)))))) (ma_cons (me_var 3 (pv 3)) ma_nil))))))))
theorem ok_l_draw (T : Tx k mg a) : FnOk P w k.K mg base (L2.CX P w) 1 a.f_l_draw a.d_l_draw ["_law_deal_here", "_law_many"] (spM k 2 c_l_draw) :=
  ok_def (j := 0) (s := s_l_draw) T.F_l_draw sc_l_draw (show c_l_draw = callS 3 s_l_draw from rfl) rfl rfl fun cdv A outer s0 H E hr => by
    have tk : Takes (cxOf (L2.CX P w) P w k.K mg base ["_law_deal_here", "_law_many", "_law_left"] "_law_draw" (defScope st_l_draw) a.f_l_draw cdv A outer s0 H E) (fun c d _ H' => E c d H') := takes_of rfl rfl rfl rfl
    exact (ms_cons (ms_while 100 (passes_of rfl) (PW.pt (mw_and (mt_cu (cu_ne hr) (me_idx (me_var 0 (pv 0)) me_int (fun _ _ => rfl)) (me_lst ma_nil)) (mw_and1 (mt_cu (cu_eq hr) (me_idx (me_idx (me_var 0 (pv 0)) me_int (fun _ _ => rfl)) (me_neg me_int) (fun _ _ => rfl)) me_int)))) (ms_one (ms_expr (me_pop (pe_bm0 PySem.F.plainAttrs_list PySem.F.slot_list_pop PySem.F.type_list_pop mt_pop (me_idx (me_var 0 (pv 0)) me_int (fun _ _ => rfl)))))))
      (ms_cons (ms_if (mt_cu (cu_ne hr) (me_idx (me_var 0 (pv 0)) me_int (fun _ _ => rfl)) (me_lst ma_nil)) (ms_cons (ms_set (i := 2) sc_l_draw.nd rfl (by first | exact Or.inl rfl | exact Or.inr rfl) (me_pop (pe_bm0 PySem.F.plainAttrs_list PySem.F.slot_list_pop PySem.F.type_list_pop mt_pop (me_idx (me_var 0 (pv 0)) me_int (fun _ _ => rfl)))))
      (ms_cons (ms_expr (me_append (ma := stuck) (me_idx (me_var 0 (pv 0)) me_int (fun _ _ => rfl)) (ma_cons (me_fdiv (me_var 2 (pv 2)) (me_var 1 (pv 1))) ma_nil) (pe_bm PySem.F.plainAttrs_list PySem.F.slot_list_append PySem.F.type_list_append mt_append (me_idx (me_var 0 (pv 0)) me_int (fun _ _ => rfl)) (ma_cons (me_fdiv (me_var 2 (pv 2)) (me_var 1 (pv 1))) ma_nil))))
      (ms_one (ms_ret (me_mod (me_ct (cu_int) (by rfl) T.z_int (by decide +kernel) (ma_cons (me_var 2 (pv 2)) ma_nil)) (me_var 1 (pv 1))))))) ms_nil)
      (ms_cons (ms_sub (ps_asg (me_mod (me_ct (cu_int) (by rfl) T.z_int (by decide +kernel) (ma_cons (me_add (me_mul (me_idx (me_var 0 (pv 0)) me_int (fun _ _ => rfl)) me_int) me_int) ma_nil)) me_int) (pg_sub (me_var 0 (pv 0)) me_int set_list)))
      (ms_one (ms_ret (me_mod (me_ct (cu_int) (by rfl) T.z_int (by decide +kernel) (ma_cons (me_fdiv (me_idx (me_var 0 (pv 0)) me_int (fun _ _ => rfl)) me_int) ma_nil)) (me_var 1 (pv 1))))))))
theorem ok_l_pick (T : Tx k mg a) : FnOk P w k.K mg base (L2.CX P w) 2 a.f_l_pick a.d_l_pick ["_law_deal_here", "_law_some"] (spM k 2 c_l_pick) :=
  ok_def (j := 1) (s := s_l_pick) T.F_l_pick sc_l_pick (show c_l_pick = callS 2 s_l_pick from rfl) rfl rfl fun cdv A outer s0 H E hr => by
    have tk : Takes (cxOf (L2.CX P w) P w k.K mg base ["_law_deal_here", "_law_some"] "_law_pick" (defScope st_l_pick) a.f_l_pick cdv A outer s0 H E) (fun c d _ H' => E c d H') := takes_of rfl rfl rfl rfl
    exact (ms_one (ms_ret (me_idx (me_var 1 (pv 1)) (me_call (ok_l_draw T) (hr.mono (by decide)) (by rfl) T.g_l_draw T.F_l_draw.kp T.b_l_draw .nil (fun _ _ => rfl) tk (ma_cons (me_var 0 (pv 0)) (ma_cons (me_cb (cu_len) (by rfl) T.z_len PySem.boot_len (ma_cons (me_var 1 (pv 1)) ma_nil)) ma_nil))) (fun _ _ => rfl))))
theorem law_body (T : Tx k mg a) (base : Heap) (cdv : Value) (A : Around) (outer : List PySem.Env) (s0 : Shared) (H : Hp) (E : XK) (hA : A.guards = some []) (hr : Room 3 (A.deeper (envOfC "law" (defScope st_law) s0.heap.objs.size a.f_law cdv))) :
    PSs (cxOf (L2.CX P w) P w k.K mg base ["_law_script", "_law_deal_here", "_law_kept", "_law_turn", "_law_legs", "_law_due", "_law_given", "_law_k", "_law_size"] "law" (defScope st_law) a.f_law cdv A outer s0 H E) (defBody st_law) (tS k (fun c d _ H' => E c d H') s_law) := by
    have tk : Takes (cxOf (L2.CX P w) P w k.K mg base ["_law_script", "_law_deal_here", "_law_kept", "_law_turn", "_law_legs", "_law_due", "_law_given", "_law_k", "_law_size"] "law" (defScope st_law) a.f_law cdv A outer s0 H E) (fun c d _ H' => E c d H') := takes_of rfl rfl rfl rfl
    have hG : (cxOf (L2.CX P w) P w k.K mg base ["_law_script", "_law_deal_here", "_law_kept", "_law_turn", "_law_legs", "_law_due", "_law_given", "_law_k", "_law_size"] "law" (defScope st_law) a.f_law cdv A outer s0 H E).A.guards = some [] := hA
    exact (ms_cons (ms_set (i := 1) sc_law.nd rfl (by first | exact Or.inl rfl | exact Or.inr rfl) (me_call (ok_l_deal T) (hr.mono (by decide)) (by rfl) T.g_l_deal T.F_l_deal.kp T.b_l_deal .nil (fun _ _ => rfl) tk (ma_cons (me_var 0 (pv 0)) (ma_cons me_int ma_nil))))
      (ms_cons (ms_set (i := 2) sc_law.nd rfl (by first | exact Or.inl rfl | exact Or.inr rfl) (me_lstM ma_nil))
      (ms_cons (ms_for (t := (.name 3)) (passes_of rfl) rfl (mi_range1 (pi_range1 (by rfl) T.z_range (ma_cons me_int ma_nil))) (pg_name (i := 3) sc_law.nd rfl (by first | exact Or.inl rfl | exact Or.inr rfl)) (ms_cons (ms_comp (i := 4) (elt := .Constant .none 0 ⟨0,0,0,0⟩) (tg := .Constant .none 0 ⟨0,0,0,0⟩) (iter := .Constant .none 0 ⟨0,0,0,0⟩) (ifs := []) (scope := defScope st_law) (t := (.name 7)) (own := [("_law_k", 7)]) (by decide) (ps_setLc (i := 4) (own := [("_law_k", 7)]) (g := gT _ (.name 7)) rfl sc_law.nd rfl rfl (sw_true rfl rfl rfl (by decide +kernel)) (mi_range1 (pi_range1 (by rfl) T.z_range (ma_cons (me_call (ok_l_pick T) (hr.mono (by decide)) (by rfl) T.g_l_pick T.F_l_pick.kp T.b_l_pick .nil (fun _ _ => rfl) tk (ma_cons (me_var 1 (pv 1)) (ma_cons (me_lst (ma_cons me_int (ma_cons me_int (ma_cons me_int (ma_cons me_int ma_nil))))) ma_nil))) ma_nil))) (blkOk_by (own := [("_law_k", 7)]) (N := ["_law_script", "_law_deal_here", "_law_kept", "_law_turn", "_law_legs", "_law_due", "_law_given", "_law_k", "_law_size"]) (sc := defScope st_law) (by decide +kernel)) (fun _ _ _ _ _ => (pg_name (i := 7) sc_law.nd rfl (by first | exact Or.inl rfl | exact Or.inr rfl))) (fun _ _ _ _ _ => mts_nil) (fun _ _ _ _ _ => (me_add me_int (me_call (ok_l_draw T) (hr.mono (by decide)) (by rfl) T.g_l_draw T.F_l_draw.kp T.b_l_draw .nil (fun _ _ => rfl) takes0 (ma_cons (me_var 1 (pv 1)) (ma_cons me_int ma_nil)))))))
      (ms_cons (impS (ps_par (i := 5) (j := 6) rfl sc_law.nd rfl rfl (by decide) rfl rfl (ma_cons (me_join me_str (me_comp (t := (.name 8)) (own := [("_law_size", 8)]) (by decide) (pe_lc (own := [("_law_size", 8)]) (g := gT _ (.name 8)) rfl sc_law.nd (mi_still (me_var 4 (pv 4))) (blkOk_by (own := [("_law_size", 8)]) (N := ["_law_script", "_law_deal_here", "_law_kept", "_law_turn", "_law_legs", "_law_due", "_law_given", "_law_k", "_law_size"]) (sc := defScope st_law) (by decide +kernel)) (fun _ _ _ _ _ => (pg_name (i := 8) sc_law.nd rfl (by first | exact Or.inl rfl | exact Or.inr rfl))) (fun _ _ _ _ _ => mts_nil) (fun _ _ _ _ _ => (me_ct (cu_str) (by rfl) T.z_str (by decide +kernel) (ma_cons (me_var 8 (pv 8)) ma_nil)))))) (ma_cons (me_ct (cu_list) (by rfl) T.z_list (by decide +kernel) (ma_cons (me_var 4 (pv 4)) ma_nil)) ma_nil)) (by rfl)) fun _ _ _ h => par_read h)
      (ms_cons (ms_if (PW.pt (mw_or (mt_cu (cu_ne hr) (me_call (ok_road_text T) (hr.mono (by decide)) (by rfl) T.g_road_text T.F_road_text.kp T.b_road_text .nil (fun _ _ => rfl) tk (ma_cons (me_var 6 (pv 6)) ma_nil)) (me_var 5 (pv 5))) (mw_or (mt_cu (cu_ne hr) (me_call (ok_road_text T) (hr.mono (by decide)) (by rfl) T.g_road_text T.F_road_text.kp T.b_road_text .nil (fun _ _ => rfl) tk (ma_cons (me_ct (cu_tuple) (by rfl) T.z_tuple (by decide +kernel) (ma_cons (me_var 4 (pv 4)) ma_nil)) ma_nil)) (me_var 5 (pv 5))) (mw_or1 (mt_cu (cu_ne hr) (me_var 6 (pv 6)) (me_var 4 (pv 4))))))) (ms_one (ms_ret me_bl)) ms_nil)
      (ms_cons (ms_if (mt_cu (cu_ne hr) (me_cb (cu_repr hG hr) (by rfl) T.z_repr (by decide +kernel) (ma_cons (me_call (ok_read_road T) (hr.mono (by decide)) (by rfl) T.g_read_road T.F_read_road.kp T.b_read_road .nil (fun _ _ => rfl) tk (ma_cons (me_var 5 (pv 5)) ma_nil)) ma_nil)) (me_cb (cu_repr hG hr) (by rfl) T.z_repr (by decide +kernel) (ma_cons (me_ct (cu_tuple) (by rfl) T.z_tuple (by decide +kernel) (ma_cons (me_var 4 (pv 4)) ma_nil)) ma_nil))) (ms_one (ms_ret me_bl)) ms_nil)
      (ms_one (ms_expr (me_append (ma := stuck) (me_var 2 (pv 2)) (ma_cons (me_tup (ma_cons (me_var 5 (pv 5)) (ma_cons (me_ct (cu_tuple) (by rfl) T.z_tuple (by decide +kernel) (ma_cons (me_var 4 (pv 4)) ma_nil)) ma_nil))) ma_nil) (pe_bm PySem.F.plainAttrs_list PySem.F.slot_list_append PySem.F.type_list_append mt_append (me_var 2 (pv 2)) (ma_cons (me_tup (ma_cons (me_var 5 (pv 5)) (ma_cons (me_ct (cu_tuple) (by rfl) T.z_tuple (by decide +kernel) (ma_cons (me_var 4 (pv 4)) ma_nil)) ma_nil))) ma_nil))))))))))
      (ms_cons (ms_forR (t := (.tup [.name 5, .name 4])) (passes_of rfl) rfl (me_var 2 (pv 2)) (pg_tup rfl (pgs_cons (pg_name (i := 5) sc_law.nd rfl (by first | exact Or.inl rfl | exact Or.inr rfl)) (pgs_cons (pg_name (i := 4) sc_law.nd rfl (by first | exact Or.inl rfl | exact Or.inr rfl)) pgs_nil))) (ms_one (ms_if (PW.pt (mw_or (mt_cu (cu_ne hr) (me_call (ok_read_road T) (hr.mono (by decide)) (by rfl) T.g_read_road T.F_read_road.kp T.b_read_road .nil (fun _ _ => rfl) tk (ma_cons (me_var 5 (pv 5)) ma_nil)) (me_var 4 (pv 4))) (mw_or1 (mt_cu (cu_ne hr) (me_call (ok_road_text T) (hr.mono (by decide)) (by rfl) T.g_road_text T.F_road_text.kp T.b_road_text .nil (fun _ _ => rfl) tk (ma_cons (me_call (ok_read_road T) (hr.mono (by decide)) (by rfl) T.g_read_road T.F_read_road.kp T.b_read_road .nil (fun _ _ => rfl) tk (ma_cons (me_var 5 (pv 5)) ma_nil)) ma_nil)) (me_var 5 (pv 5)))))) (ms_one (ms_ret me_bl)) ms_nil)))
      (ms_one (ms_ret (me_and (me_cu (cu_eq hr) (me_call (ok_read_road T) (hr.mono (by decide)) (by rfl) T.g_read_road T.F_read_road.kp T.b_read_road .nil (fun _ _ => rfl) tk (ma_cons me_str ma_nil)) (me_tup ma_nil)) (me_and (me_cu (cu_eq hr) (me_call (ok_road_text T) (hr.mono (by decide)) (by rfl) T.g_road_text T.F_road_text.kp T.b_road_text .nil (fun _ _ => rfl) tk (ma_cons (me_tup ma_nil) ma_nil)) me_str) (me_one (me_cu (cu_eq hr) (me_call (ok_read_road T) (hr.mono (by decide)) (by rfl) T.g_read_road T.F_read_road.kp T.b_read_road .nil (fun _ _ => rfl) tk (ma_cons me_str ma_nil)) (me_tup (ma_cons me_int ma_nil))))))))))))
end
end K13
namespace K13
open PySem Mi
open L2 (atI atI_last ixN)
/-! ### the deal -/
structure DlN (st : Sto) (D c : Nat) (ns : List Int) : Prop where
  m : ∃ m : Int, st[D]? = some (.lst [.ref c, .int m]) ∧ 0 ≤ m ∧ m < 2147483647
  hc : st[c]? = some (.lst (ns.map .int))
  ne : D ≠ c
  len : ns.length ≤ 64
def Dl (st : Sto) (D c : Nat) : Prop := ∃ ns, DlN st D c ns
def Fr (D c : Nat) (st st' : Sto) : Prop := st'.length = st.length ∧ ∀ i, i ≠ D → i ≠ c → st'[i]? = st[i]?
theorem Fr.refl {D c : Nat} {st : Sto} : Fr D c st st := ⟨rfl, fun _ _ _ => rfl⟩
theorem Fr.trans {D c : Nat} {st s1 s2 : Sto} (a : Fr D c st s1) (b : Fr D c s1 s2) : Fr D c st s2 := ⟨b.1.trans a.1, fun i h1 h2 => (b.2 i h1 h2).trans (a.2 i h1 h2)⟩
theorem at_lt {st : Sto} {i : Nat} {o : SO} (h : st[i]? = some o) : i < st.length := (List.getElem?_eq_some_iff.mp h).1
theorem DlN.put {st : Sto} {D c : Nat} {ns ns' : List Int} (h : DlN st D c ns) (hl : ns'.length ≤ 64) : DlN (st.set c (.lst (ns'.map .int))) D c ns' ∧ Fr D c st (st.set c (.lst (ns'.map .int))) := by
  obtain ⟨⟨m, h1, h2⟩, h3, h4, h5⟩ := h
  refine ⟨⟨⟨m, ?_, h2⟩, ?_, h4, hl⟩, by simp, fun i hi1 hi2 => List.getElem?_set_ne (Ne.symm hi2)⟩
  · rw [List.getElem?_set_ne (Ne.symm h4)]
    exact h1
  · rw [List.getElem?_set_self (at_lt h3)]
/-- deal[0] -/
theorem cells_ok {st : Sto} {D c : Nat} {ns : List Int} {env : Mi.Env} (h : DlN st D c ns) (he : env[0]? = some (some (.ref D))) : bin idxV (var 0) (ret (.int 0)) env st = some (.ok (.ref c), st) := by
  obtain ⟨⟨m, h1, _⟩, _⟩ := h
  refine bin_ok (x := .ref D) (y := .int 0) ?_ rfl ?_
  · unfold var
    rw [he]
  · show (match seqOf st (.ref D) with | some xs => atI xs 0 | none => none) = _
    have e : seqOf st (.ref D) = some [.ref c, .int m] := by
      show (match st[D]? with | some (.lst xs) => some xs | _ => none) = _
      rw [h1]
    rw [e]
    rfl
theorem full_ok {st : Sto} {D c : Nat} {ns : List Int} {env : Mi.Env} (h : DlN st D c ns) (he : env[0]? = some (some (.ref D))) : asB (bin neV (bin idxV (var 0) (ret (.int 0))) (mkLst nilM)) env st = some (.ok (!ns.isEmpty), st) :=
  asB_ok (bin_ok (cells_ok h he) (mkLst_ok nilM_ok (by decide)) (neV_nil h.hc))
theorem lstOf_c {st : Sto} {D c : Nat} {ns : List Int} (h : DlN st D c ns) : lstOf st (.ref c) = some (ns.map .int) := by
  show (match st[c]? with | some (.lst xs) => some xs | _ => none) = _
  rw [h.hc]
theorem last_ok {st : Sto} {D c : Nat} {ns : List Int} {z : Int} {env : Mi.Env} (h : DlN st D c (ns ++ [z])) (he : env[0]? = some (some (.ref D))) :
    bin idxV (bin idxV (var 0) (ret (.int 0))) (un (fun _ a => (intOf a).map fun i => .int (-i)) (ret (.int 1))) env st = some (.ok (.int z), st) := by
  refine bin_ok (cells_ok h he) (un_ok (x := .int 1) rfl rfl) ?_
  show (match seqOf st (.ref c) with | some xs => atI xs (-1) | none => none) = _
  have e : seqOf st (.ref c) = some ((ns ++ [z]).map .int) := lstOf_c h
  rw [e, List.map_append]
  exact atI_last _ _
theorem pop_ok {st : Sto} {D c : Nat} {ns : List Int} {z : Int} {env : Mi.Env} (h : DlN st D c (ns ++ [z])) (he : env[0]? = some (some (.ref D))) :
    lm popV (bin idxV (var 0) (ret (.int 0))) nilM env st = some (.ok (.int z), st.set c (.lst (ns.map .int))) := by
  refine lm_ok (cells_ok h he) (lstOf_c h) nilM_ok ?_
  show (match st[c]? with | some (.lst xs) => (match xs[xs.length - 1]? with | some y => some (y, st.set c (.lst xs.dropLast)) | none => none) | _ => none) = _
  rw [h.hc]
  simp
theorem sizes {ns : List Int} {z : Int} (h : (ns ++ [z]).length ≤ 64) : ns.length ≤ 64 := by
  rw [List.length_append] at h
  omega
/-- the noughts at the end go -/
theorem zeros_ok {D c : Nat} {env : Mi.Env} (he : env[0]? = some (some (.ref D))) : ∀ (n : Nat) (ns : List Int) (st : Sto), DlN st D c ns → ns.length < n →
    ∃ ns' st', sWhile (andB (asB (bin neV (bin idxV (var 0) (ret (.int 0))) (mkLst nilM))) (asB (bin eqV (bin idxV (bin idxV (var 0) (ret (.int 0))) (un (fun _ a => (intOf a).map fun i => .int (-i)) (ret (.int 1)))) (ret (.int 0))))) (sExpr (lm popV (bin idxV (var 0) (ret (.int 0))) nilM)) n env st = some (.next, env, st') ∧ DlN st' D c ns' ∧ Fr D c st st'
  | 0, ns, st, h, hl => absurd hl (Nat.not_lt_zero _)
  | n + 1, ns, st, h, hl => by
    rcases List.eq_nil_or_concat ns with e | ⟨init, z, e⟩
    · subst e
      refine ⟨[], st, ?_, h, Fr.refl⟩
      unfold sWhile
      rw [sBnd_ok (andB_ok (full_ok h he) (c := false) (s2 := st) (fun z => by cases z) fun _ => ⟨rfl, rfl⟩)]
      rfl
    · rw [List.concat_eq_append] at e
      subst e
      have full : asB (bin neV (bin idxV (var 0) (ret (.int 0))) (mkLst nilM)) env st = some (.ok true, st) := by
        rw [full_ok h he]
        cases init <;> rfl
      have test : andB (asB (bin neV (bin idxV (var 0) (ret (.int 0))) (mkLst nilM))) (asB (bin eqV (bin idxV (bin idxV (var 0) (ret (.int 0))) (un (fun _ a => (intOf a).map fun i => .int (-i)) (ret (.int 1)))) (ret (.int 0)))) env st = some (.ok (z == 0), st) :=
        andB_ok full (fun _ => asB_ok (bin_ok (last_ok h he) rfl (eqV_int st z 0))) fun z => by cases z
      unfold sWhile
      rw [sBnd_ok test]
      cases hz : (z == 0) with
      | false => exact ⟨_, st, rfl, h, Fr.refl⟩
      | true =>
        obtain ⟨h1, f1⟩ := h.put (ns' := init) (sizes h.len)
        obtain ⟨ns', st', e1, h2, f2⟩ := zeros_ok he n init _ h1 (by rw [List.length_append] at hl; simp at hl; omega)
        refine ⟨ns', st', ?_, h2, f1.trans f2⟩
        rw [if_pos rfl, sExpr_ok (pop_ok h he)]
        exact e1
theorem draw_ok {st : Sto} {D c : Nat} {k : Int} (h : Dl st D c) (h0 : 0 < k) (h1 : k < 1073741824) : ∃ r st', c_l_draw [.ref D, .int k] st = some (.ok (.int r), st') ∧ 0 ≤ r ∧ r < k ∧ Dl st' D c ∧ Fr D c st st' := by
  obtain ⟨ns, h⟩ := h
  have he : (env0 3 [.ref D, .int k])[0]? = some (some (.ref D)) := rfl
  obtain ⟨ns', s1, e1, h2, f1⟩ := zeros_ok (env := env0 3 [.ref D, .int k]) he 100 ns st h (by have := h.len; omega)
  rcases List.eq_nil_or_concat ns' with e | ⟨init, z, e⟩
  · -- no cell is left
    subst e
    obtain ⟨m, g1, g2, g3⟩ := h2.m
    have hm : ∀ {env : Mi.Env} {st : Sto} {m : Int}, env[0]? = some (some (.ref D)) → st[D]? = some (.lst [.ref c, .int m]) → bin idxV (var 0) (ret (.int 1)) env st = some (.ok (.int m), st) := fun {env st m} he hd => by
      refine bin_ok (x := .ref D) (y := .int 1) ?_ rfl ?_
      · unfold var
        rw [he]
      · show (match seqOf st (.ref D) with | some xs => atI xs 1 | none => none) = _
        have e : seqOf st (.ref D) = some [.ref c, .int m] := by
          show (match st[D]? with | some (.lst xs) => some xs | _ => none) = _
          rw [hd]
        rw [e]
        rfl
    refine ⟨(m * 48271 + 9) % 2147483647 / 16 % k, s1.set D (.lst [.ref c, .int ((m * 48271 + 9) % 2147483647)]), ?_, Int.emod_nonneg _ (by omega), Int.emod_lt_of_pos _ h0, ?_, ?_⟩
    · refine callS_ret (e1 := env0 3 [.ref D, .int k]) ?_
      unfold s_l_draw
      rw [sSeq_next e1, sSeq_next (e1 := env0 3 [.ref D, .int k]) (s1 := s1) (by rw [sIf_false (full_ok h2 he)]; rfl)]
      have small : small64 m = true := by
        unfold small64
        simp
        omega
      have step : sSub (bin modV (app intV (consM (bin addV (bin mulV (bin idxV (var 0) (ret (.int 1))) (ret (.int 48271))) (ret (.int 9))) nilM)) (ret (.int 2147483647))) (var 0) (ret (.int 1)) (env0 3 [.ref D, .int k]) s1 = some (.next, env0 3 [.ref D, .int k], s1.set D (.lst [.ref c, .int ((m * 48271 + 9) % 2147483647)])) := by
        unfold sSub
        have e2 : bin mulV (bin idxV (var 0) (ret (.int 1))) (ret (.int 48271)) (env0 3 [.ref D, .int k]) s1 = some (.ok (.int (m * 48271)), s1) := bin_ok (hm he g1) rfl (by
          show (if (small64 m || small64 48271) = true then some (Val.int (m * 48271)) else none) = _
          rw [small]
          rfl)
        rw [sBnd_ok (bin_ok (app_ok (consM_ok (bin_ok e2 rfl rfl) nilM_ok) rfl) rfl rfl)]
        rw [sBnd_ok (show (var 0) (env0 3 [.ref D, .int k]) s1 = some (.ok (.ref D), s1) from rfl), sBnd_ok (show (ret (Val.int 1)) (env0 3 [.ref D, .int k]) s1 = some (.ok (.int 1), s1) from rfl)]
        dsimp only
        rw [g1]
        rfl
      rw [sSeq_next step]
      refine sRet_ok (bin_ok (app_ok (consM_ok (bin_ok (hm he (List.getElem?_set_self (at_lt g1))) rfl (z := .int ((m * 48271 + 9) % 2147483647 / 16)) rfl) nilM_ok) rfl) rfl ?_)
      show (if 0 < k then some (Val.int ((m * 48271 + 9) % 2147483647 / 16 % k)) else none) = _
      rw [if_pos h0]
    · refine ⟨[], ⟨_, List.getElem?_set_self (at_lt g1), Int.emod_nonneg _ (by decide), Int.emod_lt_of_pos _ (by decide)⟩, ?_, h2.ne, Nat.zero_le _⟩
      rw [List.getElem?_set_ne h2.ne]
      exact h2.hc
    · refine f1.trans ⟨by simp, fun i h1 h2 => List.getElem?_set_ne (Ne.symm h1)⟩
  · rw [List.concat_eq_append] at e
    subst e
    obtain ⟨h3, f2⟩ := h2.put (ns' := init) (sizes h2.len)
    obtain ⟨h4, f3⟩ := h3.put (ns' := init ++ [z / k]) (by have := h2.len; simpa using this)
    refine ⟨z % k, _, ?_, Int.emod_nonneg _ (by omega), Int.emod_lt_of_pos _ h0, ⟨_, h4⟩, (f1.trans f2).trans f3⟩
    have full : asB (bin neV (bin idxV (var 0) (ret (.int 0))) (mkLst nilM)) (env0 3 [.ref D, .int k]) s1 = some (.ok true, s1) := by
      rw [full_ok h2 he]
      cases init <;> rfl
    refine callS_ret (e1 := [some (.ref D), some (.int k), some (.int z)]) ?_
    unfold s_l_draw
    rw [sSeq_next e1]
    refine sSeq_ret ?_
    rw [sIf_true full, sSeq_next (sSet_ok (pop_ok h2 he))]
    have he2 : ((env0 3 [.ref D, .int k]).set 2 (some (.int z)))[0]? = some (some (.ref D)) := rfl
    have app2 : lm appendV (bin idxV (var 0) (ret (.int 0))) (consM (bin fdivV (var 2) (var 1)) nilM) ((env0 3 [.ref D, .int k]).set 2 (some (.int z))) (s1.set c (.lst (init.map .int))) = some (.ok .non, (s1.set c (.lst (init.map .int))).set c (.lst ((init ++ [z / k]).map .int))) := by
      refine lm_ok (cells_ok h3 he2) (lstOf_c h3) (consM_ok (bin_ok (x := Val.int z) (y := Val.int k) (z := Val.int (z / k)) rfl rfl ?_) nilM_ok) ?_
      · show (if 0 < k ∧ k < 1073741824 then some (Val.int (z / k)) else none) = _
        rw [if_pos ⟨h0, h1⟩]
      · show (match (s1.set c (SO.lst (init.map Val.int)))[c]? with | some (.lst xs) => if xs.length < LIM then some (Val.non, (s1.set c (.lst (init.map Val.int))).set c (.lst (xs ++ [Val.int (z / k)]))) else none | _ => none) = _
        rw [h3.hc]
        dsimp only
        rw [if_pos (by rw [List.length_map]; exact Nat.lt_of_le_of_lt h3.len (by decide)), List.map_append]
        rfl
    rw [sSeq_next (sExpr_ok app2)]
    refine sRet_ok (bin_ok (app_ok (consM_ok rfl nilM_ok) rfl) rfl ?_)
    show (if 0 < k then some (Val.int (z % k)) else none) = _
    rw [if_pos h0]
end K13

namespace K13
open PySem Mi
open L2 (atI atI_last ixN)
theorem cutL_map {α β : Type} (f : α → β) (xs : List α) (lo hi : Option Int) : cutL (xs.map f) lo hi = (cutL xs lo hi).map f := by
  unfold cutL
  rw [List.length_map, ← List.map_drop, ← List.map_take]
theorem cutL_len {α : Type} (xs : List α) (lo hi : Option Int) : (cutL xs lo hi).length ≤ xs.length := by
  unfold cutL
  rw [List.length_take, List.length_drop]
  omega
def absF : Val → Val
  | .int i => .int (if i < 0 then -i else i)
  | v => v
def isBig : Val → Bool
  | .int i => decide ((10 : Int) ^ (18 : Int).toNat ≤ i)
  | _ => false
theorem abs_ints (ls : List Int) : (ls.map Val.int).map absF = (ls.map fun i => if i < 0 then -i else i).map Val.int := by
  rw [List.map_map, List.map_map]
  rfl
theorem big_ints (ls : List Int) : (ls.map Val.int).filter isBig = (ls.filter fun i => decide ((10 : Int) ^ (18 : Int).toNat ≤ i)).map Val.int := by
  rw [List.filter_map]
  rfl
theorem deal_ok {ns : List Int} {b : Int} {st : Sto} (hn : ns.length ≤ 63) (h0 : 0 ≤ b) (h1 : b ≤ 100) : ∃ st' g, c_l_deal [.rol (ns.map .int), .int b] st = some (.ok (.ref (st.length + 1)), st') ∧ st' = st ++ g ∧ g.length = 2 ∧ Dl st' (st.length + 1) st.length := by
  let ls := cutL ns (some b) (some 64)
  have hl : ls.length ≤ 63 := Nat.le_trans (cutL_len _ _ _) hn
  let cs := ls.map fun i => if i < 0 then -i else i
  have hcs : cs.length ≤ 63 := by
    show (ls.map _).length ≤ 63
    rw [List.length_map]
    exact hl
  let bs := (cs.filter fun i => decide ((10 : Int) ^ (18 : Int).toNat ≤ i)).reverse
  have hbs : bs.length ≤ 64 := by
    show (List.reverse _).length ≤ 64
    rw [List.length_reverse]
    exact Nat.le_trans (List.length_filter_le _ _) (by omega)
  -- the cells
  have e1 : comp (itS (sliceM (var 0) (part (var 1)) (part (ret (.int 64))))) (.name 4) [4] yes (app absV' (consM (app intV (consM (var 4) nilM)) nilM)) (env0 5 [.rol (ns.map .int), .int b]) st = some (.ok (.lst (cs.map .int)), st) := by
    have es : sliceM (var 0) (part (var 1)) (part (ret (.int 64))) (env0 5 [.rol (ns.map .int), .int b]) st = some (.ok (.lst (ls.map .int)), st) := by
      unfold sliceM
      rw [bnd_ok (show (var 0) (env0 5 [.rol (ns.map .int), .int b]) st = some (.ok (.rol (ns.map .int)), st) from rfl)]
      rw [bnd_ok (show (part (var 1)) (env0 5 [.rol (ns.map .int), .int b]) st = some (.ok (some b), st) from rfl)]
      rw [bnd_ok (show (part (ret (.int 64))) (env0 5 [.rol (ns.map .int), .int b]) st = some (.ok (some 64), st) from rfl)]
      refine lift_ok ?_
      show some (Val.lst (cutL (ns.map Val.int) (some b) (some 64))) = _
      rw [cutL_map]
    have q := comp_map (mi := itS (sliceM (var 0) (part (var 1)) (part (ret (.int 64))))) (t := .name 4) (own := [4]) (elt := app absV' (consM (app intV (consM (var 4) nilM)) nilM)) (f := absF) (itS_ok es (xs := ls.map .int) rfl) (by rw [List.length_map]; exact Nat.le_trans hl (by decide)) fun x hx => by
      obtain ⟨i, _, rfl⟩ := List.mem_map.mp hx
      exact ⟨_, rfl, rfl⟩
    rw [abs_ints] at q
    exact q
  -- the loop
  have e2 : ∃ m e4, 0 ≤ m ∧ m < 2147483647 ∧ sFor (itS (var 2)) (.name 4) (sSet 3 (bin modV (app intV (consM (bin addV (bin addV (bin mulV (var 3) (ret (.int 48271))) (bin modV (app intV (consM (var 4) nilM)) (ret (.int 2147483629)))) (ret (.int 13))) nilM)) (ret (.int 2147483647))))
      [some (.rol (ns.map .int)), some (.int b), some (.lst (cs.map .int)), some (.int (32452843 + 23 * b)), none] st = some (.next, [some (.rol (ns.map .int)), some (.int b), some (.lst (cs.map .int)), some (.int m), e4], st) := by
    obtain ⟨env', st', e, m, e4, z, h2, h3, h4⟩ := sFor_inv (mi := itS (var 2)) (t := .name 4) (body := sSet 3 (bin modV (app intV (consM (bin addV (bin addV (bin mulV (var 3) (ret (.int 48271))) (bin modV (app intV (consM (var 4) nilM)) (ret (.int 2147483629)))) (ret (.int 13))) nilM)) (ret (.int 2147483647))))
      (fun _ env s => ∃ m e4, env = [some (.rol (ns.map .int)), some (.int b), some (.lst (cs.map .int)), some (.int m), e4] ∧ 0 ≤ m ∧ m < 2147483647 ∧ s = st) (xs := cs.map .int) (env := [some (.rol (ns.map .int)), some (.int b), some (.lst (cs.map .int)), some (.int (32452843 + 23 * b)), none]) (st := st) (s1 := st) (itS_ok (v := .lst (cs.map .int)) rfl rfl)
      ⟨_, none, rfl, by omega, by omega, rfl⟩ fun i x env s hx ⟨m, e4, z, h2, h3, h4⟩ => by
        subst z h4
        obtain ⟨y, _, rfl⟩ := List.mem_map.mp (List.mem_of_getElem? hx)
        refine ⟨_, rfl, _, _, .inl (sSet_ok (v := .int ((m * 48271 + y % 2147483629 + 13) % 2147483647)) ?_), _, some (.int y), rfl, Int.emod_nonneg _ (by decide), Int.emod_lt_of_pos _ (by decide), rfl⟩
        have small : small64 m = true := by
          unfold small64
          simp
          omega
        refine bin_ok (app_ok (consM_ok (bin_ok (bin_ok (bin_ok (x := .int m) (y := .int 48271) (z := .int (m * 48271)) rfl rfl ?_) (bin_ok (x := .int y) (y := .int 2147483629) (z := .int (y % 2147483629)) rfl rfl rfl) rfl) rfl rfl) nilM_ok) rfl) rfl rfl
        show (if (small64 m || small64 48271) = true then some (Val.int (m * 48271)) else none) = _
        rw [small]
        rfl
    subst z h4
    exact ⟨m, e4, h2, h3, e⟩
  obtain ⟨m, e4, m0, m1, e2⟩ := e2
  -- the great ones, turned
  have e3 : comp (itS (var 2)) (.name 4) [4] (asB (bin (cmpV fun i j => decide (j ≤ i)) (var 4) (bin powV (ret (.int 10)) (ret (.int 18))))) (var 4) [some (.rol (ns.map .int)), some (.int b), some (.lst (cs.map .int)), some (.int m), e4] st
      = some (.ok (.lst ((cs.filter fun i => decide ((10 : Int) ^ (18 : Int).toNat ≤ i)).map .int)), st) := by
    have q := comp_pure (mi := itS (var 2)) (t := .name 4) (own := [4]) (cond := asB (bin (cmpV fun i j => decide (j ≤ i)) (var 4) (bin powV (ret (.int 10)) (ret (.int 18))))) (elt := var 4) (p := isBig) (f := fun v => v) (env := [some (.rol (ns.map .int)), some (.int b), some (.lst (cs.map .int)), some (.int m), e4]) (st := st) (s1 := st) (xs := cs.map .int)
      (itS_ok (v := .lst (cs.map .int)) rfl rfl) (by rw [List.length_map]; exact Nat.le_trans hcs (by decide)) fun x hx => by
        obtain ⟨i, _, rfl⟩ := List.mem_map.mp hx
        exact ⟨_, rfl, rfl, fun _ => rfl⟩
    rw [List.map_id'', big_ints] at q
    · exact q
    · exact fun _ => rfl
  refine ⟨(st ++ [.lst (bs.map .int)]) ++ [.lst [.ref st.length, .int m]], [.lst (bs.map .int)] ++ [.lst [.ref st.length, .int m]], ?_, by rw [List.append_assoc], rfl, bs, ⟨m, ?_, m0, m1⟩, ?_, by omega, hbs⟩
  · refine callS_ret (e1 := [some (.rol (ns.map .int)), some (.int b), some (.lst (cs.map .int)), some (.int m), e4]) ?_
    unfold s_l_deal
    rw [sSeq_next (sSet_ok e1)]
    rw [sSeq_next (e1 := [some (.rol (ns.map .int)), some (.int b), some (.lst (cs.map .int)), some (.int (32452843 + 23 * b)), none]) (s1 := st) (sSet_ok (v := .int (32452843 + 23 * b)) (bin_ok rfl (bin_ok (x := .int 23) (y := .int b) (z := .int (23 * b)) rfl rfl rfl) rfl))]
    rw [sSeq_next e2]
    refine sRet_ok ?_
    have e5 : unS revVM (comp (itS (var 2)) (.name 4) [4] (asB (bin (cmpV fun i j => decide (j ≤ i)) (var 4) (bin powV (ret (.int 10)) (ret (.int 18))))) (var 4)) [some (.rol (ns.map .int)), some (.int b), some (.lst (cs.map .int)), some (.int m), e4] st
        = some (.ok (.ref st.length), st ++ [.lst (bs.map .int)]) := by
      unfold unS
      rw [bnd_ok e3]
      refine liftS_ok ?_
      show some (Val.ref st.length, st ++ [SO.lst (List.reverse (List.map Val.int _))]) = _
      rw [← List.map_reverse]
    have e6 := mkLstM_ok (consM_ok e5 (consM_ok (m := var 3) (v := .int m) rfl nilM_ok)) (by show 2 ≤ LIM; decide)
    rw [e6, List.length_append]
    rfl
  · rw [List.getElem?_append_right (by simp)]
    simp
  · rw [List.getElem?_append_left (by simp), List.getElem?_append_right (Nat.le_refl _)]
    simp
end K13

namespace K13
open PySem Mi
open L2 (atI atI_last ixN)
/-- the text of a leg -/
def tx (l : Int) : Str := (toString l : String)
theorem num_ok {l : Int} {st : Sto} (h0 : 1 ≤ l) (h1 : l ≤ 20) : c_number_in [.str (tx l)] st = some (.ok (.int l), st) := by
  have h : l = 1 ∨ l = 2 ∨ l = 3 ∨ l = 4 ∨ l = 5 ∨ l = 6 ∨ l = 7 ∨ l = 8 ∨ l = 9 ∨ l = 10 ∨ l = 11 ∨ l = 12 ∨ l = 13 ∨ l = 14 ∨ l = 15 ∨ l = 16 ∨ l = 17 ∨ l = 18 ∨ l = 19 ∨ l = 20 := by omega
  rcases h with h | h | h | h | h | h | h | h | h | h | h | h | h | h | h | h | h | h | h | h <;> subst h <;> kernel_rfl
theorem tx_facts {l : Int} (h0 : 1 ≤ l) (h1 : l ≤ 20) : (tx l).length ≤ 2 ∧ (tx l).length ≠ 0 ∧ 32 ∉ TL.tl (tx l) ∧ PyData.strOk (tx l) = true ∧ strV [] [.int l] = some (.str (tx l)) := by
  have h : l = 1 ∨ l = 2 ∨ l = 3 ∨ l = 4 ∨ l = 5 ∨ l = 6 ∨ l = 7 ∨ l = 8 ∨ l = 9 ∨ l = 10 ∨ l = 11 ∨ l = 12 ∨ l = 13 ∨ l = 14 ∨ l = 15 ∨ l = 16 ∨ l = 17 ∨ l = 18 ∨ l = 19 ∨ l = 20 := by omega
  rcases h with h | h | h | h | h | h | h | h | h | h | h | h | h | h | h | h | h | h | h | h <;> subst h <;> exact ⟨by decide +kernel, by decide +kernel, by decide +kernel, by decide +kernel, by kernel_rfl⟩
def Legs (ls : List Int) : Prop := (∀ l ∈ ls, 1 ≤ l ∧ l ≤ 20) ∧ ls.length ≤ 12
/-- the text of a road -/
def rt (ls : List Int) : Str := Txt.join " " (ls.map tx)
theorem joinL_mem {S : List Nat} {p : Nat → Prop} (hS : ∀ c ∈ S, p c) : ∀ {ps : List (List Nat)}, (∀ q ∈ ps, ∀ c ∈ q, p c) → ∀ c ∈ TL.joinL S ps, p c
  | [], _, c, h => nomatch h
  | [q], hp, c, h => hp q (List.mem_singleton.mpr rfl) c h
  | q :: r :: ps, hp, c, h => by
    rcases List.mem_append.mp (show c ∈ q ++ (S ++ TL.joinL S (r :: ps)) from h) with h | h
    · exact hp q List.mem_cons_self c h
    · rcases List.mem_append.mp h with h | h
      · exact hS c h
      · exact joinL_mem hS (fun z hz => hp z (List.mem_cons_of_mem _ hz)) c h
theorem strOk_iff {x : Str} : PyData.strOk x = true ↔ ∀ c ∈ TL.tl x, c < 0x110000 := by
  unfold PyData.strOk TL.tl
  rw [Array.all_eq_true_iff_forall_mem]
  simp
theorem rt_ok {ls : List Int} (h : Legs ls) : PyData.strOk (rt ls) = true := by
  rw [strOk_iff]
  unfold rt
  rw [TL.join_eq, TL.tl_join]
  refine joinL_mem (by decide +kernel) fun q hq => ?_
  obtain ⟨z, hz, rfl⟩ := List.mem_map.mp hq
  obtain ⟨l, hl, rfl⟩ := List.mem_map.mp hz
  exact strOk_iff.mp (tx_facts (h.1 l hl).1 (h.1 l hl).2).2.2.2.1
theorem rt_split {ls : List Int} (h : Legs ls) (hn : ls ≠ []) : Txt.split (rt ls) " " = ls.map tx := by
  refine TL.split_join (s := 32) (S := []) (by decide +kernel) (by decide +kernel) (by simpa using hn) fun p hp => ?_
  obtain ⟨l, hl, rfl⟩ := List.mem_map.mp hp
  exact (tx_facts (h.1 l hl).1 (h.1 l hl).2).2.2.1
theorem rt_ne {ls : List Int} (h : Legs ls) (hn : ls ≠ []) : rt ls ≠ "" := fun e => by
  have q := rt_split h hn
  rw [e] at q
  have q2 : Txt.split (Str.ofString "") (Str.ofString " ") = [Str.ofString ""] := by decide +kernel
  rw [show Txt.split (Str.ofString "") (Str.ofString " ") = ls.map tx from q] at q2
  cases ls with
  | nil => exact hn rfl
  | cons l ls =>
    injection q2 with q3 _
    have := (tx_facts (h.1 l List.mem_cons_self).1 (h.1 l List.mem_cons_self).2).2.1
    rw [q3] at this
    exact this (by decide +kernel)
theorem sum_tx : ∀ {ls : List Int}, (∀ l ∈ ls, 1 ≤ l ∧ l ≤ 20) → ((ls.map tx).map (·.length)).sum ≤ 2 * ls.length
  | [], _ => Nat.le_refl _
  | l :: ls, h => by
    have h1 := (tx_facts (h l List.mem_cons_self).1 (h l List.mem_cons_self).2).1
    have ih := sum_tx (ls := ls) fun z hz => h z (List.mem_cons_of_mem _ hz)
    rw [List.map_cons, List.map_cons, List.sum_cons, List.length_cons]
    omega
theorem allOf_strs : ∀ ss : List Str, allOf strOf (ss.map Val.str) = some ss
  | [] => rfl
  | s :: ss => by
    rw [List.map_cons]
    unfold allOf
    rw [allOf_strs ss]
    rfl
theorem join_ok {ls : List Int} {st : Sto} (h : Legs ls) : joinV st (.str " ") (.lst ((ls.map tx).map .str)) = some (.str (rt ls)) := by
  show (match allOf strOf ((ls.map tx).map Val.str) with | some ys => if (ys.map fun y : Str => y.length).sum + ys.length * (" " : Str).length ≤ LIM then some (Val.str (Txt.join " " ys)) else none | none => none) = _
  rw [allOf_strs]
  dsimp only
  have h1 := sum_tx h.1
  have h2 := h.2
  have h3 : (" " : Str).length = 1 := by decide +kernel
  rw [if_pos (by rw [h3, List.length_map]; show _ ≤ 1000000; omega)]
  rfl
def strF : Val → Val
  | .int l => .str (tx l)
  | v => v
theorem strs_ok {ls : List Int} : (ls.map Val.int).map strF = (ls.map tx).map .str := by
  rw [List.map_map, List.map_map]
  rfl
theorem seq_ok {v : Val} {ls : List Int} {st : Sto} (hv : v = .lst (ls.map .int) ∨ v = .tup (ls.map .int)) : c_is_sequence [v] st = some (.ok (.bl true), st) := by
  rcases hv with rfl | rfl <;> rfl
theorem need_ok {v : Val} {ls : List Int} {st : Sto} (hv : v = .lst (ls.map .int) ∨ v = .tup (ls.map .int)) (h : ∀ l ∈ ls, 1 ≤ l) : c_need_road [v] st = some (.ok .non, st) := by
  have hs : seqStill v = some (ls.map .int) := by rcases hv with rfl | rfl <;> rfl
  obtain ⟨env', st', e, e2⟩ := sFor_inv (mi := enumM (consM (var 0) nilM)) (t := .tup [.name 1, .name 2]) (body := sIf (orB (notB (asB (callM 1 c_is_integer [] (consM (var 2) nilM)))) (asB (bin (cmpV fun i j => decide (i < j)) (var 2) (ret (.int 1))))) sStuck sNext)
    (fun _ env s => env.length = 3 ∧ s = st) (xs := pairs (ls.map .int)) (env := env0 3 [v]) (st := st) (s1 := st) (enumM_ok (v := v) rfl hs) ⟨rfl, rfl⟩ fun i x env s hx ⟨h1, h2⟩ => by
      subst h2
      unfold pairs at hx
      rw [List.getElem?_map, List.getElem?_zipIdx, List.getElem?_map] at hx
      cases hl : ls[i]? with
      | none =>
        rw [hl] at hx
        cases hx
      | some l =>
        rw [hl] at hx
        cases hx
        have hl1 := h l (List.mem_of_getElem? hl)
        obtain ⟨a, b, c, rfl⟩ : ∃ a b c, env = [a, b, c] := by
          match env, h1 with
          | [a, b, c], _ => exact ⟨a, b, c, rfl⟩
        refine ⟨_, rfl, _, _, .inl (sIf_false (orB_ff (notB_ok (b := true) (asB_ok (callM_ok (n := 1) (consM_ok rfl nilM_ok) rfl rfl))) ?_)), rfl, rfl⟩
        have d : decide (l < 1) = false := decide_eq_false (by omega)
        refine asB_ok (b := false) (bin_ok (x := .int l) (y := .int 1) rfl rfl ?_)
        show some (Val.bl (decide (l < 1))) = _
        rw [d]
  obtain ⟨_, e3⟩ := e2
  subst e3
  refine callS_next (e1 := env') ?_
  unfold s_need_road
  rw [sSeq_next (e1 := env0 3 [v]) (s1 := st') (by rw [sIf_false (notB_ok (b := true) (asB_ok (callM_ok (n := 1) (consM_ok rfl nilM_ok) rfl (seq_ok hv))))]; rfl)]
  exact e
theorem text_ok {v : Val} {ls : List Int} {st : Sto} (hv : v = .lst (ls.map .int) ∨ v = .tup (ls.map .int)) (h : Legs ls) : c_road_text [v] st = some (.ok (.str (rt ls)), st) := by
  refine callS_ret (e1 := env0 2 [v]) ?_
  unfold s_road_text
  rw [sSeq_next (sExpr_ok (callM_ok (n := 1) (consM_ok rfl nilM_ok) rfl (need_ok hv fun l hl => (h.1 l hl).1)))]
  refine sRet_ok (m1_ok rfl ?_ (join_ok h))
  have hs : stillOf v = some (ls.map .int) := by rcases hv with rfl | rfl <;> rfl
  have q := comp_map (mi := itS (var 0)) (t := .name 1) (own := [1]) (elt := app strV (consM (var 1) nilM)) (f := strF) (env := env0 2 [v]) (st := st) (itS_ok (v := v) rfl hs) (by rw [List.length_map]; exact Nat.le_trans h.2 (by decide)) fun x hx => by
    obtain ⟨l, hl, rfl⟩ := List.mem_map.mp hx
    exact ⟨_, rfl, app_ok (consM_ok rfl nilM_ok) (tx_facts (h.1 l hl).1 (h.1 l hl).2).2.2.2.2⟩
  rw [strs_ok] at q
  exact q
end K13

namespace K13
open PySem Mi
open L2 (atI atI_last ixN)
theorem joinL_len {S : List Nat} : ∀ ps : List (List Nat), (TL.joinL S ps).length ≤ (ps.map (·.length)).sum + ps.length * S.length
  | [] => Nat.zero_le _
  | [q] => by
    show q.length ≤ _
    rw [List.map_cons, List.sum_cons]
    omega
  | q :: r :: ps => by
    have ih := joinL_len (S := S) (r :: ps)
    show (q ++ (S ++ TL.joinL S (r :: ps))).length ≤ _
    rw [List.length_append, List.length_append, List.map_cons, List.sum_cons]
    have e : (q :: r :: ps).length * S.length = (r :: ps).length * S.length + S.length := by
      rw [List.length_cons, Nat.succ_mul]
    omega
theorem rt_len {ls : List Int} (h : Legs ls) : (rt ls).length ≤ 36 := by
  have h1 := joinL_len (S := TL.tl (Str.ofString " ")) ((ls.map tx).map TL.tl)
  have h2 := sum_tx h.1
  have h3 := h.2
  have e : (((ls.map tx).map TL.tl).map (·.length)) = (ls.map tx).map (·.length) := by
    rw [List.map_map]
    refine List.map_congr_left fun x _ => ?_
    exact (TL.len_tl x).symm
  rw [e] at h1
  have h4 : (TL.tl (Str.ofString " ")).length = 1 := by decide +kernel
  rw [h4] at h1
  simp only [List.length_map] at h1
  rw [TL.len_tl]
  unfold rt
  rw [TL.join_eq, TL.tl_join]
  have h5 : (TL.joinL (TL.tl (Str.ofString " ")) ((ls.map tx).map TL.tl)).length ≤ 36 := by omega
  exact h5
theorem read_ok {ls : List Int} {st : Sto} (h : Legs ls) : ∃ g, c_read_road [.str (rt ls)] st = some (.ok (.tup (ls.map .int)), st ++ g) := by
  refine ⟨[.lst (ls.map .int)], ?_⟩
  -- what is walked
  have ew : ∀ {a b c : Option Val} {s : Sto}, ifV (asB (bin neV (var 0) (ret (.str "")))) (m1 splitV (var 0) (ret (.str " "))) (mkLst nilM) [some (.str (rt ls)), some (.ref st.length), a, b, c] s = some (.ok (.lst ((ls.map tx).map .str)), s) := fun {a b c s} => by
    by_cases hn : ls = []
    · subst hn
      rw [ifV_false (asB_ok (b := false) (bin_ok (x := .str (rt [])) (y := .str "") rfl rfl (by kernel_rfl)))]
      exact mkLst_ok nilM_ok (by decide)
    · have e0 : (!(rt ls == Str.ofString "")) = true := by
        have := rt_ne h hn
        simpa using this
      rw [ifV_true (asB_ok (b := true) (bin_ok (x := .str (rt ls)) (y := .str "") rfl rfl (by rw [neV_str, e0])))]
      refine m1_ok (x := rt ls) (y := .str " ") rfl rfl ?_
      show (if (Str.ofString " ").length ≠ 0 ∧ (rt ls).length + 2 ≤ LIM then some (Val.lst ((Txt.split (rt ls) (Str.ofString " ")).map Val.str)) else none) = _
      have h1 := rt_len h
      rw [if_pos ⟨by decide +kernel, by show _ ≤ 1000000; omega⟩]
      have h2 := rt_split h hn
      rw [show Txt.split (rt ls) (Str.ofString " ") = ls.map tx from h2]
  obtain ⟨env', st', e, a, b, c, e1, e2⟩ := sFor_inv (mi := enumM (consM (ifV (asB (bin neV (var 0) (ret (.str "")))) (m1 splitV (var 0) (ret (.str " "))) (mkLst nilM)) nilM)) (t := .tup [.name 2, .name 3])
    (body := sSeq (sSet 4 (callM 1 c_number_in [] (consM (var 3) nilM))) (sSeq (sIf (orB (asB (bin isNV (var 4) (ret .non))) (asB (bin (cmpV fun i j => decide (i < j)) (var 4) (ret (.int 1))))) sStuck sNext) (sExpr (lm appendV (var 1) (consM (var 4) nilM)))))
    (fun i env s => ∃ a b c, env = [some (.str (rt ls)), some (.ref st.length), a, b, c] ∧ s = st ++ [.lst ((ls.take i).map .int)]) (xs := pairs ((ls.map tx).map .str)) (env := [some (.str (rt ls)), some (.ref st.length), none, none, none]) (st := st ++ [.lst []])
    (enumM_ok (consM_ok ew nilM_ok) rfl) ⟨none, none, none, rfl, rfl⟩ fun i x env s hx ⟨a, b, c, e1, e2⟩ => by
      subst e1 e2
      unfold pairs at hx
      rw [List.getElem?_map, List.getElem?_zipIdx, List.getElem?_map, List.getElem?_map] at hx
      cases hl : ls[i]? with
      | none =>
        rw [hl] at hx
        cases hx
      | some l =>
        rw [hl] at hx
        cases hx
        have hl1 := h.1 l (List.mem_of_getElem? hl)
        have d : decide (l < 1) = false := decide_eq_false (by omega)
        refine ⟨[some (.str (rt ls)), some (.ref st.length), some (.int (0 + i : Nat)), some (.str (tx l)), c], rfl, [some (.str (rt ls)), some (.ref st.length), some (.int (0 + i : Nat)), some (.str (tx l)), some (.int l)], st ++ [.lst ((ls.take (i + 1)).map .int)], .inl ?_, some (.int (0 + i : Nat)), some (.str (tx l)), some (.int l), rfl, rfl⟩
        rw [sSeq_next (sSet_ok (callM_ok (n := 1) (consM_ok (v := .str (tx l)) rfl nilM_ok) rfl (num_ok hl1.1 hl1.2)))]
        rw [sSeq_next (e1 := [some (.str (rt ls)), some (.ref st.length), some (.int (0 + i : Nat)), some (.str (tx l)), some (.int l)]) (s1 := st ++ [.lst ((ls.take i).map .int)]) (by
          rw [sIf_false (orB_ff (asB_ok (b := false) (bin_ok (x := .int l) (y := .non) rfl rfl rfl)) (asB_ok (b := false) (bin_ok (x := .int l) (y := .int 1) rfl rfl (by
            show some (Val.bl (decide (l < 1))) = _
            rw [d]))))]
          rfl)]
        have hat : (st ++ [SO.lst ((ls.take i).map Val.int)])[st.length]? = some (.lst ((ls.take i).map .int)) := by simp
        refine sExpr_ok (v := .non) (lm_ok (z := .non) (x := .ref st.length) (xs := (ls.take i).map .int) rfl ?_ (consM_ok (v := .int l) rfl nilM_ok) ?_)
        · show (match (st ++ [SO.lst ((ls.take i).map Val.int)])[st.length]? with | some (.lst xs) => some xs | _ => none) = _
          rw [hat]
        · show (match (st ++ [SO.lst ((ls.take i).map Val.int)])[st.length]? with | some (.lst xs) => if xs.length < LIM then some (Val.non, (st ++ [SO.lst ((ls.take i).map Val.int)]).set st.length (.lst (xs ++ [Val.int l]))) else none | _ => none) = _
          rw [hat]
          dsimp only
          have h3 := h.2
          rw [if_pos (by rw [List.length_map, List.length_take]; show _ < 1000000; omega)]
          have e3 : (ls.take (i + 1)).map Val.int = (ls.take i).map Val.int ++ [Val.int l] := by
            rw [List.take_add_one, hl, List.map_append]
            rfl
          rw [e3]
          simp
  have hlen : (pairs ((ls.map tx).map Val.str)).length = ls.length := by
    unfold pairs
    simp
  rw [hlen, List.take_length] at e2
  subst e1 e2
  refine callS_ret (e1 := [some (.str (rt ls)), some (.ref st.length), a, b, c]) ?_
  unfold s_read_road
  rw [sSeq_next (e1 := [some (.str (rt ls)), some (.ref st.length), none, none, none]) (s1 := st ++ [.lst []]) (sSet_ok (mkLstM_ok nilM_ok (by decide)))]
  rw [sSeq_next e]
  refine sRet_ok (app_ok (consM_ok (v := .ref st.length) rfl nilM_ok) ?_)
  show (match (st ++ [SO.lst (ls.map Val.int)])[st.length]? with | some (.lst xs) => some xs | _ => none).map Val.tup = _
  simp
end K13

namespace K13
open PySem Mi
open L2 (atI atI_last ixN)
theorem pick_ok {st : Sto} {D c : Nat} {xs : List Val} (h : Dl st D c) (h0 : 0 < xs.length) (h1 : xs.length < 1000) : ∃ x st', c_l_pick [.ref D, .lst xs] st = some (.ok x, st') ∧ x ∈ xs ∧ Dl st' D c ∧ Fr D c st st' := by
  obtain ⟨r, st', e, r0, r1, hd, hf⟩ := draw_ok (k := (xs.length : Int)) h (by omega) (by omega)
  have hr : r.toNat < xs.length := by omega
  refine ⟨xs[r.toNat], st', ?_, List.getElem_mem hr, hd, hf⟩
  refine callS_ret (e1 := env0 2 [.ref D, .lst xs]) ?_
  unfold s_l_pick
  refine sRet_ok (bin_ok (x := .lst xs) (y := .int r) rfl (callM_ok (n := 2) (consM_ok (v := .ref D) rfl (consM_ok (v := .int xs.length) rfl nilM_ok)) rfl e) ?_)
  show atI xs r = _
  unfold atI ixN
  rw [if_pos r0, if_pos r1]
  exact List.getElem?_eq_getElem hr
theorem DlN.app {st : Sto} {D c : Nat} {ns : List Int} {g : Sto} (h : DlN st D c ns) : DlN (st ++ g) D c ns := by
  obtain ⟨m, m1, m2⟩ := h.m
  exact ⟨⟨m, by rw [List.getElem?_append_left (at_lt m1)]; exact m1, m2⟩, by rw [List.getElem?_append_left (at_lt h.hc)]; exact h.hc, h.ne, h.len⟩
theorem Dl.app {st : Sto} {D c : Nat} {g : Sto} (h : Dl st D c) : Dl (st ++ g) D c := by
  obtain ⟨ns, h⟩ := h
  exact ⟨ns, h.app⟩
theorem Dl.other {st : Sto} {D c i : Nat} {o : SO} (h : Dl st D c) (h1 : i ≠ D) (h2 : i ≠ c) : Dl (st.set i o) D c := by
  obtain ⟨ns, h⟩ := h
  obtain ⟨m, m1, m2⟩ := h.m
  exact ⟨ns, ⟨m, by rw [List.getElem?_set_ne h1]; exact m1, m2⟩, by rw [List.getElem?_set_ne h2]; exact h.hc, h.ne, h.len⟩
def keptV (ls : List Int) : Val := .tup [.str (rt ls), .tup (ls.map .int)]
theorem legs_ok {env : Mi.Env} {s : Sto} (h : Dl s 1 0) (he : env[1]? = some (some (.ref 1))) (h7 : env.length = 9) : ∃ ls s', comp (rng1 (consM (callM 2 c_l_pick [] (consM (var 1) (consM (mkLst (consM (ret (.int 0)) (consM (ret (.int 1)) (consM (ret (.int 3)) (consM (ret (.int 12)) nilM))))) nilM))) nilM)) (.name 7) [7] yes (bin addV (ret (.int 1)) (callM 2 c_l_draw [] (consM (var 1) (consM (ret (.int 20)) nilM)))) env s = some (.ok (.lst (ls.map .int)), s') ∧ Legs ls ∧ Dl s' 1 0 ∧ Fr 1 0 s s' := by
  obtain ⟨x, s1, e1, hx, d1, f1⟩ := pick_ok (xs := [.int 0, .int 1, .int 3, .int 12]) h (by decide) (by decide)
  obtain ⟨j, rfl, hj0, hj⟩ : ∃ j : Int, x = .int j ∧ 0 ≤ j ∧ j ≤ 12 := by
    simp only [List.mem_cons, List.not_mem_nil, or_false] at hx
    rcases hx with rfl | rfl | rfl | rfl
    · exact ⟨_, rfl, by decide, by decide⟩
    · exact ⟨_, rfl, by decide, by decide⟩
    · exact ⟨_, rfl, by decide, by decide⟩
    · exact ⟨_, rfl, by decide, by decide⟩
  have hv : ∀ {s : Sto}, var 1 env s = some (.ok (.ref 1), s) := fun {s} => by
    unfold var
    rw [he]
  obtain ⟨ys, s2, e2, ⟨ls, q1, q2, q3, q4⟩, hl⟩ := comp_inv (mi := rng1 (consM (callM 2 c_l_pick [] (consM (var 1) (consM (mkLst (consM (ret (.int 0)) (consM (ret (.int 1)) (consM (ret (.int 3)) (consM (ret (.int 12)) nilM))))) nilM))) nilM)) (t := .name 7) (own := [7]) (elt := bin addV (ret (.int 1)) (callM 2 c_l_draw [] (consM (var 1) (consM (ret (.int 20)) nilM))))
    (fun done st => ∃ ls : List Int, done = ls.map .int ∧ (∀ l ∈ ls, 1 ≤ l ∧ l ≤ 20) ∧ Dl st 1 0 ∧ Fr 1 0 s st) (env := env) (st := s) (s1 := s1)
    (rng1_ok (consM_ok (callM_ok (n := 2) (consM_ok hv (consM_ok (mkLst_ok (consM_ok (v := .int 0) rfl (consM_ok (v := .int 1) rfl (consM_ok (v := .int 3) rfl (consM_ok (v := .int 12) rfl nilM_ok)))) (by decide)) nilM_ok)) rfl e1) nilM_ok) (by omega) (by omega))
    (by rw [List.length_map, List.length_range]; show _ ≤ 1000000; omega)
    ⟨[], rfl, (fun _ z => nomatch z), d1, f1⟩
    (fun done y st hy ⟨ls, a1, a2, a3, a4⟩ => by
      obtain ⟨r, st', b1, b2, b3, b4, b5⟩ := draw_ok (k := 20) a3 (by decide) (by decide)
      refine ⟨(wipeE env [7]).set 7 (some y), rfl, .int (1 + r), st', ?_, ls ++ [1 + r], by rw [a1, List.map_append]; rfl, ?_, b4, a4.trans b5⟩
      · refine bin_ok (x := .int 1) (y := .int r) rfl (callM_ok (n := 2) (vs := [.ref 1, .int 20]) (consM_ok ?_ (consM_ok (v := .int 20) rfl nilM_ok)) rfl b1) rfl
        show var 1 ((env.set 7 none).set 7 (some y)) st = _
        unfold var
        rw [List.getElem?_set_ne (by decide), List.getElem?_set_ne (by decide), he]
      · intro l hl
        rcases List.mem_append.mp hl with z | z
        · exact a2 l z
        · rw [List.mem_singleton.mp z]
          omega)
  refine ⟨ls, s2, by rw [e2, q1], ⟨q2, ?_⟩, q3, q4⟩
  rw [q1, List.length_map, List.length_map, List.length_range] at hl
  omega
def bodyA : S := (sSeq (sPar 5 6 (consM (m1 joinV (ret (.str " ")) (comp (itS (var 4)) (.name 8) [8] yes (app strV (consM (var 8) nilM)))) (consM (app listV (consM (var 4) nilM)) nilM)))
    (sSeq (sIf (orB (asB (bin neV (callM 1 c_road_text [] (consM (var 6) nilM)) (var 5))) (orB (asB (bin neV (callM 1 c_road_text [] (consM (app tupleV (consM (var 4) nilM)) nilM)) (var 5))) (asB (bin neV (var 6) (var 4))))) (sRet (ret (.bl false))) sNext)
    (sSeq (sIf (asB (bin neV (app reprV (consM (callM 1 c_read_road [] (consM (var 5) nilM)) nilM)) (app reprV (consM (app tupleV (consM (var 4) nilM)) nilM)))) (sRet (ret (.bl false))) sNext)
    (sExpr (lm appendV (var 2) (consM (mkTup (consM (var 5) (consM (app tupleV (consM (var 4) nilM)) nilM))) nilM))))))
theorem bodyA_ok {a b c d e : Option Val} {s : Sto} {ls : List Int} {kl : List Val} (h : Legs ls) (hk : s[2]? = some (.lst kl)) (hl : kl.length < 100) : ∃ g, bodyA [a, b, some (.ref 2), c, some (.lst (ls.map .int)), d, e, none, none] s = some (.next, [a, b, some (.ref 2), c, some (.lst (ls.map .int)), some (.str (rt ls)), some (.lst (ls.map .int)), none, none], (s ++ g).set 2 (.lst (kl ++ [keptV ls]))) := by
  obtain ⟨g, eg⟩ := read_ok (st := s) h
  have hsm : ∀ n ∈ ls, n.natAbs < 1000000 := fun n hn => by
    have := h.1 n hn
    omega
  have hll := h.2
  refine ⟨g, ?_⟩
  unfold bodyA
  rw [sSeq_next (e1 := [a, b, some (.ref 2), c, some (.lst (ls.map .int)), some (.str (rt ls)), some (.lst (ls.map .int)), none, none]) (s1 := s) (by
    unfold sPar
    rw [sBnd_ok (consM_ok (v := .str (rt ls)) (m1_ok (x := " ") (y := .lst ((ls.map tx).map .str)) rfl (by
      rw [← strs_ok]
      refine comp_map (xs := ls.map .int) (f := strF) (itS_ok (v := .lst (ls.map .int)) rfl rfl) (by rw [List.length_map]; show _ ≤ 1000000; omega) fun x hx => ?_
      obtain ⟨l, hl, rfl⟩ := List.mem_map.mp hx
      refine ⟨[a, b, some (.ref 2), c, some (.lst (ls.map .int)), d, e, none, some (.int l)], rfl, app_ok (consM_ok (v := .int l) rfl nilM_ok) ?_⟩
      exact (tx_facts (h.1 l hl).1 (h.1 l hl).2).2.2.2.2) (join_ok h)) (consM_ok (v := .lst (ls.map .int)) (app_ok (consM_ok (v := .lst (ls.map .int)) rfl nilM_ok) rfl) nilM_ok))]
    rfl)]
  have et : ∀ {env : Mi.Env}, env = [a, b, some (.ref 2), c, some (.lst (ls.map .int)), some (.str (rt ls)), some (.lst (ls.map .int)), none, none] → ∀ {s : Sto}, app tupleV (consM (var 4) nilM) env s = some (.ok (.tup (ls.map .int)), s) := fun {env} he {s} => by
    subst he
    exact app_ok (consM_ok (v := .lst (ls.map .int)) rfl nilM_ok) rfl
  rw [sSeq_next (e1 := [a, b, some (.ref 2), c, some (.lst (ls.map .int)), some (.str (rt ls)), some (.lst (ls.map .int)), none, none]) (s1 := s) (by
    rw [sIf_false (orB_ff (asB_ok (b := false) (bin_ok (y := .str (rt ls)) (callM_ok (n := 1) (consM_ok (v := .lst (ls.map .int)) rfl nilM_ok) rfl (text_ok (.inl rfl) h)) rfl (by rw [neV_str]; simp))) (orB_ff (asB_ok (b := false) (bin_ok (y := .str (rt ls)) (callM_ok (n := 1) (consM_ok (et rfl) nilM_ok) rfl (text_ok (.inr rfl) h)) rfl (by rw [neV_str]; simp))) (asB_ok (b := false) (bin_ok (x := .lst (ls.map .int)) (y := .lst (ls.map .int)) rfl rfl (neV_same (d := .list (ls.map .int)) (by show (toD0s _).map _ = _; rw [toD0s_ints]; rfl) (by show (toD0s _).map _ = _; rw [toD0s_ints]; rfl) (shaped_ints ls))))))]
    rfl)]
  rw [sSeq_next (e1 := [a, b, some (.ref 2), c, some (.lst (ls.map .int)), some (.str (rt ls)), some (.lst (ls.map .int)), none, none]) (s1 := s ++ g) (by
    rw [sIf_false (asB_ok (b := false) (bin_ok (app_ok (consM_ok (callM_ok (n := 1) (consM_ok (v := .str (rt ls)) rfl nilM_ok) rfl eg) nilM_ok) (repr_ints hsm (by omega))) (app_ok (consM_ok (et rfl) nilM_ok) (repr_ints hsm (by omega))) (by rw [neV_str]; simp)))]
    rfl)]
  have hat : (s ++ g)[2]? = some (SO.lst kl) := by
    rw [List.getElem?_append_left (at_lt hk)]
    exact hk
  refine sExpr_ok (v := .non) (lm_ok (z := .non) (x := .ref 2) (xs := kl) rfl ?_ (consM_ok (v := keptV ls) (mkTup_ok (consM_ok (v := .str (rt ls)) rfl (consM_ok (et rfl) nilM_ok)) (by show 2 ≤ 1000000; decide)) nilM_ok) ?_)
  · show (match (s ++ g)[2]? with | some (.lst xs) => some xs | _ => none) = _
    rw [hat]
  · show (match (s ++ g)[2]? with | some (.lst xs) => if xs.length < LIM then some (Val.non, (s ++ g).set 2 (.lst (xs ++ [keptV ls]))) else none | _ => none) = _
    rw [hat]
    dsimp only
    rw [if_pos (by show _ < 1000000; omega)]
end K13

namespace K13
open PySem Mi
open L2 (atI atI_last ixN)
def loop1 : S := sFor (rng1 (consM (ret (.int 6)) nilM)) (.name 3) (sSeq (sSet 4 (comp (rng1 (consM (callM 2 c_l_pick [] (consM (var 1) (consM (mkLst (consM (ret (.int 0)) (consM (ret (.int 1)) (consM (ret (.int 3)) (consM (ret (.int 12)) nilM))))) nilM))) nilM)) (.name 7) [7] yes (bin addV (ret (.int 1)) (callM 2 c_l_draw [] (consM (var 1) (consM (ret (.int 20)) nilM)))))) bodyA)
theorem loop1_ok {v : Val} {s : Sto} (h : Dl s 1 0) (hk : s[2]? = some (.lst [])) : ∃ a b c d s', ∃ kl : List (List Int), loop1 [some v, some (.ref 1), some (.ref 2), none, none, none, none, none, none] s = some (.next, [some v, some (.ref 1), some (.ref 2), a, b, c, d, none, none], s') ∧ s'[2]? = some (.lst (kl.map keptV)) ∧ (∀ ls ∈ kl, Legs ls) ∧ kl.length = 6 := by
  obtain ⟨env', s', e, a, b, c, d, kl, e1, e2, e3, e4, e5⟩ := sFor_inv (mi := rng1 (consM (ret (.int 6)) nilM)) (t := .name 3) (body := sSeq (sSet 4 (comp (rng1 (consM (callM 2 c_l_pick [] (consM (var 1) (consM (mkLst (consM (ret (.int 0)) (consM (ret (.int 1)) (consM (ret (.int 3)) (consM (ret (.int 12)) nilM))))) nilM))) nilM)) (.name 7) [7] yes (bin addV (ret (.int 1)) (callM 2 c_l_draw [] (consM (var 1) (consM (ret (.int 20)) nilM)))))) bodyA)
    (fun i env s => ∃ a b c d, ∃ kl : List (List Int), env = [some v, some (.ref 1), some (.ref 2), a, b, c, d, none, none] ∧ Dl s 1 0 ∧ s[2]? = some (.lst (kl.map keptV)) ∧ (∀ ls ∈ kl, Legs ls) ∧ kl.length = i) (env := [some v, some (.ref 1), some (.ref 2), none, none, none, none, none, none]) (st := s)
    (rng1_ok (j := 6) (consM_ok (v := .int 6) rfl nilM_ok) (by decide) (by decide)) ⟨none, none, none, none, [], rfl, h, hk, (fun _ z => nomatch z), rfl⟩ fun i x env s hx ⟨a, b, c, d, kl, e1, e2, e3, e4, e5⟩ => by
      subst e1
      have hi : i < 6 := by
        have := (List.getElem?_eq_some_iff.mp hx).1
        rwa [List.length_map, List.length_range] at this
      obtain ⟨ls, s1, q1, q2, q3, q4⟩ := legs_ok (env := [some v, some (.ref 1), some (.ref 2), some x, b, c, d, none, none]) e2 rfl rfl
      have hk1 : s1[2]? = some (.lst (kl.map keptV)) := by
        rw [q4.2 2 (by decide) (by decide)]
        exact e3
      obtain ⟨g, q5⟩ := bodyA_ok (a := some v) (b := some (.ref 1)) (c := some x) (d := c) (e := d) q2 hk1 (by rw [List.length_map]; omega)
      refine ⟨[some v, some (.ref 1), some (.ref 2), some x, b, c, d, none, none], rfl, [some v, some (.ref 1), some (.ref 2), some x, some (.lst (ls.map .int)), some (.str (rt ls)), some (.lst (ls.map .int)), none, none], (s1 ++ g).set 2 (.lst (kl.map keptV ++ [keptV ls])), .inl ?_, some x, some (.lst (ls.map .int)), some (.str (rt ls)), some (.lst (ls.map .int)), kl ++ [ls], rfl, (q3.app).other (by decide) (by decide), ?_, ?_, ?_⟩
      · rw [sSeq_next (sSet_ok q1)]
        exact q5
      · rw [List.getElem?_set_self (by rw [List.length_append]; have := at_lt hk1; omega), List.map_append]
        rfl
      · intro l hl
        rcases List.mem_append.mp hl with z | z
        · exact e4 l z
        · rw [List.mem_singleton.mp z]
          exact q2
      · rw [List.length_append, e5]
        rfl
  refine ⟨a, b, c, d, s', kl, ?_, e3, e4, ?_⟩
  · rw [← e1]
    exact e
  · rw [e5, List.length_map, List.length_range]
    rfl
def loop2 : S := sForR (var 2) (.tup [.name 5, .name 4]) (sIf (orB (asB (bin neV (callM 1 c_read_road [] (consM (var 5) nilM)) (var 4))) (asB (bin neV (callM 1 c_road_text [] (consM (callM 1 c_read_road [] (consM (var 5) nilM)) nilM)) (var 5)))) (sRet (ret (.bl false))) sNext)
theorem shaped_tints (ns : List Int) : SeqAt.shaped (.tuple (ns.map PyData.int)) = true := shaped_ints ns
theorem loop2_ok {v w : Option Val} {a b c d : Option Val} {s : Sto} {kl : List (List Int)} (hk : s[2]? = some (.lst (kl.map keptV))) (hl : ∀ ls ∈ kl, Legs ls) : ∃ b' c' s', loop2 [v, w, some (.ref 2), a, b, c, d, none, none] s = some (.next, [v, w, some (.ref 2), a, b', c', d, none, none], s') := by
  obtain ⟨env', s', e, b', c', e1, e2⟩ := sForR_inv (m := var 2) (t := .tup [.name 5, .name 4]) (body := sIf (orB (asB (bin neV (callM 1 c_read_road [] (consM (var 5) nilM)) (var 4))) (asB (bin neV (callM 1 c_road_text [] (consM (callM 1 c_read_road [] (consM (var 5) nilM)) nilM)) (var 5)))) (sRet (ret (.bl false))) sNext) (a := 2) (xs0 := kl.map keptV) (env := [v, w, some (.ref 2), a, b, c, d, none, none]) (st := s) (s1 := s)
    (fun i env s => ∃ b c, env = [v, w, some (.ref 2), a, b, c, d, none, none] ∧ s[2]? = some (.lst (kl.map keptV))) rfl (by unfold lstAt; rw [hk]) ⟨b, c, rfl, hk⟩
    (fun i env s hi ⟨b, c, e1, e2⟩ => by
      subst e1
      rw [List.length_map] at hi
      have hq := hl (kl[i]) (List.getElem_mem hi)
      generalize hls : kl[i] = ls at hq
      obtain ⟨g1, q1⟩ := read_ok (st := s) hq
      obtain ⟨g2, q2⟩ := read_ok (st := s ++ g1) hq
      refine ⟨kl.map keptV, keptV ls, [v, w, some (.ref 2), a, some (.tup (ls.map .int)), some (.str (rt ls)), d, none, none], by unfold lstAt; rw [e2], rfl, ?_, rfl, [v, w, some (.ref 2), a, some (.tup (ls.map .int)), some (.str (rt ls)), d, none, none], s ++ g1 ++ g2, .inl ?_, some (.tup (ls.map .int)), some (.str (rt ls)), rfl, ?_⟩
      · rw [List.getElem?_map, List.getElem?_eq_getElem hi, hls]
        rfl
      · have hd : ∀ {s : Sto}, toD s (.tup (ls.map .int)) = some (.tuple (ls.map .int)) := fun {s} => by
          show (toD0s _).map _ = _
          rw [toD0s_ints]
          rfl
        rw [sIf_false (orB_ff (asB_ok (b := false) (bin_ok (y := .tup (ls.map .int)) (callM_ok (n := 1) (consM_ok (v := .str (rt ls)) rfl nilM_ok) rfl q1) rfl (neV_same hd hd (shaped_tints ls)))) (asB_ok (b := false) (bin_ok (y := .str (rt ls)) (callM_ok (n := 1) (consM_ok (callM_ok (n := 1) (consM_ok (v := .str (rt ls)) rfl nilM_ok) rfl q2) nilM_ok) rfl (text_ok (.inr rfl) hq)) rfl (by rw [neV_str]; simp))))]
        rfl
      · rw [List.append_assoc, List.getElem?_append_left (at_lt e2)]
        exact e2)
    (fun env s ⟨b, c, e1, e2⟩ => ⟨kl.map keptV, by unfold lstAt; rw [e2], rfl⟩)
  exact ⟨b', c', s', by rw [← e1]; exact e⟩
theorem main : ∀ ns : List Int, ns.length ≤ 63 → (∀ i ∈ ns, Builtin.Int.intBits i ≤ 1048576) → ∃ env st', s_law (env0 9 [.rol (ns.map .int)]) [] = some (.ret (.bl true), env, st') := fun ns hn _ => by
  obtain ⟨s1, g, q1, q2, q2', q3⟩ := deal_ok (ns := ns) (b := 0) (st := []) hn (by decide) (by decide)
  have hlen : s1.length = 2 := by
    rw [q2, List.nil_append]
    exact q2'
  have hk : (s1 ++ [SO.lst []])[2]? = some (.lst []) := by
    rw [← hlen, List.getElem?_append_right (Nat.le_refl _), Nat.sub_self]
    rfl
  obtain ⟨a, b, c, d, s2, kl, q4, q5, q6, q7⟩ := loop1_ok (v := .rol (ns.map .int)) (s := s1 ++ [.lst []]) q3.app hk
  obtain ⟨b', c', s3, q8⟩ := loop2_ok (v := some (.rol (ns.map .int))) (w := some (.ref 1)) (a := a) (b := b) (c := c) (d := d) q5 q6
  obtain ⟨g1, q9⟩ := read_ok (st := s3) (ls := []) ⟨(fun _ z => nomatch z), by decide⟩
  obtain ⟨g2, q10⟩ := read_ok (st := s3 ++ g1) (ls := [7]) ⟨by decide, by decide⟩
  have q11 := text_ok (st := s3 ++ g1) (v := .tup []) (ls := []) (.inr rfl) ⟨(fun _ z => nomatch z), by decide⟩
  rw [show rt [] = "" by kernel_rfl] at q9 q11
  rw [show rt [7] = "7" by kernel_rfl] at q10
  refine ⟨[some (.rol (ns.map .int)), some (.ref 1), some (.ref 2), a, b', c', d, none, none], s3 ++ g1 ++ g2, ?_⟩
  unfold s_law
  rw [sSeq_next (e1 := [some (.rol (ns.map .int)), some (.ref 1), none, none, none, none, none, none, none]) (s1 := s1) (sSet_ok (callM_ok (n := 2) (consM_ok (v := .rol (ns.map .int)) rfl (consM_ok (v := .int 0) rfl nilM_ok)) rfl q1))]
  rw [sSeq_next (e1 := [some (.rol (ns.map .int)), some (.ref 1), some (.ref 2), none, none, none, none, none, none]) (s1 := s1 ++ [.lst []]) (by
    have := sSet_ok (i := 2) (env := [some (.rol (ns.map .int)), some (.ref 1), none, none, none, none, none, none, none]) (mkLstM_ok (env := [some (.rol (ns.map .int)), some (.ref 1), none, none, none, none, none, none, none]) (st := s1) nilM_ok (by decide))
    rw [hlen] at this
    exact this)]
  refine (sSeq_next q4).trans ((sSeq_next q8).trans ?_)
  refine sRet_ok (andV_tt (bin_ok (callM_ok (n := 1) (consM_ok (v := .str "") rfl nilM_ok) rfl q9) (mkTup_ok nilM_ok (by decide)) rfl) (andV_tt (bin_ok (callM_ok (n := 1) (consM_ok (mkTup_ok nilM_ok (by decide)) nilM_ok) rfl q11) (y := .str "") rfl rfl) (bin_ok (callM_ok (n := 1) (consM_ok (v := .str "7") rfl nilM_ok) rfl q10) (mkTup_ok (consM_ok (v := .int 7) rfl nilM_ok) (by decide)) rfl)))
end K13

namespace K13
open PySem PySem.Spec PyProof.Rows L2 Mi
theorem all_mk {P : Program} {w : World} {K : PySem.W.Frag} {h : Heap} {mg : Str → Option Value} {fa : Addr} (X : K.In h) (G : h.Ns mainGlobals mg) (hfa : mg "law" = some (.ref fa))
    {f1 : Addr} {oc1 kV1 dc1 pm1 cd1 ct1 : Value} {od1 an1 : Option Addr} {sl1 : Array (Option Value)}
    (a1 : PySem.W.nsIn K mainGlobals "is_integer" = some (some (.ref f1))) (l1 : K.lookup f1 = some ⟨oc1, od1, .func (PySem.W.fnOf "is_integer" "is_integer" (defArgs st_is_integer) (defBody st_is_integer) (defScope st_is_integer) .none kV1 dc1 pm1 an1 cd1 ct1), sl1⟩) (c1 : PySem.W.codeIn K cd1 "is_integer" = true) (k1 : PySem.W.keepIn K (.ref f1) = true)
    {f2 : Addr} {oc2 kV2 dc2 pm2 cd2 ct2 : Value} {od2 an2 : Option Addr} {sl2 : Array (Option Value)}
    (a2 : PySem.W.nsIn K mainGlobals "is_sequence" = some (some (.ref f2))) (l2 : K.lookup f2 = some ⟨oc2, od2, .func (PySem.W.fnOf "is_sequence" "is_sequence" (defArgs st_is_sequence) (defBody st_is_sequence) (defScope st_is_sequence) .none kV2 dc2 pm2 an2 cd2 ct2), sl2⟩) (c2 : PySem.W.codeIn K cd2 "is_sequence" = true) (k2 : PySem.W.keepIn K (.ref f2) = true)
    {f3 : Addr} {oc3 kV3 dc3 pm3 cd3 ct3 : Value} {od3 an3 : Option Addr} {sl3 : Array (Option Value)}
    (a3 : PySem.W.nsIn K mainGlobals "number_in" = some (some (.ref f3))) (l3 : K.lookup f3 = some ⟨oc3, od3, .func (PySem.W.fnOf "number_in" "number_in" (defArgs st_number_in) (defBody st_number_in) (defScope st_number_in) .none kV3 dc3 pm3 an3 cd3 ct3), sl3⟩) (c3 : PySem.W.codeIn K cd3 "number_in" = true) (k3 : PySem.W.keepIn K (.ref f3) = true)
    {f4 : Addr} {oc4 kV4 dc4 pm4 cd4 ct4 : Value} {od4 an4 : Option Addr} {sl4 : Array (Option Value)}
    (a4 : PySem.W.nsIn K mainGlobals "need_road" = some (some (.ref f4))) (l4 : K.lookup f4 = some ⟨oc4, od4, .func (PySem.W.fnOf "need_road" "need_road" (defArgs st_need_road) (defBody st_need_road) (defScope st_need_road) .none kV4 dc4 pm4 an4 cd4 ct4), sl4⟩) (c4 : PySem.W.codeIn K cd4 "need_road" = true) (k4 : PySem.W.keepIn K (.ref f4) = true)
    {f5 : Addr} {oc5 kV5 dc5 pm5 cd5 ct5 : Value} {od5 an5 : Option Addr} {sl5 : Array (Option Value)}
    (a5 : PySem.W.nsIn K mainGlobals "road_text" = some (some (.ref f5))) (l5 : K.lookup f5 = some ⟨oc5, od5, .func (PySem.W.fnOf "road_text" "road_text" (defArgs st_road_text) (defBody st_road_text) (defScope st_road_text) .none kV5 dc5 pm5 an5 cd5 ct5), sl5⟩) (c5 : PySem.W.codeIn K cd5 "road_text" = true) (k5 : PySem.W.keepIn K (.ref f5) = true)
    {f6 : Addr} {oc6 kV6 dc6 pm6 cd6 ct6 : Value} {od6 an6 : Option Addr} {sl6 : Array (Option Value)}
    (a6 : PySem.W.nsIn K mainGlobals "read_road" = some (some (.ref f6))) (l6 : K.lookup f6 = some ⟨oc6, od6, .func (PySem.W.fnOf "read_road" "read_road" (defArgs st_read_road) (defBody st_read_road) (defScope st_read_road) .none kV6 dc6 pm6 an6 cd6 ct6), sl6⟩) (c6 : PySem.W.codeIn K cd6 "read_road" = true) (k6 : PySem.W.keepIn K (.ref f6) = true)
    {f7 : Addr} {oc7 kV7 dc7 pm7 cd7 ct7 : Value} {od7 an7 : Option Addr} {sl7 : Array (Option Value)}
    (a7 : PySem.W.nsIn K mainGlobals "_law_deal" = some (some (.ref f7))) (l7 : K.lookup f7 = some ⟨oc7, od7, .func (PySem.W.fnOf "_law_deal" "_law_deal" (defArgs st_l_deal) (defBody st_l_deal) (defScope st_l_deal) .none kV7 dc7 pm7 an7 cd7 ct7), sl7⟩) (c7 : PySem.W.codeIn K cd7 "_law_deal" = true) (k7 : PySem.W.keepIn K (.ref f7) = true)
    {f8 : Addr} {oc8 kV8 dc8 pm8 cd8 ct8 : Value} {od8 an8 : Option Addr} {sl8 : Array (Option Value)}
    (a8 : PySem.W.nsIn K mainGlobals "_law_draw" = some (some (.ref f8))) (l8 : K.lookup f8 = some ⟨oc8, od8, .func (PySem.W.fnOf "_law_draw" "_law_draw" (defArgs st_l_draw) (defBody st_l_draw) (defScope st_l_draw) .none kV8 dc8 pm8 an8 cd8 ct8), sl8⟩) (c8 : PySem.W.codeIn K cd8 "_law_draw" = true) (k8 : PySem.W.keepIn K (.ref f8) = true)
    {f9 : Addr} {oc9 kV9 dc9 pm9 cd9 ct9 : Value} {od9 an9 : Option Addr} {sl9 : Array (Option Value)}
    (a9 : PySem.W.nsIn K mainGlobals "_law_pick" = some (some (.ref f9))) (l9 : K.lookup f9 = some ⟨oc9, od9, .func (PySem.W.fnOf "_law_pick" "_law_pick" (defArgs st_l_pick) (defBody st_l_pick) (defScope st_l_pick) .none kV9 dc9 pm9 an9 cd9 ct9), sl9⟩) (c9 : PySem.W.codeIn K cd9 "_law_pick" = true) (k9 : PySem.W.keepIn K (.ref f9) = true)
    {f10 : Addr} {oc10 kV10 dc10 pm10 cd10 ct10 : Value} {od10 an10 : Option Addr} {sl10 : Array (Option Value)}
    (a10 : PySem.W.nsIn K mainGlobals "law" = some (some (.ref f10))) (l10 : K.lookup f10 = some ⟨oc10, od10, .func (PySem.W.fnOf "law" "law" (defArgs st_law) (defBody st_law) (defScope st_law) .none kV10 dc10 pm10 an10 cd10 ct10), sl10⟩) (c10 : PySem.W.codeIn K cd10 "law" = true) (k10 : PySem.W.keepIn K (.ref f10) = true)
    (z_isinstance : PySem.W.nsIn K mainGlobals "isinstance" = some none)
    (z_bool : PySem.W.nsIn K mainGlobals "bool" = some none)
    (z_int : PySem.W.nsIn K mainGlobals "int" = some none)
    (z_list : PySem.W.nsIn K mainGlobals "list" = some none)
    (z_tuple : PySem.W.nsIn K mainGlobals "tuple" = some none)
    (z_all : PySem.W.nsIn K mainGlobals "all" = some none)
    (z_len : PySem.W.nsIn K mainGlobals "len" = some none)
    (z_enumerate : PySem.W.nsIn K mainGlobals "enumerate" = some none)
    (z_str : PySem.W.nsIn K mainGlobals "str" = some none)
    (z_abs : PySem.W.nsIn K mainGlobals "abs" = some none)
    (z_range : PySem.W.nsIn K mainGlobals "range" = some none)
    (z_repr : PySem.W.nsIn K mainGlobals "repr" = some none)
    {t_DIGITS : Tok} (c_DIGITS : PySem.W.nsIn K mainGlobals "DIGITS" = some (some (.str "0123456789" t_DIGITS)))
    {t_MOST_DIGITS : Tok} (c_MOST_DIGITS : PySem.W.nsIn K mainGlobals "MOST_DIGITS" = some (some (.int 4 t_MOST_DIGITS)))
    : ∃ fd : FuncData, Fun K "law" "law" st_law fa fd ∧ (∀ (s : Shared) (u : Value), BindsTo s fd ⟨[u], []⟩ [("_law_script", u)]) ∧ ∃ cl : Str → Addr, ∀ (base : Heap) (cdv : Value) (A : Around) (outer : List PySem.Env) (s0 : Shared) (H : Hp) (E : XK),
      A.guards = some [] → Room 3 (A.deeper (envOfC "law" (defScope st_law) s0.heap.objs.size fa cdv)) →
        PSs (cxOf (L2.CX P w) P w K mg base ["_law_script", "_law_deal_here", "_law_kept", "_law_turn", "_law_legs", "_law_due", "_law_given", "_law_k", "_law_size"] "law" (defScope st_law) fa cdv A outer s0 H E) (defBody st_law) (tS ⟨K, cl⟩ (fun c d _ H' => E c d H') s_law) := by
  have e := hfa.symm.trans (PySem.W.mg_of X G a10)
  cases e
  have T : Tx ⟨K, fun _ => 0⟩ mg ⟨f1, (PySem.W.fnOf "is_integer" "is_integer" (defArgs st_is_integer) (defBody st_is_integer) (defScope st_is_integer) .none kV1 dc1 pm1 an1 cd1 ct1), f2, (PySem.W.fnOf "is_sequence" "is_sequence" (defArgs st_is_sequence) (defBody st_is_sequence) (defScope st_is_sequence) .none kV2 dc2 pm2 an2 cd2 ct2), f3, (PySem.W.fnOf "number_in" "number_in" (defArgs st_number_in) (defBody st_number_in) (defScope st_number_in) .none kV3 dc3 pm3 an3 cd3 ct3), f4, (PySem.W.fnOf "need_road" "need_road" (defArgs st_need_road) (defBody st_need_road) (defScope st_need_road) .none kV4 dc4 pm4 an4 cd4 ct4), f5, (PySem.W.fnOf "road_text" "road_text" (defArgs st_road_text) (defBody st_road_text) (defScope st_road_text) .none kV5 dc5 pm5 an5 cd5 ct5), f6, (PySem.W.fnOf "read_road" "read_road" (defArgs st_read_road) (defBody st_read_road) (defScope st_read_road) .none kV6 dc6 pm6 an6 cd6 ct6), f7, (PySem.W.fnOf "_law_deal" "_law_deal" (defArgs st_l_deal) (defBody st_l_deal) (defScope st_l_deal) .none kV7 dc7 pm7 an7 cd7 ct7), f8, (PySem.W.fnOf "_law_draw" "_law_draw" (defArgs st_l_draw) (defBody st_l_draw) (defScope st_l_draw) .none kV8 dc8 pm8 an8 cd8 ct8), f9, (PySem.W.fnOf "_law_pick" "_law_pick" (defArgs st_l_pick) (defBody st_l_pick) (defScope st_l_pick) .none kV9 dc9 pm9 an9 cd9 ct9), fa, (PySem.W.fnOf "law" "law" (defArgs st_law) (defBody st_law) (defScope st_law) .none kV10 dc10 pm10 an10 cd10 ct10)⟩ :=
    { F_is_integer := fun_mk (st := st_is_integer) l1 c1 k1,
      g_is_integer := PySem.W.mg_of X G a1,
      b_is_integer := (fun_mk (st := st_is_integer) l1 c1 k1).binds (ps := ["value"]) fun _ _ _ _ _ _ us hl => match us, hl with | [_], _ => rfl,
      F_is_sequence := fun_mk (st := st_is_sequence) l2 c2 k2,
      g_is_sequence := PySem.W.mg_of X G a2,
      b_is_sequence := (fun_mk (st := st_is_sequence) l2 c2 k2).binds (ps := ["value"]) fun _ _ _ _ _ _ us hl => match us, hl with | [_], _ => rfl,
      F_number_in := fun_mk (st := st_number_in) l3 c3 k3,
      g_number_in := PySem.W.mg_of X G a3,
      b_number_in := (fun_mk (st := st_number_in) l3 c3 k3).binds (ps := ["word"]) fun _ _ _ _ _ _ us hl => match us, hl with | [_], _ => rfl,
      F_need_road := fun_mk (st := st_need_road) l4 c4 k4,
      g_need_road := PySem.W.mg_of X G a4,
      b_need_road := (fun_mk (st := st_need_road) l4 c4 k4).binds (ps := ["road"]) fun _ _ _ _ _ _ us hl => match us, hl with | [_], _ => rfl,
      F_road_text := fun_mk (st := st_road_text) l5 c5 k5,
      g_road_text := PySem.W.mg_of X G a5,
      b_road_text := (fun_mk (st := st_road_text) l5 c5 k5).binds (ps := ["road"]) fun _ _ _ _ _ _ us hl => match us, hl with | [_], _ => rfl,
      F_read_road := fun_mk (st := st_read_road) l6 c6 k6,
      g_read_road := PySem.W.mg_of X G a6,
      b_read_road := (fun_mk (st := st_read_road) l6 c6 k6).binds (ps := ["text"]) fun _ _ _ _ _ _ us hl => match us, hl with | [_], _ => rfl,
      F_l_deal := fun_mk (st := st_l_deal) l7 c7 k7,
      g_l_deal := PySem.W.mg_of X G a7,
      b_l_deal := (fun_mk (st := st_l_deal) l7 c7 k7).binds (ps := ["_law_script", "_law_base"]) fun _ _ _ _ _ _ us hl => match us, hl with | [_, _], _ => rfl,
      F_l_draw := fun_mk (st := st_l_draw) l8 c8 k8,
      g_l_draw := PySem.W.mg_of X G a8,
      b_l_draw := (fun_mk (st := st_l_draw) l8 c8 k8).binds (ps := ["_law_deal_here", "_law_many"]) fun _ _ _ _ _ _ us hl => match us, hl with | [_, _], _ => rfl,
      F_l_pick := fun_mk (st := st_l_pick) l9 c9 k9,
      g_l_pick := PySem.W.mg_of X G a9,
      b_l_pick := (fun_mk (st := st_l_pick) l9 c9 k9).binds (ps := ["_law_deal_here", "_law_some"]) fun _ _ _ _ _ _ us hl => match us, hl with | [_, _], _ => rfl,
      F_law := fun_mk (st := st_law) l10 c10 k10,
      g_law := PySem.W.mg_of X G a10,
      b_law := (fun_mk (st := st_law) l10 c10 k10).binds (ps := ["_law_script"]) fun _ _ _ _ _ _ us hl => match us, hl with | [_], _ => rfl,
      z_isinstance := PySem.W.mg_none_of X G z_isinstance,
      z_bool := PySem.W.mg_none_of X G z_bool,
      z_int := PySem.W.mg_none_of X G z_int,
      z_list := PySem.W.mg_none_of X G z_list,
      z_tuple := PySem.W.mg_none_of X G z_tuple,
      z_all := PySem.W.mg_none_of X G z_all,
      z_len := PySem.W.mg_none_of X G z_len,
      z_enumerate := PySem.W.mg_none_of X G z_enumerate,
      z_str := PySem.W.mg_none_of X G z_str,
      z_abs := PySem.W.mg_none_of X G z_abs,
      z_range := PySem.W.mg_none_of X G z_range,
      z_repr := PySem.W.mg_none_of X G z_repr,
      c_DIGITS := ⟨.str "0123456789", _, PySem.W.mg_of X G c_DIGITS, ⟨t_DIGITS, rfl⟩, fun _ _ => rfl⟩,
      c_MOST_DIGITS := ⟨.int 4, _, PySem.W.mg_of X G c_MOST_DIGITS, ⟨t_MOST_DIGITS, rfl⟩, fun _ _ => rfl⟩ }
  exact ⟨_, T.F_law, fun s v => .of_eq rfl, fun _ => 0, fun base cdv A outer s0 H E hA hr => law_body T base cdv A outer s0 H E hA hr⟩
end K13
open PySem PySem.W PyProof.Rows
set_option maxRecDepth 100000 in
set_option maxHeartbeats 0 in
theorem PySem.Challenge.cw_turncalls_k13_roads_and_their_texts_holds : PySem.Challenge.rw_turncalls_k13_roads_and_their_texts.Holds := by
  w_on; o_law; k_head; (case hw => w_witness2)
  k_fill
  refine Mi.walk_law (l := PySem.Challenge.rw_turncalls_k13_roads_and_their_texts) (n := 63) (j := 3) (x := "_law_script") (st := K13.st_law) (N := ["_law_script", "_law_deal_here", "_law_kept", "_law_turn", "_law_legs", "_law_due", "_law_given", "_law_k", "_law_size"]) (s := K13.s_law) (cl := fun _ _ => 0) rfl (by decide) rfl (by decide) (fun w h Y => PySem.W.kIn_of Y) K13.sc_law ?F K13.main
  case F =>
    intro w mg fa h KX G hmg
    refine' K13.all_mk KX G hmg ?a1 ?l1 ?c1 ?k1 ?a2 ?l2 ?c2 ?k2 ?a3 ?l3 ?c3 ?k3 ?a4 ?l4 ?c4 ?k4 ?a5 ?l5 ?c5 ?k5 ?a6 ?l6 ?c6 ?k6 ?a7 ?l7 ?c7 ?k7 ?a8 ?l8 ?c8 ?k8 ?a9 ?l9 ?c9 ?k9 ?a10 ?l10 ?c10 ?k10 ?z_isinstance ?z_bool ?z_int ?z_list ?z_tuple ?z_all ?z_len ?z_enumerate ?z_str ?z_abs ?z_range ?z_repr ?c_DIGITS ?c_MOST_DIGITS
    (case a1 => k_is)
    (case l1 => k_is)
    (case c1 => k_is)
    (case k1 => k_is)
    (case a2 => k_is)
    (case l2 => k_is)
    (case c2 => k_is)
    (case k2 => k_is)
    (case a3 => k_is)
    (case l3 => k_is)
    (case c3 => k_is)
    (case k3 => k_is)
    (case a4 => k_is)
    (case l4 => k_is)
    (case c4 => k_is)
    (case k4 => k_is)
    (case a5 => k_is)
    (case l5 => k_is)
    (case c5 => k_is)
    (case k5 => k_is)
    (case a6 => k_is)
    (case l6 => k_is)
    (case c6 => k_is)
    (case k6 => k_is)
    (case a7 => k_is)
    (case l7 => k_is)
    (case c7 => k_is)
    (case k7 => k_is)
    (case a8 => k_is)
    (case l8 => k_is)
    (case c8 => k_is)
    (case k8 => k_is)
    (case a9 => k_is)
    (case l9 => k_is)
    (case c9 => k_is)
    (case k9 => k_is)
    (case a10 => k_is)
    (case l10 => k_is)
    (case c10 => k_is)
    (case k10 => k_is)
    (case z_isinstance => k_is)
    (case z_bool => k_is)
    (case z_int => k_is)
    (case z_list => k_is)
    (case z_tuple => k_is)
    (case z_all => k_is)
    (case z_len => k_is)
    (case z_enumerate => k_is)
    (case z_str => k_is)
    (case z_abs => k_is)
    (case z_range => k_is)
    (case z_repr => k_is)
    (case c_DIGITS => k_is)
    (case c_MOST_DIGITS => k_is)
