import PyProof.Rows.All
import Wide.All
import OpenK.AllK
import Wide.FinOn
import KE.KStateDown
import HandS.ForMost
import HandS.Exc
import HandS.ExcOwn
import HandS.WordsExc
import HandS.Defaults
import HandS.StrMore
import HandS.StrSplit
import HandS.Replace
import HandS.TupAny
import HandS.TupMul
import HandS.Deep
import HandS.IsInst
import HandS.Style
import HandS.Zip
import HandS.Strs
import KE.GoesEnum
import HandS.FStr
import HandS.SetFor
import HandS.Codes
import HandS.Head0
import HandS.Head1
import HandS.Head2
import HandS.HeadEnd
import HandS.HeadHook1
import HandS.HeadHook2
import PySem.Challenge.RW_talehouse_k43_whole_folded_guards
section
set_option Elab.async false
set_option linter.all false
set_option maxRecDepth 100000
set_option maxHeartbeats 4000000
/-! E1: data, values, stores, the relation to the abstract heap, outcomes, readings -/
namespace Ev
open PySem PySem.Spec L2

/-! ### data on the heap -/
mutual
inductive Da (K : PySem.W.Frag) (F : Hp) : V → PyData → Prop
  | non : Da K F .non .none
  | bl (b : Bool) : Da K F (.bl b) (.bool b)
  | int (i : Int) : Da K F (.int i) (.int i)
  | str (x : Str) : Da K F (.str x) (.str x)
  | lst {a : Addr} {xs : List V} {ds : List PyData} : Rd F a (.lst xs) → DaAll K F xs ds → Da K F (.ref a) (.list ds)
  | tup {a : Addr} {xs : List V} {ds : List PyData} : SqT K F a xs → DaAll K F xs ds → Da K F (.ref a) (.tuple ds)
  | dct {a : Addr} : F a = some (.dK []) → Da K F (.ref a) (.dict [])
inductive DaAll (K : PySem.W.Frag) (F : Hp) : List V → List PyData → Prop
  | nil : DaAll K F [] []
  | cons {v : V} {vs : List V} {d : PyData} {ds : List PyData} : Da K F v d → DaAll K F vs ds → DaAll K F (v :: vs) (d :: ds)
end
theorem SqL.sub {K : PySem.W.Frag} {F G : Hp} {a : Addr} {xs : List V} (e : ∀ b o, F b = some o → G b = some o) (h : SqL K F a xs) : SqL K G a xs := by
  rcases h with (h | ⟨o, h⟩) | h
  · exact .inl (.inl (e _ _ h))
  · exact .inl (.inr ⟨o, e _ _ h⟩)
  · exact .inr h
theorem Rd.sub {F G : Hp} {a : Addr} {u : HO} (e : ∀ b o, F b = some o → G b = some o) (h : Rd F a u) : Rd G a u := by
  rcases h with h | ⟨o, h⟩
  · exact .inl (e _ _ h)
  · exact .inr ⟨o, e _ _ h⟩
theorem SqT.sub {K : PySem.W.Frag} {F G : Hp} {a : Addr} {xs : List V} (e : ∀ b o, F b = some o → G b = some o) (h : SqT K F a xs) : SqT K G a xs := by
  rcases h with (h | ⟨o, h⟩) | h
  · exact .inl (.inl (e _ _ h))
  · exact .inl (.inr ⟨o, e _ _ h⟩)
  · exact .inr h
mutual
theorem Da.sub {K : PySem.W.Frag} {F G : Hp} (e : ∀ b o, F b = some o → G b = some o) : ∀ {v : V} {d : PyData}, Da K F v d → Da K G v d
  | _, _, .non => .non
  | _, _, .bl b => .bl b
  | _, _, .int b => .int b
  | _, _, .str b => .str b
  | _, _, .lst h t => .lst (Rd.sub e h) (DaAll.sub e t)
  | _, _, .tup h t => .tup (SqT.sub e h) (DaAll.sub e t)
  | _, _, .dct h => .dct (e _ _ h)
theorem DaAll.sub {K : PySem.W.Frag} {F G : Hp} (e : ∀ b o, F b = some o → G b = some o) : ∀ {v : List V} {d : List PyData}, DaAll K F v d → DaAll K G v d
  | _, _, .nil => .nil
  | _, _, .cons h t => .cons (Da.sub e h) (DaAll.sub e t)
end
theorem DaAll.len {K : PySem.W.Frag} {F : Hp} : ∀ {v : List V} {d : List PyData}, DaAll K F v d → v.length = d.length
  | _, _, .nil => rfl
  | _, _, .cons _ t => congrArg Nat.succ (DaAll.len t)
theorem DaAll.get {K : PySem.W.Frag} {F : Hp} : ∀ {v : List V} {d : List PyData} {i : Nat} {x : PyData}, DaAll K F v d → d[i]? = some x → ∃ y, v[i]? = some y ∧ Da K F y x
  | _, _, _, _, .nil, e => by simp at e
  | _, _, 0, x, .cons h _, e => by simp at e; subst e; exact ⟨_, rfl, h⟩
  | _, _, i + 1, x, .cons _ t, e => by
    obtain ⟨y, h1, h2⟩ := DaAll.get (i := i) (x := x) t (by simpa using e)
    exact ⟨y, by simpa using h1, h2⟩
theorem DaAll.getV {K : PySem.W.Frag} {F : Hp} : ∀ {v : List V} {d : List PyData} {i : Nat} {y : V}, DaAll K F v d → v[i]? = some y → ∃ x, d[i]? = some x ∧ Da K F y x
  | _, _, _, _, .nil, e => by simp at e
  | _, _, 0, x, .cons h _, e => by simp at e; subst e; exact ⟨_, rfl, h⟩
  | _, _, i + 1, x, .cons _ t, e => by
    obtain ⟨y, h1, h2⟩ := DaAll.getV (i := i) (y := x) t (by simpa using e)
    exact ⟨y, by simpa using h1, h2⟩
theorem DaAll.append {K : PySem.W.Frag} {F : Hp} : ∀ {v w : List V} {d e : List PyData}, DaAll K F v d → DaAll K F w e → DaAll K F (v ++ w) (d ++ e)
  | _, _, _, _, .nil, h => h
  | _, _, _, _, .cons a t, h => .cons a (DaAll.append t h)
theorem DaAll.one {K : PySem.W.Frag} {F : Hp} {v : V} {d : PyData} (h : Da K F v d) : DaAll K F [v] [d] := .cons h .nil
theorem DaAll.set {K : PySem.W.Frag} {F : Hp} {y : V} {x : PyData} (h : Da K F y x) : ∀ {v : List V} {d : List PyData} (i : Nat), DaAll K F v d → DaAll K F (v.set i y) (d.set i x)
  | _, _, _, .nil => .nil
  | _, _, 0, .cons _ t => .cons h t
  | _, _, i + 1, .cons a t => .cons a (DaAll.set h i t)
theorem DaAll.drop {K : PySem.W.Frag} {F : Hp} : ∀ {v : List V} {d : List PyData} (n : Nat), DaAll K F v d → DaAll K F (v.drop n) (d.drop n)
  | _, _, 0, h => h
  | _, _, _ + 1, .nil => .nil
  | _, _, n + 1, .cons _ t => DaAll.drop n t
theorem DaAll.take {K : PySem.W.Frag} {F : Hp} : ∀ {v : List V} {d : List PyData} (n : Nat), DaAll K F v d → DaAll K F (v.take n) (d.take n)
  | _, _, 0, h => by simp; exact .nil
  | _, _, _ + 1, .nil => .nil
  | _, _, n + 1, .cons h t => .cons h (DaAll.take n t)
theorem DaAll.reverse {K : PySem.W.Frag} {F : Hp} : ∀ {v : List V} {d : List PyData}, DaAll K F v d → DaAll K F v.reverse d.reverse
  | _, _, .nil => .nil
  | _, _, .cons h t => by rw [List.reverse_cons, List.reverse_cons]; exact (DaAll.reverse t).append (.one h)

/-! ### values, objects, outcomes -/
/-- what stands in a tuple or a list that holds lists which are still written -/
inductive El where
  | d (x : PyData) | loc (n : Nat)
inductive Val where
  | d (x : PyData) | loc (n : Nat) | fn (g : Nat) | tp (es : List El) | ls (es : List El)
def El.val : El → Val
  | .d x => .d x
  | .loc n => .loc n
inductive Ob where
  | lst (xs : List PyData)
abbrev Store := List Ob
structure Exn where
  cls : Nat
  val : PyData
inductive Out (α : Type) where
  | ok (a : α) (S : Store) | err (e : Exn) (S : Store) | stuck
def Out.bind {α β : Type} (o : Out α) (φ : α → Store → Out β) : Out β := match o with
  | .ok a S => φ a S
  | .err e S => .err e S
  | .stuck => .stuck
abbrev EnvD := List (Option Val)
abbrev TD (α : Type) := EnvD → Store → Out α
inductive SOut where
  | next (ρ : EnvD) (S : Store) | ret (v : Val) (S : Store) | brk (ρ : EnvD) (S : Store) | cont (ρ : EnvD) (S : Store) | err (e : Exn) (ρ : EnvD) (S : Store) | stuck
abbrev SD := EnvD → Store → SOut
@[simp] theorem Out.bind_ok {α β : Type} (a : α) (S : Store) (φ : α → Store → Out β) : (Out.ok a S).bind φ = φ a S := rfl
@[simp] theorem Out.bind_err {α β : Type} (e : Exn) (S : Store) (φ : α → Store → Out β) : (Out.err e S).bind φ = .err e S := rfl
@[simp] theorem Out.bind_stuck {α β : Type} (φ : α → Store → Out β) : (Out.stuck : Out α).bind φ = .stuck := rfl

/-- what is fixed: the written part, where defs and classes stand -/
structure Gc where
  K : PySem.W.Frag
  ad : Nat → Addr
  ca : Nat → Addr
def ElR (g : Gc) (F : Hp) (f : List Addr) : V → El → Prop
  | x, .d y => Da g.K F x y
  | x, .loc n => ∃ a : Addr, f[n]? = some a ∧ x = .ref a
inductive ElRs (g : Gc) (F : Hp) (f : List Addr) : List V → List El → Prop
  | nil : ElRs g F f [] []
  | cons {x : V} {v : El} {xs : List V} {vs : List El} : ElR g F f x v → ElRs g F f xs vs → ElRs g F f (x :: xs) (v :: vs)
def VR (g : Gc) (F : Hp) (f : List Addr) : V → Val → Prop
  | x, .d y => Da g.K F x y
  | x, .loc n => ∃ a : Addr, f[n]? = some a ∧ x = .ref a
  | x, .fn k => x = .ref (g.ad k)
  | x, .tp es => ∃ (a : Addr) (xs : List V), x = .ref a ∧ SqT g.K F a xs ∧ ElRs g F f xs es
  | x, .ls es => ∃ (a : Addr) (xs : List V), x = .ref a ∧ Rd F a (.lst xs) ∧ ElRs g F f xs es
theorem ElR.vr {g : Gc} {F : Hp} {f : List Addr} {x : V} {v : El} (h : ElR g F f x v) : VR g F f x v.val := by
  cases v <;> exact h
theorem ElRs.len {g : Gc} {F : Hp} {f : List Addr} : ∀ {xs : List V} {vs : List El}, ElRs g F f xs vs → xs.length = vs.length
  | _, _, .nil => rfl
  | _, _, .cons _ t => congrArg Nat.succ (ElRs.len t)
theorem ElRs.get {g : Gc} {F : Hp} {f : List Addr} : ∀ {xs : List V} {vs : List El} {i : Nat} {v : El}, ElRs g F f xs vs → vs[i]? = some v → ∃ x, xs[i]? = some x ∧ ElR g F f x v
  | _, _, _, _, .nil, e => by simp at e
  | _, _, 0, x, .cons h _, e => by simp at e; subst e; exact ⟨_, rfl, h⟩
  | _, _, i + 1, x, .cons _ t, e => by
    obtain ⟨y, h1, h2⟩ := ElRs.get (i := i) (v := x) t (by simpa using e)
    exact ⟨y, by simpa using h1, h2⟩
inductive VRs (g : Gc) (F : Hp) (f : List Addr) : List V → List Val → Prop
  | nil : VRs g F f [] []
  | cons {x : V} {v : Val} {xs : List V} {vs : List Val} : VR g F f x v → VRs g F f xs vs → VRs g F f (x :: xs) (v :: vs)
def ObR (g : Gc) (F : Hp) : Ob → Option HO → Prop
  | .lst ds, o => ∃ xs, o = some (.lst xs) ∧ DaAll g.K F xs ds
abbrev Rs := List (Addr × HO)
/-- the abstract heap H holds: the frozen part F, the mutable objects at f (the store S), the reserved ones R -/
structure Sm (g : Gc) (F : Hp) (f : List Addr) (R : Rs) (S : Store) (H : Hp) : Prop where
  le : ∀ a o, F a = some o → H a = some o
  nof : ∀ a ∈ f, F a = none
  nd : f.Nodup
  len : S.length = f.length
  st : ∀ (n : Nat) (ob : Ob) (a : Addr), S[n]? = some ob → f[n]? = some a → ObR g F ob (H a)
  res : ∀ p ∈ R, H p.1 = some p.2 ∧ F p.1 = none ∧ p.1 ∉ f
structure En (g : Gc) (F : Hp) (f : List Addr) (ρ : EnvD) (σ : St) : Prop where
  len : ρ.length = σ.length
  get : ∀ (i : Nat) (v : Val), ρ[i]? = some (some v) → ∃ x, σ[i]? = some (some x) ∧ VR g F f x v
structure Ext (F : Hp) (f : List Addr) (F' : Hp) (f' : List Addr) : Prop where
  le : ∀ a o, F a = some o → F' a = some o
  pre : ∀ (n : Nat) (a : Addr), f[n]? = some a → f'[n]? = some a
theorem Ext.refl (F : Hp) (f : List Addr) : Ext F f F f := ⟨fun _ _ h => h, fun _ _ h => h⟩
theorem Ext.trans {F G J : Hp} {f h k : List Addr} (a : Ext F f G h) (b : Ext G h J k) : Ext F f J k := ⟨fun x o e => b.le x o (a.le x o e), fun n x e => b.pre n x (a.pre n x e)⟩
section
variable {g : Gc} {F F' : Hp} {f f' : List Addr}
theorem ElR.sub (e : Ext F f F' f') {x : V} {v : El} (h : ElR g F f x v) : ElR g F' f' x v := by
  cases v with
  | d y => exact Da.sub e.le h
  | loc n => obtain ⟨a, h1, h2⟩ := h; exact ⟨a, e.pre n a h1, h2⟩
theorem ElRs.sub (e : Ext F f F' f') : ∀ {xs : List V} {vs : List El}, ElRs g F f xs vs → ElRs g F' f' xs vs
  | _, _, .nil => .nil
  | _, _, .cons h t => .cons (h.sub e) (ElRs.sub e t)
theorem VR.sub (e : Ext F f F' f') {x : V} {v : Val} (h : VR g F f x v) : VR g F' f' x v := by
  cases v with
  | d y => exact Da.sub e.le h
  | loc n => obtain ⟨a, h1, h2⟩ := h; exact ⟨a, e.pre n a h1, h2⟩
  | fn k => exact h
  | tp es => obtain ⟨a, xs, h1, h2, h3⟩ := h; exact ⟨a, xs, h1, SqT.sub e.le h2, h3.sub e⟩
  | ls es => obtain ⟨a, xs, h1, h2, h3⟩ := h; exact ⟨a, xs, h1, Rd.sub e.le h2, h3.sub e⟩
theorem VRs.sub (e : Ext F f F' f') : ∀ {xs : List V} {vs : List Val}, VRs g F f xs vs → VRs g F' f' xs vs
  | _, _, .nil => .nil
  | _, _, .cons h t => .cons (h.sub e) (VRs.sub e t)
theorem VRs.len : ∀ {xs : List V} {vs : List Val}, VRs g F f xs vs → xs.length = vs.length
  | _, _, .nil => rfl
  | _, _, .cons _ t => congrArg Nat.succ (VRs.len t)
theorem VRs.get : ∀ {xs : List V} {vs : List Val} {i : Nat} {v : Val}, VRs g F f xs vs → vs[i]? = some v → ∃ x, xs[i]? = some x ∧ VR g F f x v
  | _, _, _, _, .nil, e => by simp at e
  | _, _, 0, x, .cons h _, e => by simp at e; subst e; exact ⟨_, rfl, h⟩
  | _, _, i + 1, x, .cons _ t, e => by
    obtain ⟨y, h1, h2⟩ := VRs.get (i := i) (v := x) t (by simpa using e)
    exact ⟨y, by simpa using h1, h2⟩
theorem VRs.append : ∀ {xs ys : List V} {vs ws : List Val}, VRs g F f xs vs → VRs g F f ys ws → VRs g F f (xs ++ ys) (vs ++ ws)
  | _, _, _, _, .nil, h => h
  | _, _, _, _, .cons a t, h => .cons a (VRs.append t h)
theorem En.sub {ρ : EnvD} {σ : St} (e : Ext F f F' f') (h : En g F f ρ σ) : En g F' f' ρ σ := ⟨h.len, fun i v q => let ⟨x, h1, h2⟩ := h.get i v q; ⟨x, h1, h2.sub e⟩⟩
theorem En.set {ρ : EnvD} {σ : St} (h : En g F f ρ σ) (i : Nat) {x : V} {v : Val} (r : VR g F f x v) : En g F f (ρ.set i (some v)) (σ.set i (some x)) := by
  refine ⟨by simpa using h.len, fun j w q => ?_⟩
  by_cases hj : i = j
  · subst hj
    by_cases hl : i < ρ.length
    · rw [List.getElem?_set_self hl] at q
      cases q
      exact ⟨x, by rw [List.getElem?_set_self (by rw [← h.len]; exact hl)], r⟩
    · rw [List.getElem?_eq_none (by simpa using Nat.le_of_not_lt hl)] at q
      cases q
  · rw [List.getElem?_set_ne hj] at q
    obtain ⟨y, h1, h2⟩ := h.get j w q
    exact ⟨y, by rw [List.getElem?_set_ne hj]; exact h1, h2⟩
theorem En.wipe {ρ : EnvD} {σ : St} (h : En g F f ρ σ) (i : Nat) : En g F f (ρ.set i none) (σ.set i none) := by
  refine ⟨by simpa using h.len, fun j w q => ?_⟩
  by_cases hj : i = j
  · subst hj
    by_cases hl : i < ρ.length
    · rw [List.getElem?_set_self hl] at q
      cases q
    · rw [List.getElem?_eq_none (by simpa using Nat.le_of_not_lt hl)] at q
      cases q
  · rw [List.getElem?_set_ne hj] at q
    obtain ⟨y, h1, h2⟩ := h.get j w q
    exact ⟨y, by rw [List.getElem?_set_ne hj]; exact h1, h2⟩
end
theorem Sm.getL {g : Gc} {F : Hp} {f : List Addr} {R : Rs} {S : Store} {H : Hp} (s : Sm g F f R S H) {n : Nat} {ds : List PyData} (h : S[n]? = some (.lst ds)) : ∃ a xs, f[n]? = some a ∧ H a = some (.lst xs) ∧ DaAll g.K F xs ds := by
  have hl : n < S.length := (List.getElem?_eq_some_iff.mp h).1
  have hf : n < f.length := by rw [← s.len]; exact hl
  obtain ⟨xs, h1, h2⟩ := s.st n _ f[n] h (List.getElem?_eq_getElem hf)
  exact ⟨f[n], xs, List.getElem?_eq_getElem hf, h1, h2⟩
/-- a new frozen object -/
theorem Sm.new {g : Gc} {F : Hp} {f : List Addr} {R : Rs} {S : Store} {H : Hp} (s : Sm g F f R S H) {p : Addr} {o : HO} (hp : H p = none) : Sm g (upd F p o) f R S (upd H p o) ∧ Ext F f (upd F p o) f := by
  have fp : F p = none := by
    cases q : F p with
    | none => rfl
    | some u => rw [s.le p u q] at hp; cases hp
  have fl : ∀ a ∈ f, a ≠ p := fun a ha z => by
    subst z
    obtain ⟨n, hn, e⟩ := List.getElem_of_mem ha
    have hS : n < S.length := by rw [s.len]; exact hn
    have q := s.st n S[n] f[n] (List.getElem?_eq_getElem hS) (List.getElem?_eq_getElem hn)
    rw [e] at q
    revert q
    cases S[n] with
    | lst ds => rintro ⟨xs, h1, _⟩; rw [hp] at h1; cases h1
  have ext : ∀ a u, F a = some u → upd F p o a = some u := fun a u e => by rw [upd_ne (ne_of_none e fp)]; exact e
  refine ⟨⟨fun a u e => ?_, fun a ha => by rw [upd_ne (fl a ha)]; exact s.nof a ha, s.nd, s.len, fun n ob a h1 h2 => ?_, fun q hq => ?_⟩, ⟨ext, fun _ _ h => h⟩⟩
  · by_cases h : a = p
    · subst h; rw [upd_same] at e ⊢; exact e
    · rw [upd_ne h] at e ⊢; exact s.le a u e
  · have na : a ≠ p := fl a (List.mem_of_getElem? h2)
    have q := s.st n ob a h1 h2
    rw [upd_ne na]
    cases ob with
    | lst ds => obtain ⟨xs, e1, e2⟩ := q; exact ⟨xs, e1, DaAll.sub ext e2⟩
  · obtain ⟨e1, e2, e3⟩ := s.res q hq
    have nq : q.1 ≠ p := ne_of_none e1 hp
    rw [upd_ne nq, upd_ne nq]
    exact ⟨e1, e2, e3⟩
/-- the heap has one object more that is told nowhere -/
theorem Sm.idle {g : Gc} {F : Hp} {f : List Addr} {R : Rs} {S : Store} {H H' : Hp} (s : Sm g F f R S H) (k : ∀ a o, H a = some o → H' a = some o) : Sm g F f R S H' := by
  refine ⟨fun a u e => k a u (s.le a u e), s.nof, s.nd, s.len, fun n ob a h1 h2 => ?_, fun q hq => let ⟨e1, e2, e3⟩ := s.res q hq; ⟨k _ _ e1, e2, e3⟩⟩
  have q := s.st n ob a h1 h2
  cases ob with
  | lst ds => obtain ⟨xs, e1, e2⟩ := q; exact ⟨xs, k _ _ e1, e2⟩
theorem Sm.notin {g : Gc} {F : Hp} {f : List Addr} {R : Rs} {S : Store} {H : Hp} (s : Sm g F f R S H) {p : Addr} (hp : H p = none) : p ∉ f ∧ F p = none := by
  refine ⟨fun ha => ?_, ?_⟩
  · obtain ⟨n, hn, e⟩ := List.getElem_of_mem ha
    have hS : n < S.length := by rw [s.len]; exact hn
    have q := s.st n S[n] f[n] (List.getElem?_eq_getElem hS) (List.getElem?_eq_getElem hn)
    rw [e] at q
    revert q
    cases S[n] with
    | lst ds => rintro ⟨xs, h1, _⟩; rw [hp] at h1; cases h1
  · cases q : F p with
    | none => rfl
    | some u => rw [s.le p u q] at hp; cases hp
/-- a new mutable object -/
theorem Sm.newM {g : Gc} {F : Hp} {f : List Addr} {R : Rs} {S : Store} {H : Hp} (s : Sm g F f R S H) {p : Addr} {o : HO} {ob : Ob} (hp : H p = none) (ho : ObR g F ob (some o)) :
    Sm g F (f ++ [p]) R (S ++ [ob]) (upd H p o) ∧ Ext F f F (f ++ [p]) ∧ (f ++ [p])[S.length]? = some p := by
  obtain ⟨n1, n2⟩ := s.notin hp
  have pre : ∀ (n : Nat) (a : Addr), f[n]? = some a → (f ++ [p])[n]? = some a := fun n a e => by
    rw [List.getElem?_append_left (List.getElem?_eq_some_iff.mp e).1]; exact e
  refine ⟨⟨fun a u e => ?_, fun a ha => ?_, ?_, by simp [s.len], fun n ob' a h1 h2 => ?_, fun q hq => ?_⟩, ⟨fun _ _ h => h, pre⟩, by rw [s.len]; simp⟩
  · rw [upd_ne (ne_of_none e n2)]; exact s.le a u e
  · rcases List.mem_append.mp ha with h | h
    · exact s.nof a h
    · rw [List.mem_singleton.mp h]; exact n2
  · exact List.nodup_append.mpr ⟨s.nd, by simp, fun a ha b hb => by rw [List.mem_singleton.mp hb]; exact fun z => n1 (z ▸ ha)⟩
  · by_cases hn : n < S.length
    · rw [List.getElem?_append_left hn] at h1
      rw [List.getElem?_append_left (by rw [← s.len]; exact hn)] at h2
      have na : a ≠ p := fun z => n1 (z ▸ List.mem_of_getElem? h2)
      rw [upd_ne na]
      exact s.st n ob' a h1 h2
    · have hn' : n = S.length := by
        have := (List.getElem?_eq_some_iff.mp h1).1
        simp at this; omega
      subst hn'
      rw [List.getElem?_append_right (Nat.le_refl _)] at h1
      rw [s.len, List.getElem?_append_right (Nat.le_refl _)] at h2
      simp at h1 h2
      subst h1 h2
      rw [upd_same]; exact ho
  · obtain ⟨e1, e2, e3⟩ := s.res q hq
    have nq : q.1 ≠ p := ne_of_none e1 hp
    rw [upd_ne nq]
    exact ⟨e1, e2, fun z => (List.mem_append.mp z).elim e3 fun z => nq (List.mem_singleton.mp z)⟩
/-- a mutable object is written -/
theorem Sm.put {g : Gc} {F : Hp} {f : List Addr} {R : Rs} {S : Store} {H : Hp} (s : Sm g F f R S H) {n : Nat} {p : Addr} {o : HO} {ob : Ob} (hn : f[n]? = some p) (ho : ObR g F ob (some o)) : Sm g F f R (S.set n ob) (upd H p o) := by
  have pf : p ∈ f := List.mem_of_getElem? hn
  refine ⟨fun a u e => ?_, s.nof, s.nd, by simpa using s.len, fun m ob' a h1 h2 => ?_, fun q hq => ?_⟩
  · rw [upd_ne (fun z => by rw [z, s.nof p pf] at e; cases e)]; exact s.le a u e
  · by_cases hm : n = m
    · subst hm
      rw [hn] at h2
      cases h2
      have hl : n < S.length := by rw [s.len]; exact (List.getElem?_eq_some_iff.mp hn).1
      rw [List.getElem?_set_self hl] at h1
      cases h1
      rw [upd_same]; exact ho
    · rw [List.getElem?_set_ne hm] at h1
      have na : a ≠ p := fun z => by
        subst z
        obtain ⟨h3, e3⟩ := List.getElem?_eq_some_iff.mp hn
        obtain ⟨h4, e4⟩ := List.getElem?_eq_some_iff.mp h2
        exact hm ((List.getElem_inj s.nd).mp (e3.trans e4.symm))
      rw [upd_ne na]
      exact s.st m ob' a h1 h2
  · obtain ⟨e1, e2, e3⟩ := s.res q hq
    have nq : q.1 ≠ p := fun z => e3 (by rw [z]; exact pf)
    rw [upd_ne nq]
    exact ⟨e1, e2, e3⟩
/-- a reserved object comes, and goes -/
theorem Sm.hold {g : Gc} {F : Hp} {f : List Addr} {R : Rs} {S : Store} {H : Hp} (s : Sm g F f R S H) {p : Addr} {o : HO} (hp : H p = none) : Sm g F f ((p, o) :: R) S (upd H p o) := by
  obtain ⟨n1, n2⟩ := s.notin hp
  refine ⟨fun a u e => by rw [upd_ne (ne_of_none e n2)]; exact s.le a u e, s.nof, s.nd, s.len, fun n ob a h1 h2 => ?_, fun q hq => ?_⟩
  · have na : a ≠ p := fun z => n1 (by rw [← z]; exact List.mem_of_getElem? h2)
    rw [upd_ne na]; exact s.st n ob a h1 h2
  · rcases List.mem_cons.mp hq with rfl | hq
    · exact ⟨upd_same, n2, n1⟩
    · obtain ⟨e1, e2, e3⟩ := s.res q hq
      rw [upd_ne (ne_of_none e1 hp)]
      exact ⟨e1, e2, e3⟩
theorem Sm.unhold {g : Gc} {F : Hp} {f : List Addr} {R : Rs} {S : Store} {H : Hp} {p : Addr × HO} (s : Sm g F f (p :: R) S H) : Sm g F f R S H :=
  ⟨s.le, s.nof, s.nd, s.len, s.st, fun q hq => s.res q (List.mem_cons_of_mem _ hq)⟩
/-- the held object is written -/
theorem Sm.rehold {g : Gc} {F : Hp} {f : List Addr} {R : Rs} {S : Store} {H : Hp} {p : Addr} {o o' : HO} (s : Sm g F f ((p, o) :: R) S H) (hR : ∀ q ∈ R, q.1 ≠ p) : Sm g F f ((p, o') :: R) S (upd H p o') := by
  obtain ⟨h1, h2, h3⟩ := s.res (p, o) List.mem_cons_self
  refine ⟨fun a u e => by rw [upd_ne (ne_of_none e h2)]; exact s.le a u e, s.nof, s.nd, s.len, fun n ob a e1 e2 => ?_, fun q hq => ?_⟩
  · have na : a ≠ p := fun z => h3 (by rw [← z]; exact List.mem_of_getElem? e2)
    rw [upd_ne na]; exact s.st n ob a e1 e2
  · rcases List.mem_cons.mp hq with rfl | hq
    · exact ⟨upd_same, h2, h3⟩
    · obtain ⟨e1, e2, e3⟩ := s.res q (List.mem_cons_of_mem _ hq)
      rw [upd_ne (hR q hq)]
      exact ⟨e1, e2, e3⟩
/-- the held object is frozen -/
theorem Sm.freeze {g : Gc} {F : Hp} {f : List Addr} {R : Rs} {S : Store} {H : Hp} {p : Addr} {o : HO} (s : Sm g F f ((p, o) :: R) S H) (hR : ∀ q ∈ R, q.1 ≠ p) : Sm g (upd F p o) f R S H ∧ Ext F f (upd F p o) f := by
  obtain ⟨h1, h2, h3⟩ := s.res (p, o) List.mem_cons_self
  have ext : ∀ a u, F a = some u → upd F p o a = some u := fun a u e => by rw [upd_ne (ne_of_none e h2)]; exact e
  refine ⟨⟨fun a u e => ?_, fun a ha => by
    have na : a ≠ p := fun z => h3 (by rw [← z]; exact ha)
    rw [upd_ne na]; exact s.nof a ha, s.nd, s.len, fun n ob a e1 e2 => ?_, fun q hq => ?_⟩, ⟨ext, fun _ _ h => h⟩⟩
  · by_cases h : a = p
    · subst h; rw [upd_same] at e; cases e; exact h1
    · rw [upd_ne h] at e; exact s.le a u e
  · have q := s.st n ob a e1 e2
    cases ob with
    | lst ds => obtain ⟨xs, q1, q2⟩ := q; exact ⟨xs, q1, DaAll.sub ext q2⟩
  · obtain ⟨e1, e2, e3⟩ := s.res q (List.mem_cons_of_mem _ hq)
    rw [upd_ne (hR q hq)]
    exact ⟨e1, e2, e3⟩

/-! ### readings -/
/-- how an exception lies behind -/
def ErrR (g : Gc) (F : Hp) (e : Exn) (C : Value) (d : Option Addr) (H : Hp) : Prop := ∃ dA x, C = .ref (g.ca e.cls) ∧ d = some dA ∧ H dA = some (.xd [(("value" : Str), x)]) ∧ Da g.K F x e.val
abbrev Kn (α : Type) := α → Hp → List Addr → Store → Hp → Prop
def Sat {α : Type} (g : Gc) (F : Hp) (f : List Addr) (R : Rs) (W : Value → Option Addr → Hp → Prop) (o : Out α) (k : Kn α) : Prop := match o with
  | .ok a S => ∀ F' f' H, Ext F f F' f' → Sm g F' f' R S H → k a F' f' S H
  | .err e S => ∀ F' f' H C d, Ext F f F' f' → Sm g F' f' R S H → ErrR g F' e C d H → W C d H
  | .stuck => False
section
variable {α β : Type} {g : Gc} {F F' : Hp} {f f' : List Addr} {R : Rs} {W : Value → Option Addr → Hp → Prop} {o : Out α} {k k' : Kn α}
theorem Sat.step (h : Sat g F f R W o k) (e : Ext F f F' f') : Sat g F' f' R W o k := by
  cases o with
  | ok a S => exact fun F2 f2 H2 e2 s => h F2 f2 H2 (e.trans e2) s
  | err x S => exact fun F2 f2 H2 C d e2 s r => h F2 f2 H2 C d (e.trans e2) s r
  | stuck => exact h
theorem Sat.imp (h : Sat g F f R W o k) (hk : ∀ a F' f' S H, Ext F f F' f' → Sm g F' f' R S H → o = .ok a S → k a F' f' S H → k' a F' f' S H) : Sat g F f R W o k' := by
  cases o with
  | ok a S => exact fun F2 f2 H2 e2 s => hk _ _ _ _ _ e2 s rfl (h F2 f2 H2 e2 s)
  | err x S => exact h
  | stuck => exact h
theorem Sat.bind {φ : α → Store → Out β} {k : Kn β} (h : Sat g F f R W (o.bind φ) k) : Sat g F f R W o fun a F' f' S' H' => Sat g F' f' R W (φ a S') k := by
  cases o with
  | ok a S => exact fun F2 f2 H2 e2 s => Sat.step h e2
  | err x S => exact h
  | stuck => exact h
/-- a value is there -/
theorem Sat.ok {a : α} {S : Store} {H : Hp} (h : Sat g F f R W (.ok a S) k) (s : Sm g F f R S H) : k a F f S H := h F f H (Ext.refl _ _) s
end
/-- a reading from a meaning -/
def rdG {α β : Type} (g : Gc) (W : WX) (rel : Hp → List Addr → β → α → Prop) (t : TD α) : St → Hp → (β → Hp → Prop) → Prop := fun σ H Q =>
  ∃ F f R ρ S, Sm g F f R S H ∧ En g F f ρ σ ∧ Sat g F f R (fun C d H' => W C d σ H') (t ρ S) fun v F' f' S' H' => ∀ x, rel F' f' x v → Q x H'
abbrev rd (g : Gc) (W : WX) (t : TD Val) : TE := rdG g W (fun F f x v => VR g F f x v) t
abbrev rdA (g : Gc) (W : WX) (t : TD (List Val)) : TA := rdG g W (fun F f x v => VRs g F f x v) t
abbrev rdT (g : Gc) (W : WX) (t : TD Bool) : TT := rdG g W (fun _ _ x v => x = v) t
section
variable {α β γ δ : Type} {g : Gc} {F : Hp} {f : List Addr} {R : Rs} {W : WX} {S : Store} {H : Hp} {ρ : EnvD} {σ : St} {rel : Hp → List Addr → β → α → Prop} {t : TD α} {Q : β → Hp → Prop}
theorem rd_of {k : Kn α} (s : Sm g F f R S H) (e : En g F f ρ σ) (h : Sat g F f R (fun C d H' => W C d σ H') (t ρ S) k)
    (hk : ∀ v F' f' S' H' x, Ext F f F' f' → Sm g F' f' R S' H' → En g F' f' ρ σ → rel F' f' x v → k v F' f' S' H' → Q x H') : rdG g W rel t σ H Q :=
  ⟨F, f, R, ρ, S, s, e, h.imp fun a F' f' S' H' x s' _ q y r => hk a F' f' S' H' y x s' (e.sub x) r q⟩
theorem rd_bind {φ : α → Store → Out γ} {k : Kn γ} (s : Sm g F f R S H) (e : En g F f ρ σ) (h : Sat g F f R (fun C d H' => W C d σ H') ((t ρ S).bind φ) k)
    (hk : ∀ v F' f' S' H' x, Ext F f F' f' → Sm g F' f' R S' H' → En g F' f' ρ σ → rel F' f' x v → Sat g F' f' R (fun C d H' => W C d σ H') (φ v S') k → Q x H') : rdG g W rel t σ H Q :=
  rd_of s e h.bind hk
end
/-! ### a weaker reading -/
theorem PE.imp {X : Cx} {e : Expr} {t u : TE} (h : PE X e t) (i : ∀ σ H Q, u σ H Q → t σ H Q) : PE X e u := ⟨fun pins s σ H Q I q => h.run pins s σ H Q I (i σ H Q q)⟩
theorem PT.imp {X : Cx} {e : Expr} {t u : TT} (h : PT X e t) (i : ∀ σ H Q, u σ H Q → t σ H Q) : PT X e u := ⟨fun pins s σ H Q I q => h.run pins s σ H Q I (i σ H Q q)⟩
theorem PW.imp {X : Cx} {e : Expr} {t u : TT} (h : PW X e t) (i : ∀ σ H Q, u σ H Q → t σ H Q) : PW X e u := ⟨fun wh pins s σ H Q I q => h.run wh pins s σ H Q I (i σ H Q q)⟩
theorem PA.imp {X : Cx} {e : List Expr} {t u : TA} (h : PA X e t) (i : ∀ σ H Q, u σ H Q → t σ H Q) : PA X e u := ⟨fun pos pins s σ H Q I q => h.run pos pins s σ H Q I (i σ H Q q)⟩
theorem PS.imp {X : Cx} {e : Stmt} {t u : TS} (h : PS X e t) (i : ∀ D σ H, u D σ H → t D σ H) : PS X e u := ⟨fun pins s σ H Q I q => h.run pins s σ H Q I (i Q σ H q)⟩
theorem PSs.imp {X : Cx} {e : List Stmt} {t u : TS} (h : PSs X e t) (i : ∀ D σ H, u D σ H → t D σ H) : PSs X e u := ⟨fun pins s σ H Q I q => h.run pins s σ H Q I (i Q σ H q)⟩
end Ev
end

section
set_option Elab.async false
set_option linter.all false
set_option maxRecDepth 100000
set_option maxHeartbeats 4000000
/-! E2: the small syntax and its meaning on data (no heap here) -/
namespace Ev
open PySem PySem.Spec L2

/-! ### operations on values -/
def seqOf (S : Store) : Val → Option (List PyData)
  | .d (.list xs) => some xs
  | .d (.tuple xs) => some xs
  | .loc n => match S[n]? with
    | some (.lst xs) => some xs
    | _ => none
  | _ => none
def lstOf (S : Store) : Val → Option (List PyData)
  | .d (.list xs) => some xs
  | .loc n => match S[n]? with
    | some (.lst xs) => some xs
    | _ => none
  | _ => none
/-- the data that some parts are now -/
def elsD (S : Store) : List El → Option (List PyData)
  | [] => some []
  | .d x :: r => (elsD S r).map (x :: ·)
  | .loc n :: r => match S[n]? with
    | some (.lst xs) => (elsD S r).map (.list xs :: ·)
    | _ => none
/-- the data that a value is now -/
def datOf (S : Store) : Val → Option PyData
  | .d x => some x
  | .loc n => match S[n]? with
    | some (.lst xs) => some (.list xs)
    | _ => none
  | .fn _ => none
  | .tp es => (elsD S es).map .tuple
  | .ls es => (elsD S es).map .list
def truV (S : Store) : Val → Option Bool
  | .d .none => some false
  | .d (.bool b) => some b
  | .d (.int i) => some (i != 0)
  | .d (.str s) => if s.length ≤ sizeLine then some ((s.length : Int) != 0) else none
  | .d (.list xs) => some (!xs.isEmpty)
  | .d (.tuple xs) => some (!xs.isEmpty)
  | .loc n => match S[n]? with
    | some (.lst xs) => some (!xs.isEmpty)
    | _ => none
  | _ => none
def okIf (c : Prop) [Decidable c] (v : PyData) (S : Store) : Out Val := if c then .ok (.d v) S else .stuck
/-- x, n times -/
def repS (x : Str) (n : Nat) : Str := ⟨(List.replicate n x.cps).foldl (· ++ ·) #[]⟩
theorem fold_cat (a : Array Nat) : ∀ (n : Nat) (acc : Array Nat), ((List.replicate n a).foldl (· ++ ·) acc).toList = acc.toList ++ (List.replicate n a.toList).flatten
  | 0, acc => by simp
  | n + 1, acc => by
    rw [List.replicate_succ, List.foldl_cons, fold_cat a n]
    simp [List.replicate_succ]
theorem repS_list (x : Str) (n : Nat) : (repS x n).cps.toList = (List.replicate n x.cps.toList).flatten := by
  have := fold_cat x.cps n #[]
  simpa [repS] using this
theorem repS_len (x : Str) (n : Nat) : (repS x n).length = n * x.length := by
  show (repS x n).cps.size = n * x.cps.size
  rw [← Array.length_toList, repS_list]
  simp
def binV (op : Operator) (v u : Val) (S : Store) : Out Val := match op, v, u with
  | .Add, .d (.int i), .d (.int j) => .ok (.d (.int (i + j))) S
  | .Add, .d (.str i), .d (.str j) => okIf (i.length + j.length ≤ sizeLine) (.str (i ++ j)) S
  | .Add, .d (.tuple xs), .d (.tuple ys) => okIf (xs.length + ys.length ≤ sizeLine) (.tuple (xs ++ ys)) S
  | .Add, .d (.list xs), .d (.list ys) => okIf (xs.length + ys.length ≤ sizeLine) (.list (xs ++ ys)) S
  | .Add, .loc n, .loc m => match lstOf S (.loc n), lstOf S (.loc m) with
    | some xs, some ys => okIf (xs.length + ys.length ≤ sizeLine) (.list (xs ++ ys)) S
    | _, _ => .stuck
  | .Add, .d (.list zs), .loc m => match lstOf S (.d (.list zs)), lstOf S (.loc m) with
    | some xs, some ys => okIf (xs.length + ys.length ≤ sizeLine) (.list (xs ++ ys)) S
    | _, _ => .stuck
  | .Add, .loc n, .d (.list zs) => match lstOf S (.loc n), lstOf S (.d (.list zs)) with
    | some xs, some ys => okIf (xs.length + ys.length ≤ sizeLine) (.list (xs ++ ys)) S
    | _, _ => .stuck
  | .Sub, .d (.int i), .d (.int j) => .ok (.d (.int (i - j))) S
  | .Mult, .d (.int i), .d (.int j) => okIf ((-(2 ^ 64) < i ∧ i < 2 ^ 64) ∨ (-(2 ^ 64) < j ∧ j < 2 ^ 64)) (.int (i * j)) S
  | .Mult, .d (.tuple xs), .d (.int j) => okIf (j = 1 ∨ (xs.isEmpty = false ∧ 2 ≤ j ∧ j ≤ 1000 ∧ xs.length ≤ 1000)) (.tuple (List.replicate j.toNat xs).flatten) S
  | .Mult, .d (.list xs), .d (.int j) => okIf (-(2 ^ 63) ≤ j ∧ j < 2 ^ 63 ∧ xs.length * j.toNat ≤ sizeLine) (.list (List.replicate j.toNat xs).flatten) S
  | .Mult, .d (.str x), .d (.int j) => okIf (2 ≤ j ∧ j ≤ 1000 ∧ 1 ≤ x.length ∧ x.length ≤ 1000) (.str (repS x j.toNat)) S
  | .Mod, .d (.int i), .d (.int j) => okIf (j ≠ 0) (.int (i.fmod j)) S
  | .FloorDiv, .d (.int i), .d (.int j) => okIf (j ≠ 0 ∧ j.natAbs < 1073741824) (.int (i.fdiv j)) S
  | .Pow, .d (.int i), .d (.int j) => okIf (0 ≤ j ∧ j ≤ 1000000 ∧ i.natAbs < 2 ^ 64) (.int (i ^ j.toNat)) S
  | _, _, _ => .stuck
/-- ints, all of a list -/
def intsOf : List PyData → Option (List Int)
  | [] => some []
  | .int i :: r => (intsOf r).map (i :: ·)
  | _ => none
def boolsOf : List PyData → Option (List Bool)
  | [] => some []
  | .bool i :: r => (boolsOf r).map (i :: ·)
  | _ => none
def cmpV (op : CmpOp) (v u : Val) (S : Store) : Out Val := match op with
  | .Eq => match v, u with
    | .d (.str i), .d (.str j) => .ok (.d (.bool (i == j))) S
    | v, u => match datOf S v, datOf S u with
      | some x, some y => okIf (SeqAt.shaped x = true ∧ SeqAt.shaped y = true) (.bool (PyData.eqv x y)) S
      | _, _ => .stuck
  | .NotEq => match v, u with
    | .d (.str i), .d (.str j) => .ok (.d (.bool (!(i == j)))) S
    | v, u => match datOf S v, datOf S u with
      | some x, some y => okIf (SeqAt.shaped x = true ∧ SeqAt.shaped y = true) (.bool (!PyData.eqv x y)) S
      | _, _ => .stuck
  | .Lt => match v, u with
    | .d (.int i), .d (.int j) => .ok (.d (.bool (decide (i < j)))) S
    | .d (.str i), .d (.str j) => .ok (.d (.bool (decide (i.cps.toList < j.cps.toList)))) S
    | .d (.tuple xs), .d (.tuple ys) => match intsOf xs, intsOf ys with
      | some ns, some ms => .ok (.d (.bool (HT.lexLt ns ms))) S
      | _, _ => .stuck
    | _, _ => .stuck
  | .LtE => match v, u with
    | .d (.int i), .d (.int j) => .ok (.d (.bool (decide (i ≤ j)))) S
    | .d (.str i), .d (.str j) => .ok (.d (.bool (!decide (j.cps.toList < i.cps.toList)))) S
    | _, _ => .stuck
  | .Gt => match v, u with
    | .d (.int i), .d (.int j) => .ok (.d (.bool (decide (j < i)))) S
    | _, _ => .stuck
  | .GtE => match v, u with
    | .d (.int i), .d (.int j) => .ok (.d (.bool (decide (j ≤ i)))) S
    | _, _ => .stuck
  | .Is => match v, u with
    | .d .none, .d .none => .ok (.d (.bool true)) S
    | .d (.bool a), .d (.bool b) => .ok (.d (.bool (decide (a = b)))) S
    | .d .none, .d (.bool _) => .ok (.d (.bool false)) S
    | _, .d .none => .ok (.d (.bool false)) S
    | _, _ => .stuck
  | .IsNot => match v, u with
    | .d .none, .d .none => .ok (.d (.bool false)) S
    | _, .d .none => .ok (.d (.bool true)) S
    | _, _ => .stuck
  | .In => match u with
    | .d (.str z) => match v with
      | .d (.str x) => okIf (x.length = 1) (.bool (decide (x.cps.getD 0 0 ∈ z.cps.toList))) S
      | _ => .stuck
    | _ => match datOf S v, seqOf S u with
      | some x, some ys => okIf (SeqAt.shaped x = true ∧ SeqAt.shaped (.list ys) = true) (.bool (ys.any fun z => PyData.eqv z x)) S
      | _, _ => .stuck
  | .NotIn => match u with
    | .d (.str z) => match v with
      | .d (.str x) => okIf (x.length = 1) (.bool (!decide (x.cps.getD 0 0 ∈ z.cps.toList))) S
      | _ => .stuck
    | _ => match datOf S v, seqOf S u with
      | some x, some ys => okIf (SeqAt.shaped x = true ∧ SeqAt.shaped (.list ys) = true) (.bool (!ys.any fun z => PyData.eqv z x)) S
      | _, _ => .stuck
def idxV (v u : Val) (S : Store) : Out Val := match u with
  | .d (.int i) => match v with
    | .d (.str z) => if z.length ≤ sizeLine then match atI z.cps.toList i with
        | some c => .ok (.d (.str ⟨#[c]⟩)) S
        | none => .stuck
      else .stuck
    | .tp es => match atI es i with
      | some x => .ok x.val S
      | none => .stuck
    | .ls es => match atI es i with
      | some x => .ok x.val S
      | none => .stuck
    | _ => match seqOf S v with
      | some xs => match atI xs i with
        | some x => .ok (.d x) S
        | none => .stuck
      | none => .stuck
  | _ => .stuck
def prtV (v : Val) (S : Store) : Out (Option Int) := match v with
  | .d (.int i) => .ok (some i) S
  | _ => .stuck
def cutD (xs : List PyData) (lo hi : Option Int) : List PyData := (xs.drop (HT.sIx xs.length 0 lo)).take (HT.sIx xs.length xs.length hi - HT.sIx xs.length 0 lo)
/-- v[lo:hi] -/
def sliV (v : Val) (lo hi : Option Int) (S : Store) : Out Val := match v with
  | .d (.str z) => okIf (z.length ≤ sizeLine) (.str (cutS z lo hi)) S
  | .d (.tuple xs) => .ok (.d (.tuple (cutD xs lo hi))) S
  | _ => match lstOf S v with
    | some xs => .ok (.d (.list (cutD xs lo hi))) S
    | none => .stuck
/-- v[::-1], v[:0:-1] -/
def revV (z : Bool) (v : Val) (S : Store) : Out Val := match v with
  | .d (.tuple xs) => .ok (.d (.tuple (if z = true then (xs.drop 1).reverse else xs.reverse))) S
  | _ => match lstOf S v with
    | some xs => if z = true then .stuck else .ok (.d (.list xs.reverse)) S
    | none => .stuck
/-- the kinds that isinstance is asked for -/
inductive Ty where
  | int | bool | str | tuple | list | dict
  deriving DecidableEq
def Ty.name : Ty → String
  | .int => "int" | .bool => "bool" | .str => "str" | .tuple => "tuple" | .list => "list" | .dict => "dict"
def isTy (S : Store) (v : Val) (t : Ty) : Option Bool := match v with
  | .d .none => some false
  | .d (.bool _) => some (t == .bool || t == .int)
  | .d (.int _) => some (t == .int)
  | .d (.str _) => some (t == .str)
  | .d (.tuple _) => some (t == .tuple)
  | .d (.list _) => some (t == .list)
  | .d (.dict _) => some (t == .dict)
  | .loc n => match S[n]? with
    | some (.lst _) => some (t == .list)
    | _ => none
  | _ => none
/-- one of some kinds -/
def isTys (S : Store) (v : Val) : List Ty → Option Bool
  | [] => some false
  | t :: ts => match isTy S v t, isTys S v ts with
    | some a, some b => some (a || b)
    | _, _ => none
def addD (acc : List Str) (x : Str) : List Str := if x ∈ acc then acc else acc ++ [x]
/-- whole numbers, rising, each once -/
def insU (x : Int) : List Int → List Int
  | [] => [x]
  | y :: r => if x < y then x :: y :: r else if x = y then y :: r else y :: insU x r
def sortU (ns : List Int) : List Int := ns.foldr insU []
/-- the texts, each once -/
def onceS (xs : List Str) : List Str := xs.foldl addD []
inductive BI where
  | len | all | any | tuple | list | sum | abs | max2 | min2 | int | strI | divmod | repr | ord | lenSet | listM | sortSet
  deriving DecidableEq
def strsOf : List PyData → Option (List Str)
  | [] => some []
  | .str i :: r => (strsOf r).map (i :: ·)
  | _ => none
def biV (b : BI) (vs : List Val) (S : Store) : Out Val := match b, vs with
  | .len, [.d (.str s)] => okIf (s.length ≤ sizeLine) (.int s.length) S
  | .len, [v] => match seqOf S v with
    | some xs => .ok (.d (.int xs.length)) S
    | none => .stuck
  | .all, [v] => match (lstOf S v).bind boolsOf with
    | some bs => .ok (.d (.bool (bs.all id))) S
    | none => .stuck
  | .any, [v] => match (lstOf S v).bind boolsOf with
    | some bs => .ok (.d (.bool (bs.any id))) S
    | none => .stuck
  | .tuple, [v] => match seqOf S v with
    | some xs => .ok (.d (.tuple xs)) S
    | none => .stuck
  | .list, [v] => match seqOf S v with
    | some xs => .ok (.d (.list xs)) S
    | none => .stuck
  | .listM, [v] => match seqOf S v with
    | some xs => .ok (.loc S.length) (S ++ [.lst xs])
    | none => .stuck
  | .sum, [v] => match (lstOf S v).bind intsOf with
    | some ns => .ok (.d (.int ns.sum)) S
    | none => .stuck
  | .abs, [.d (.int i)] => .ok (.d (.int (if i < 0 then -i else i))) S
  | .max2, [.d (.int i), .d (.int j)] => .ok (.d (.int (if j > i then j else i))) S
  | .min2, [.d (.int i), .d (.int j)] => .ok (.d (.int (if j < i then j else i))) S
  | .int, [.d (.int i)] => .ok (.d (.int i)) S
  | .int, [.d (.bool b)] => .ok (.d (.int (if b then 1 else 0))) S
  | .strI, [.d (.int i)] => okIf (i.natAbs.log2 < 1920) (.str (toString i)) S
  | .divmod, [.d (.int i), .d (.int j)] => okIf (0 < j ∧ j < 1073741824) (.tuple [.int (i / j), .int (i % j)]) S
  | .ord, [.d (.str x)] => okIf (x.length = 1) (.int (x.cps.getD 0 0 : Nat)) S
  | .lenSet, [v] => match (seqOf S v).bind strsOf with
    | some ss => okIf (ss.length < 4000) (.int ((onceS ss).length : Nat)) S
    | none => .stuck
  | .sortSet, [.d (.tuple xs)] => match intsOf xs with
    | some ns => okIf (ns.length < 64) (.list ((sortU ns).map .int)) S
    | none => .stuck
  | .repr, [v] => match datOf S v with
    | some x => okIf (x.showable = true ∧ x.depth ≤ 60 ∧ x.shown.length ≤ sizeLine) (.str x.shown) S
    | none => .stuck
  | _, _ => .stuck
inductive Me where
  | append | extend
  deriving DecidableEq
def meV (m : Me) (v : Val) (vs : List Val) (S : Store) : Out Val := match m, v, vs with
  | .append, .loc n, [.d x] => match S[n]? with
    | some (.lst xs) => if xs.length < sizeLine then .ok (.d .none) (S.set n (.lst (xs ++ [x]))) else .stuck
    | _ => .stuck
  | .extend, .loc n, [v] => match S[n]?, lstOf S v with
    | some (.lst xs), some zs => if xs.length + zs.length ≤ sizeLine then .ok (.d .none) (S.set n (.lst (xs ++ zs))) else .stuck
    | _, _ => .stuck
  | _, _, _ => .stuck
/-- methods of texts -/
inductive SM where
  | join | split | splitN | find | findN | index
  deriving DecidableEq
def smV (m : SM) (a : Str) (vs : List Val) (S : Store) : Out Val := match m, vs with
  | .join, [v] => match (seqOf S v).bind strsOf with
    | some ys => okIf ((ys.map (·.length)).sum + ys.length * a.length ≤ 16777216) (.str (Txt.join a ys)) S
    | none => .stuck
  | .split, [.d (.str b)] => okIf ((b.length == 0) = false ∧ a.length + 2 ≤ sizeLine) (.list ((Txt.split a b).map .str)) S
  | .splitN, [.d (.str b), .d (.int k)] => okIf ((b.length == 0) = false ∧ -(2 ^ 63) ≤ k ∧ k < 2 ^ 63 ∧ a.length + 2 ≤ sizeLine) (.list ((Txt.splitMax a b k).map .str)) S
  | .find, [.d (.str b)] => .ok (.d (.int (Txt.find a b))) S
  | .findN, [.d (.str b), .d (.int i)] => .ok (.d (.int (Txt.find3 a b i))) S
  | .index, [.d (.str b)] => match Builtin.Str.occurrences a b 0 a.length 1 with
    | i :: _ => .ok (.d (.int (i : Nat))) S
    | [] => .stuck
  | _, _ => .stuck
/-- a text -/
def strO (v : Val) (S : Store) : Out Str := match v with
  | .d (.str x) => .ok x S
  | _ => .stuck
/-- a field of an f-string -/
def fmtO (v : Val) (S : Store) : Out Str := match v with
  | .d (.str x) => if x.length ≤ sizeLine then .ok x S else .stuck
  | .d (.int i) => if i.natAbs.log2 < 1920 then .ok (toString i) S else .stuck
  | _ => .stuck
/-- the receiver of a method call -/
def recV (v : Val) (S : Store) : Out Val := match v with
  | .loc n => match S[n]? with
    | some (.lst _) => .ok v S
    | _ => .stuck
  | _ => .stuck
/-- v[u] = w -/
def setV (v u w : Val) (S : Store) : Out Unit := match v, u, w with
  | .loc n, .d (.int i), .d x => match S[n]? with
    | some (.lst xs) => match ixN xs.length i with
      | some j => .ok () (S.set n (.lst (xs.set j x)))
      | none => .stuck
    | _ => .stuck
  | _, _, _ => .stuck
/-- all are data -/
def datas : List Val → Option (List PyData)
  | [] => some []
  | .d x :: r => (datas r).map (x :: ·)
  | _ => none

/-! ### the syntax -/
inductive Tg where
  | nm (i : Nat) | tup (is : List Nat) | nest (i : Nat) (is : List Nat)
mutual
inductive CE where
  | var (i : Nat) | cst (d : PyData) | glb (k : Nat) | fnv (k : Nat)
  | bin (op : Operator) (a b : CE) | cmp (op : CmpOp) (a b : CE) | chn (o1 o2 : CmpOp) (a b c : CE)
  | and (es : CEs) | or (es : CEs) | not (a : CE) | ife (c a b : CE)
  | tup (es : CEs) | lst (m : Bool) (es : CEs) | idx (a i : CE) | sli (a : CE) (lo hi : CO) | rev (z : Bool) (a : CE)
  | call (k : Nat) (es : CEs) | kall (k : Nat) (gs : List Nat) (es ks : CEs) | isi (a : CE) (t : Ty) | isi2 (a : CE) (ts : List Ty) | sme (m : SM) (a : CE) (es : CEs) | fst (es : CEs) | bi (b : BI) (es : CEs) | meth (m : Me) (a : CE) (es : CEs)
  | lc (m : Bool) (elt : CE) (own : List (Str × Nat)) (tg : Tg) (it : CI) (cond : CO)
inductive CEs where
  | nil | cons (a : CE) (es : CEs)
inductive CO where
  | none | some (a : CE)
inductive CI where
  | seq (a : CE) | rng1 (a : CE) | rng2 (a b : CE) | rng3 (a b c : CE) | zip (a b : CE) | enum (a : CE)
end
/-- targets of an unpacking -/
inductive CT where
  | nm (i : Nat) | sub (a i : CE)
mutual
inductive CS where
  | ret (a : CE) | retN | ife (c : CE) (a b : CSs) | asg (t : Tg) (e : CE) | par (is : List Nat) (es : CEs) | seti (a i e : CE) | unp (ts : List CT) (e : CE)
  | for_ (tg : Tg) (it : CI) (b : CSs) | whl (n : Nat) (c : CE) (b : CSs) | expr (e : CE) | pass | brk | cnt | raise (c : Nat) (e : CE) | never
inductive CSs where
  | nil | cons (a : CS) (r : CSs)
end

/-! ### the meaning -/
abbrev Calls := Nat → List Val → Store → Out Val
def dVar (i : Nat) : TD Val := fun ρ S => match ρ[i]? with
  | some (some v) => .ok v S
  | _ => .stuck
def dCst (d : PyData) : TD Val := fun _ S => .ok (.d d) S
def dB2 (φ : Val → Val → Store → Out Val) (a b : TD Val) : TD Val := fun ρ S => (a ρ S).bind fun v S1 => (b ρ S1).bind fun u S2 => φ v u S2
def dU (φ : Val → Store → Out Val) (a : TD Val) : TD Val := fun ρ S => (a ρ S).bind fun v S1 => φ v S1
def dN (φ : List Val → Store → Out Val) (es : TD (List Val)) : TD Val := fun ρ S => (es ρ S).bind fun vs S1 => φ vs S1
/-- a truth value -/
def tobV (v : Val) (S : Store) : Out Bool := match v with
  | .d (.bool b) => .ok b S
  | _ => .stuck
def ofB (o : Out Bool) : Out Val := o.bind fun b S => .ok (.d (.bool b)) S
def truO (v : Val) (S : Store) : Out Bool := match truV S v with
  | some b => .ok b S
  | none => .stuck
def dIf {α : Type} (c : TD Bool) (a b : TD α) : TD α := fun ρ S => (c ρ S).bind fun k S1 => if k = true then a ρ S1 else b ρ S1
def elsOf : List Val → Option (List El)
  | [] => some []
  | .d x :: r => (elsOf r).map (.d x :: ·)
  | .loc n :: r => (elsOf r).map (.loc n :: ·)
  | _ => none
def lstV (m : Bool) (vs : List Val) (S : Store) : Out Val := match datas vs with
  | some xs => if xs.length ≤ sizeLine then (if m = true then .ok (.loc S.length) (S ++ [.lst xs]) else .ok (.d (.list xs)) S) else .stuck
  | none => match elsOf vs with
    | some es => if es.length ≤ sizeLine ∧ m = false then .ok (.ls es) S else .stuck
    | none => .stuck
def tupV (vs : List Val) (S : Store) : Out Val := match datas vs with
  | some xs => okIf (xs.length ≤ sizeLine) (.tuple xs) S
  | none => match elsOf vs with
    | some es => if es.length ≤ sizeLine then .ok (.tp es) S else .stuck
    | none => .stuck
/-- what a loop walks: the items; what the store must hold at each turn -/
structure Itm where
  vs : List Val
  n : Option (Nat × List PyData)
def Itm.ck (w : Itm) (S : Store) : Prop := match w.n with
  | none => True
  | some (n, xs) => S[n]? = some (.lst xs)
def seqI (v : Val) (S : Store) : Out Itm := match v with
  | .d (.list xs) => .ok ⟨xs.map .d, none⟩ S
  | .d (.tuple xs) => .ok ⟨xs.map .d, none⟩ S
  | .d (.str z) => .ok ⟨z.cps.toList.map fun c => .d (.str ⟨#[c]⟩), none⟩ S
  | .loc n => match S[n]? with
    | some (.lst xs) => .ok ⟨xs.map .d, some (n, xs)⟩ S
    | _ => .stuck
  | _ => .stuck
def rngI (lo : Int) (n : Nat) : Itm := ⟨(List.range n).map fun (i : Nat) => Val.d (.int (lo + (i : Int))), none⟩
def rng1I (v : Val) (S : Store) : Out Itm := match v with
  | .d (.int j) => if -(2 ^ 62) ≤ j ∧ j < 2 ^ 62 then .ok (rngI 0 j.toNat) S else .stuck
  | _ => .stuck
def rng2I (v u : Val) (S : Store) : Out Itm := match v, u with
  | .d (.int i), .d (.int j) => if -(2 ^ 62) ≤ i ∧ i < 2 ^ 62 ∧ -(2 ^ 62) ≤ j ∧ j < 2 ^ 62 then .ok (rngI i (j - i).toNat) S else .stuck
  | _, _ => .stuck
/-- range(i, j, -1) -/
def rng3I (v u w : Val) (S : Store) : Out Itm := match v, u, w with
  | .d (.int i), .d (.int j), .d (.int c) => if c = -1 ∧ -(2 ^ 62) ≤ i ∧ i < 2 ^ 62 ∧ -(2 ^ 62) ≤ j ∧ j < 2 ^ 62 then .ok ⟨(List.range (i - j).toNat).map fun (k : Nat) => Val.d (.int (i - (k : Int))), none⟩ S else .stuck
  | _, _, _ => .stuck
def zipI (v u : Val) (S : Store) : Out Itm := match v, u with
  | .d (.list xs), .d (.list ys) => .ok ⟨(xs.zip ys).map fun p => .d (.tuple [p.1, p.2]), none⟩ S
  | .d (.tuple xs), .d (.tuple ys) => .ok ⟨(xs.zip ys).map fun p => .d (.tuple [p.1, p.2]), none⟩ S
  | _, _ => .stuck
def enumI (v : Val) (S : Store) : Out Itm := match v with
  | .d (.list xs) => .ok ⟨xs.zipIdx.map fun p => .d (.tuple [.int (p.2 : Int), p.1]), none⟩ S
  | .d (.tuple xs) => .ok ⟨xs.zipIdx.map fun p => .d (.tuple [.int (p.2 : Int), p.1]), none⟩ S
  | _ => .stuck
/-- names are bound one by one -/
def setAll : List Nat → List PyData → EnvD → EnvD
  | i :: is, x :: xs, ρ => setAll is xs (ρ.set i (some (.d x)))
  | _, _, ρ => ρ
def setEls : List Nat → List El → EnvD → EnvD
  | i :: is, x :: xs, ρ => setEls is xs (ρ.set i (some x.val))
  | _, _, ρ => ρ
def tgt (t : Tg) (v : Val) (ρ : EnvD) : Option EnvD := match t, v with
  | .tup is, .tp xs => if xs.length = is.length then some (setEls is xs ρ) else none
  | .nm i, v => some (ρ.set i (some v))
  | .tup is, .d (.tuple xs) => if xs.length = is.length then some (setAll is xs ρ) else none
  | .nest i is, .d (.tuple [x, .tuple ys]) => if ys.length = is.length then some (setAll is ys (ρ.set i (some (.d x)))) else none
  | _, _ => none
def wipeD (ρ : EnvD) : List Nat → EnvD
  | [] => ρ
  | v :: vs => (wipeD ρ vs).set v none
open Classical in
/-- a comprehension's turns; acc: what is made so far -/
noncomputable def lcD (w : Itm) (tg : Tg) (cond : TD Bool) (elt : TD Val) (ρ : EnvD) : List Val → List PyData → Store → Out (List PyData)
  | [], acc, S => if w.ck S then .ok acc S else .stuck
  | v :: vs, acc, S => if w.ck S then match tgt tg v ρ with
      | some ρ1 => match cond ρ1 S with
        | .ok true S1 => match elt ρ1 S1 with
          | .ok (.d x) S2 => if acc.length < sizeLine then lcD w tg cond elt ρ vs (acc ++ [x]) S2 else .stuck
          | _ => .stuck
        | .ok false S1 => lcD w tg cond elt ρ vs acc S1
        | _ => .stuck
      | none => .stuck
    else .stuck
noncomputable def dLc (m : Bool) (it : TD Itm) (own : List Nat) (tg : Tg) (cond : TD Bool) (elt : TD Val) : TD Val := fun ρ S => match it ρ S with
  | .ok w S1 => match lcD w tg cond elt (wipeD ρ own) w.vs [] S1 with
    | .ok xs S2 => if m = true then .ok (.loc S2.length) (S2 ++ [.lst xs]) else .ok (.d (.list xs)) S2
    | _ => .stuck
  | _ => .stuck
def dCall (C : Calls) (k : Nat) (es : TD (List Val)) : TD Val := dN (C k) es
/-- the values by places: positional ones, then those of keywords -/
def pick (gs : List Nat) (vs : List Val) : Option (List Val) := gs.mapM fun i => vs[i]?
def dKall (C : Calls) (k : Nat) (gs : List Nat) (es ks : TD (List Val)) : TD Val := fun ρ S => (es ρ S).bind fun vs S1 => (ks ρ S1).bind fun us S2 => match pick gs (vs ++ us) with
  | some ws => C k ws S2
  | none => .stuck
def isiV (t : Ty) (v : Val) (S : Store) : Out Val := match isTy S v t with
  | some b => .ok (.d (.bool b)) S
  | none => .stuck
def isiV2 (ts : List Ty) (v : Val) (S : Store) : Out Val := match isTys S v ts with
  | some b => .ok (.d (.bool b)) S
  | none => .stuck
section
variable (Gl : List PyData) (C : Calls)
mutual
noncomputable def dE : CE → TD Val
  | .var i => dVar i
  | .cst d => dCst d
  | .glb k => match Gl[k]? with
    | some d => dCst d
    | none => fun _ _ => .stuck
  | .fnv k => fun _ S => .ok (.fn k) S
  | .bin op a b => dB2 (binV op) (dE a) (dE b)
  | .cmp op a b => dB2 (cmpV op) (dE a) (dE b)
  | .chn o1 o2 a b c => fun ρ S => (dE a ρ S).bind fun v S1 => (dE b ρ S1).bind fun u S2 => (cmpV o1 v u S2).bind fun k S3 => (tobV k S3).bind fun kb S4 => if kb = true then (dE c ρ S4).bind fun z S5 => cmpV o2 u z S5 else .ok (.d (.bool false)) S4
  | .and es => dAnd es
  | .or es => dOr es
  | .not a => fun ρ S => (dE a ρ S).bind fun v S1 => (tobV v S1).bind fun b S2 => .ok (.d (.bool !b)) S2
  | .ife c a b => dIf (dT c) (dE a) (dE b)
  | .tup es => dN tupV (dEs es)
  | .lst m es => dN (lstV m) (dEs es)
  | .idx a i => dB2 idxV (dE a) (dE i)
  | .sli a lo hi => fun ρ S => (dE a ρ S).bind fun v S1 => (dO lo ρ S1).bind fun l S2 => (dO hi ρ S2).bind fun h S3 => sliV v l h S3
  | .rev z a => dU (revV z) (dE a)
  | .call k es => dCall C k (dEs es)
  | .kall k gs es ks => dKall C k gs (dEs es) (dEs ks)
  | .isi a t => dU (isiV t) (dE a)
  | .isi2 a ts => dU (isiV2 ts) (dE a)
  | .sme m a es => fun ρ S => (dE a ρ S).bind fun v S1 => (strO v S1).bind fun x S2 => (dEs es ρ S2).bind fun vs S3 => smV m x vs S3
  | .fst es => dF es Str.empty
  | .bi b es => dN (biV b) (dEs es)
  | .meth m a es => fun ρ S => (dE a ρ S).bind fun u S0 => (recV u S0).bind fun v S1 => (dEs es ρ S1).bind fun vs S2 => meV m v vs S2
  | .lc m elt own tg it cond => dLc m (dI it) (own.map (·.2)) tg (dC cond) (dE elt)
noncomputable def dEs : CEs → TD (List Val)
  | .nil => fun _ S => .ok [] S
  | .cons a es => fun ρ S => (dE a ρ S).bind fun v S1 => (dEs es ρ S1).bind fun vs S2 => .ok (v :: vs) S2
/-- the fields of an f-string, one behind the other -/
noncomputable def dF : CEs → Str → TD Val
  | .nil, acc => fun _ S => .ok (.d (.str acc)) S
  | .cons a es, acc => fun ρ S => (dE a ρ S).bind fun v S1 => (fmtO v S1).bind fun y S2 => if (acc ++ y).length ≤ sizeLine then dF es (acc ++ y) ρ S2 else .stuck
noncomputable def dO : CO → TD (Option Int)
  | .none => fun _ S => .ok none S
  | .some a => fun ρ S => (dE a ρ S).bind prtV
/-- a comprehension's test -/
noncomputable def dC : CO → TD Bool
  | .none => fun _ S => .ok true S
  | .some a => dT a
noncomputable def dI : CI → TD Itm
  | .seq a => fun ρ S => (dE a ρ S).bind seqI
  | .rng1 a => fun ρ S => (dE a ρ S).bind rng1I
  | .rng2 a b => fun ρ S => (dE a ρ S).bind fun v S1 => (dE b ρ S1).bind fun u S2 => rng2I v u S2
  | .rng3 a b c => fun ρ S => (dE a ρ S).bind fun v S1 => (dE b ρ S1).bind fun u S2 => (dE c ρ S2).bind fun w S3 => rng3I v u w S3
  | .zip a b => fun ρ S => (dE a ρ S).bind fun v S1 => (dE b ρ S1).bind fun u S2 => zipI v u S2
  | .enum a => fun ρ S => (dE a ρ S).bind enumI
noncomputable def dAnd : CEs → TD Val
  | .nil => fun _ _ => .stuck
  | .cons a .nil => dE a
  | .cons a (.cons b r) => fun ρ S => (dE a ρ S).bind fun v S1 => (tobV v S1).bind fun k S2 => if k = true then dAnd (.cons b r) ρ S2 else .ok (.d (.bool false)) S2
noncomputable def dOr : CEs → TD Val
  | .nil => fun _ _ => .stuck
  | .cons a .nil => dE a
  | .cons a (.cons b r) => fun ρ S => (dE a ρ S).bind fun v S1 => (tobV v S1).bind fun k S2 => if k = true then .ok (.d (.bool true)) S2 else dOr (.cons b r) ρ S2
/-- a test -/
noncomputable def dT : CE → TD Bool
  | .and es => tAnd es
  | .or es => tOr es
  | .not a => fun ρ S => (dT a ρ S).bind fun b S1 => .ok (!b) S1
  | .cmp op a b => fun ρ S => (dB2 (cmpV op) (dE a) (dE b) ρ S).bind tobV
  | .chn o1 o2 a b c => fun ρ S => (dE a ρ S).bind fun v S1 => (dE b ρ S1).bind fun u S2 => (cmpV o1 v u S2).bind fun k S3 => (tobV k S3).bind fun kb S4 => if kb = true then (dE c ρ S4).bind fun z S5 => (cmpV o2 u z S5).bind tobV else .ok false S4
  | .var i => fun ρ S => (dVar i ρ S).bind truO
  | .idx a i => fun ρ S => (dB2 idxV (dE a) (dE i) ρ S).bind truO
  | .call k es => fun ρ S => (dCall C k (dEs es) ρ S).bind truO
  | .isi a t => fun ρ S => (dU (isiV t) (dE a) ρ S).bind truO
  | .isi2 a ts => fun ρ S => (dU (isiV2 ts) (dE a) ρ S).bind truO
  | .bi b es => fun ρ S => (dN (biV b) (dEs es) ρ S).bind truO
  | .cst d => fun ρ S => (dCst d ρ S).bind truO
  | _ => fun _ _ => .stuck
noncomputable def tAnd : CEs → TD Bool
  | .nil => fun _ _ => .stuck
  | .cons a .nil => dT a
  | .cons a (.cons b r) => fun ρ S => (dT a ρ S).bind fun k S1 => if k = true then tAnd (.cons b r) ρ S1 else .ok false S1
noncomputable def tOr : CEs → TD Bool
  | .nil => fun _ _ => .stuck
  | .cons a .nil => dT a
  | .cons a (.cons b r) => fun ρ S => (dT a ρ S).bind fun k S1 => if k = true then .ok true S1 else tOr (.cons b r) ρ S1
end
/-! ### statements -/
def SOut.seq (o : SOut) (k : EnvD → Store → SOut) : SOut := match o with
  | .next ρ S => k ρ S
  | o => o
def Out.s {α : Type} (o : Out α) (ρ : EnvD) (k : α → Store → SOut) : SOut := match o with
  | .ok a S => k a S
  | .err e S => .err e ρ S
  | .stuck => .stuck
open Classical in
noncomputable def forD (w : Itm) (tg : Tg) (body : SD) : List Val → EnvD → Store → SOut
  | [], ρ, S => if w.ck S then .next ρ S else .stuck
  | v :: vs, ρ, S => if w.ck S then match tgt tg v ρ with
      | some ρ1 => match body ρ1 S with
        | .next ρ2 S2 => forD w tg body vs ρ2 S2
        | .cont ρ2 S2 => forD w tg body vs ρ2 S2
        | .brk ρ2 S2 => .next ρ2 S2
        | .ret u S2 => .ret u S2
        | .err e ρ2 S2 => .err e ρ2 S2
        | .stuck => .stuck
      | none => .stuck
    else .stuck
def whlD (c : TD Bool) (body : SD) : Nat → EnvD → Store → SOut
  | 0, _, _ => .stuck
  | n + 1, ρ, S => (c ρ S).s ρ fun k S1 => if k = true then match body ρ S1 with
      | .next ρ2 S2 => whlD c body n ρ2 S2
      | .cont ρ2 S2 => whlD c body n ρ2 S2
      | .brk ρ2 S2 => .next ρ2 S2
      | o => o
    else .next ρ S1
/-- the targets of an unpacking, from the left -/
noncomputable def unpD : List CT → List PyData → SD
  | [], _, ρ, S => .next ρ S
  | .nm i :: ts, x :: xs, ρ, S => unpD ts xs (ρ.set i (some (.d x))) S
  | .sub a i :: ts, x :: xs, ρ, S => ((dE Gl C a ρ S).bind fun v S1 => (dE Gl C i ρ S1).bind fun u S2 => setV v u (.d x) S2).s ρ fun _ S3 => unpD ts xs ρ S3
  | _, _, _, _ => .stuck
/-- a, b = x, y: stored from the right (no name twice) -/
def parD : List Nat → List Val → EnvD → EnvD
  | i :: is, v :: vs, ρ => parD is vs (ρ.set i (some v))
  | _, _, ρ => ρ
mutual
noncomputable def dS : CS → SD
  | .ret a => fun ρ S => (dE Gl C a ρ S).s ρ fun v S1 => .ret v S1
  | .retN => fun _ S => .ret (.d .none) S
  | .ife c a b => fun ρ S => (dT Gl C c ρ S).s ρ fun k S1 => if k = true then dSs a ρ S1 else dSs b ρ S1
  | .asg t e => fun ρ S => (dE Gl C e ρ S).s ρ fun v S1 => match tgt t v ρ with
    | some ρ1 => .next ρ1 S1
    | none => .stuck
  | .par is es => fun ρ S => (dEs Gl C es ρ S).s ρ fun vs S1 => if vs.length = is.length then .next (parD is vs ρ) S1 else .stuck
  | .seti a i e => fun ρ S => ((dE Gl C e ρ S).bind fun w S1 => (dE Gl C a ρ S1).bind fun v S2 => (dE Gl C i ρ S2).bind fun u S3 => setV v u w S3).s ρ fun _ S4 => .next ρ S4
  | .unp ts e => fun ρ S => (dE Gl C e ρ S).s ρ fun v S1 => match v with
    | .d (.tuple xs) => if xs.length = ts.length then unpD Gl C ts xs ρ S1 else .stuck
    | _ => .stuck
  | .for_ tg it b => fun ρ S => (dI Gl C it ρ S).s ρ fun w S1 => forD w tg (dSs b) w.vs ρ S1
  | .whl n c b => fun ρ S => whlD (dT Gl C c) (dSs b) n ρ S
  | .expr e => fun ρ S => (dE Gl C e ρ S).s ρ fun _ S1 => .next ρ S1
  | .pass => fun ρ S => .next ρ S
  | .brk => fun ρ S => .brk ρ S
  | .cnt => fun ρ S => .cont ρ S
  | .raise c e => fun ρ S => (dE Gl C e ρ S).s ρ fun v S1 => match v with
    | .d x => .err ⟨c, x⟩ ρ S1
    | _ => .stuck
  | .never => fun _ _ => .stuck
noncomputable def dSs : CSs → SD
  | .nil => fun ρ S => .next ρ S
  | .cons a r => fun ρ S => (dS a ρ S).seq fun ρ1 S1 => dSs r ρ1 S1
end
end
/-! ### defs -/
/-- data, or a list made since -/
def newEl (n : Nat) : El → Bool
  | .d _ => true
  | .loc m => decide (n ≤ m)
def allD : List El → Bool
  | [] => true
  | .d _ :: r => allD r
  | _ => false
/-- the one list in it: where it stood; the parts with its new place -/
def oldLoc (n : Nat) : List El → Option (Nat × List El)
  | [] => none
  | .d x :: r => (oldLoc n r).map fun p => (p.1, .d x :: p.2)
  | .loc m :: r => if allD r = true then some (m, .loc n :: r) else none
/-- the store behind a call: what the callee made is dropped, but the list it hands back (mu: to be written further) -/
def back (mu : Bool) (n : Nat) (v : Val) (S : Store) : Out Val := match v with
  | .loc m => if m < n then .ok v (S.take n) else match S[m]? with
    | some (.lst xs) => if mu = true then .ok (.loc n) (S.take n ++ [.lst xs]) else .ok (.d (.list xs)) (S.take n)
    | none => .stuck
  | .tp es => if es.all (newEl n) = true then (if mu = true then match oldLoc n es with
      | some (m, es') => match S[m]? with
        | some ob => .ok (.tp es') (S.take n ++ [ob])
        | none => .stuck
      | none => .stuck
    else match elsD S es with
      | some xs => .ok (.d (.tuple xs)) (S.take n)
      | none => .stuck) else .stuck
  | .ls _ => .stuck
  | v => .ok v (S.take n)
def ofS (mu : Bool) (n : Nat) : SOut → Out Val
  | .next _ S => .ok (.d .none) (S.take n)
  | .ret v S => back mu n v S
  | .err e _ S => .err e (S.take n)
  | _ => .stuck
structure Df where
  np : Nat
  nn : Nat
  body : CSs
  mu : Bool := false
def entry (np nn : Nat) (vs : List Val) : EnvD := vs.map some ++ List.replicate (nn - vs.length) none
/-- what the defs do, n calls deep -/
noncomputable def sem (Gl : List PyData) (T : List Df) : Nat → Calls
  | 0 => fun _ _ _ => .stuck
  | n + 1 => fun k vs S => match T[k]? with
    | some d => if vs.length = d.np then ofS d.mu S.length (dSs Gl (sem Gl T n) d.body (entry d.np d.nn vs) S) else .stuck
    | none => .stuck
end Ev
end

section
set_option Elab.async false
set_option linter.all false
set_option maxRecDepth 100000
set_option maxHeartbeats 4000000
/-! E3: the operations on values, by the hand layer's rules -/
namespace Ev
open PySem PySem.Spec PyProof.Rows L2

theorem OpR.or {X : Cx} {f : Value → Value → Sem Value} {r r' : R2} (h : OpR X f r) (h' : OpR X f r') : OpR X f (fun x y H Q => r x y H Q ∨ r' x y H Q) := by
  intro pins s σ H x y v u Q I rx ry q
  rcases q with q | q
  · exact h pins s σ H x y v u Q I rx ry q
  · exact h' pins s σ H x y v u Q I rx ry q
/-! ### data as the layer's data -/
mutual
theorem Da.dp {K : PySem.W.Frag} {F H : Hp} (e : ∀ b o, F b = some o → H b = some o) : ∀ {d : PyData} {v : V}, d.canLay0 = true → Da K F v d → Dp K H v d
  | _, _, _, .non => .non
  | _, _, _, .bl b => .bl b
  | _, _, _, .int b => .int b
  | _, _, _, .str b => .str b
  | _, _, c, .lst h t => .lst (.inl (Rd.sub e h)) (DaAll.dp e (by simpa [PyData.canLay0] using c) t)
  | _, _, c, .tup h t => .tup (SqT.sub e h) (DaAll.dp e (by simpa [PyData.canLay0] using c) t)
  | _, _, c, .dct _ => by simp [PyData.canLay0] at c
theorem DaAll.dp {K : PySem.W.Frag} {F H : Hp} (e : ∀ b o, F b = some o → H b = some o) : ∀ {ds : List PyData} {vs : List V}, PyData.canLayAll0 ds = true → DaAll K F vs ds → DpAll K H vs ds
  | _, _, _, .nil => .nil
  | _, _, c, .cons h t => by
    have c' : _ = true ∧ _ = true := Bool.and_eq_true_iff.mp (by simpa [PyData.canLayAll0] using c)
    exact .cons (Da.dp e c'.1 h) (DaAll.dp e c'.2 t)
end
section
variable {g : Gc} {F : Hp} {f : List Addr} {R : Rs} {S : Store} {H : Hp}
theorem els_da (s : Sm g F f R S H) : ∀ {es : List El} {xs : List V} {ds : List PyData}, ElRs g F f xs es → elsD S es = some ds → DaAll g.K H xs ds
  | [], _, _, .nil, e => by cases e; exact .nil
  | .d x :: es, _, _, .cons r t, e => by
    unfold elsD at e
    cases q : elsD S es with
    | none => rw [q] at e; cases e
    | some l => rw [q] at e; cases e; exact .cons (Da.sub s.le r) (els_da s t q)
  | .loc n :: es, _, _, .cons r t, e => by
    unfold elsD at e
    split at e
    · rename_i zs hS
      cases q : elsD S es with
      | none => rw [q] at e; cases e
      | some l =>
        rw [q] at e; cases e
        obtain ⟨a, h1, rfl⟩ := r
        obtain ⟨a', ys, q1, q2, q3⟩ := s.getL hS
        rw [h1] at q1; cases q1
        exact .cons (.lst (.inl q2) (DaAll.sub s.le q3)) (els_da s t q)
    · cases e
theorem dat_dp (s : Sm g F f R S H) {v : Val} {x : V} {d : PyData} (r : VR g F f x v) (e : datOf S v = some d) (c : SeqAt.shaped d = true) : Dp g.K H x d := by
  have c' := SeqAt.canLay_of_shaped c
  cases v with
  | d y => cases e; exact Da.dp s.le c' r
  | fn k => cases e
  | tp es =>
    obtain ⟨a, xs, rfl, h1, h2⟩ := r
    cases q : elsD S es with
    | none => simp [datOf, q] at e
    | some l =>
      simp [datOf, q] at e
      subst e
      exact Da.dp (fun _ _ z => z) c' (.tup (SqT.sub s.le h1) (els_da s h2 q))
  | ls es =>
    obtain ⟨a, xs, rfl, h1, h2⟩ := r
    cases q : elsD S es with
    | none => simp [datOf, q] at e
    | some l =>
      simp [datOf, q] at e
      subst e
      exact Da.dp (fun _ _ z => z) c' (.lst (Rd.sub s.le h1) (els_da s h2 q))
  | loc n =>
    obtain ⟨a, h1, rfl⟩ := r
    unfold datOf at e
    split at e
    · rename_i xs hx
      cases hx
    · rename_i n' hx
      cases hx
      split at e
      · rename_i xs hS
        cases e
        obtain ⟨a', ys, q1, q2, q3⟩ := s.getL hS
        rw [h1] at q1; cases q1
        exact .lst (.inl (.inl q2)) (DaAll.dp s.le (by simpa [PyData.canLay0] using c') q3)
      · cases e
    all_goals (rename_i z; cases z)
/-- a sequence as it is read -/
theorem seq_of (s : Sm g F f R S H) {v : Val} {x : V} {ds : List PyData} (r : VR g F f x v) (e : seqOf S v = some ds) : ∃ a xs, x = .ref a ∧ (Rd H a (.lst xs) ∨ (SqT g.K H a xs ∧ v = .d (.tuple ds))) ∧ DaAll g.K F xs ds := by
  unfold seqOf at e
  split at e
  · cases e
    cases r with
    | lst h t => exact ⟨_, _, rfl, .inl (Rd.sub s.le h), t⟩
  · cases e
    cases r with
    | tup h t => exact ⟨_, _, rfl, .inr ⟨SqT.sub s.le h, rfl⟩, t⟩
  · split at e
    · rename_i xs hS
      cases e
      obtain ⟨a, h1, rfl⟩ := r
      obtain ⟨a', ys, q1, q2, q3⟩ := s.getL hS
      rw [h1] at q1; cases q1
      exact ⟨_, _, rfl, .inl (.inl q2), q3⟩
    · cases e
  · cases e
theorem lst_of (s : Sm g F f R S H) {v : Val} {x : V} {ds : List PyData} (r : VR g F f x v) (e : lstOf S v = some ds) : ∃ a xs, x = .ref a ∧ Rd H a (.lst xs) ∧ DaAll g.K F xs ds := by
  unfold lstOf at e
  split at e
  · cases e
    cases r with
    | lst h t => exact ⟨_, _, rfl, Rd.sub s.le h, t⟩
  · split at e
    · rename_i xs hS
      cases e
      obtain ⟨a, h1, rfl⟩ := r
      obtain ⟨a', ys, q1, q2, q3⟩ := s.getL hS
      rw [h1] at q1; cases q1
      exact ⟨_, _, rfl, .inl q2, q3⟩
    · cases e
  · cases e
theorem ints_da {K : PySem.W.Frag} {F : Hp} : ∀ {ds : List PyData} {xs : List V} {ns : List Int}, DaAll K F xs ds → intsOf ds = some ns → xs = ns.map V.int
  | _, _, _, .nil, e => by cases e; rfl
  | _, _, _, .cons (d := d) (ds := ds) h t, e => by
    unfold intsOf at e
    split at e
    · rename_i hn; cases hn
    · rename_i i r q
      cases q
      cases q2 : intsOf ds with
      | none => rw [q2] at e; cases e
      | some ms =>
        rw [q2] at e
        cases e
        cases h
        rw [ints_da t q2]; rfl
    · cases e
theorem bools_da {K : PySem.W.Frag} {F : Hp} : ∀ {ds : List PyData} {xs : List V} {ns : List Bool}, DaAll K F xs ds → boolsOf ds = some ns → xs = ns.map V.bl
  | _, _, _, .nil, e => by cases e; rfl
  | _, _, _, .cons (d := d) (ds := ds) h t, e => by
    unfold boolsOf at e
    split at e
    · rename_i hn; cases hn
    · rename_i i r q
      cases q
      cases q2 : boolsOf ds with
      | none => rw [q2] at e; cases e
      | some ms =>
        rw [q2] at e
        cases e
        cases h
        rw [bools_da t q2]; rfl
    · cases e
end

/-! ### two-place operations -/
abbrev WH := Value → Option Addr → Hp → Prop
def RealB (g : Gc) (r : R2) (φ : Val → Val → Store → Out Val) : Prop := ∀ (F : Hp) (f : List Addr) (R : Rs) (S : Store) (H : Hp) (x y : V) (v u : Val) (W : WH) (Q : VK), Sm g F f R S H → VR g F f x v → VR g F f y u →
  Sat g F f R W (φ v u S) (fun w F' f' S' H' => ∀ z, VR g F' f' z w → Q z H') → r x y H Q
/-- a value that stays as it is -/
theorem sat_d {g : Gc} {F : Hp} {f : List Addr} {R : Rs} {S : Store} {H : Hp} {W : WH} {Q : VK} {v : Val} (h : Sat g F f R W (.ok v S) (fun w F' f' S' H' => ∀ z, VR g F' f' z w → Q z H')) (s : Sm g F f R S H) {z : V} (r : VR g F f z v) : Q z H := h.ok s z r
/-- a new tuple, a new list -/
theorem sat_tup {g : Gc} {F : Hp} {f : List Addr} {R : Rs} {S : Store} {H : Hp} {W : WH} {Q : VK} {ds : List PyData} {xs : List V} (h : Sat g F f R W (.ok (.d (.tuple ds)) S) (fun w F' f' S' H' => ∀ z, VR g F' f' z w → Q z H')) (s : Sm g F f R S H) (t : DaAll g.K F xs ds)
    {p : Addr} (hp : H p = none) : Q (.ref p) (upd H p (.tup xs)) := by
  obtain ⟨s1, e1⟩ := s.new (o := .tup xs) hp
  exact h _ _ _ e1 s1 (.ref p) (.tup (.inl (.inl upd_same)) (DaAll.sub e1.le t))
theorem sat_lst {g : Gc} {F : Hp} {f : List Addr} {R : Rs} {S : Store} {H : Hp} {W : WH} {Q : VK} {ds : List PyData} {xs : List V} (h : Sat g F f R W (.ok (.d (.list ds)) S) (fun w F' f' S' H' => ∀ z, VR g F' f' z w → Q z H')) (s : Sm g F f R S H) (t : DaAll g.K F xs ds)
    {p : Addr} (hp : H p = none) : Q (.ref p) (upd H p (.lst xs)) := by
  obtain ⟨s1, e1⟩ := s.new (o := .lst xs) hp
  exact h _ _ _ e1 s1 (.ref p) (.lst (.inl upd_same) (DaAll.sub e1.le t))
/-- a new mutable list -/
theorem sat_lstM {g : Gc} {F : Hp} {f : List Addr} {R : Rs} {S : Store} {H : Hp} {W : WH} {Q : VK} {ds : List PyData} {xs : List V} (h : Sat g F f R W (.ok (.loc S.length) (S ++ [.lst ds])) (fun w F' f' S' H' => ∀ z, VR g F' f' z w → Q z H')) (s : Sm g F f R S H) (t : DaAll g.K F xs ds)
    {p : Addr} (hp : H p = none) : Q (.ref p) (upd H p (.lst xs)) := by
  obtain ⟨s1, e1, e2⟩ := s.newM (o := .lst xs) (ob := .lst ds) hp ⟨xs, rfl, t⟩
  exact h _ _ _ e1 s1 (.ref p) ⟨p, e2, rfl⟩
theorem okIf_pos {g : Gc} {F : Hp} {f : List Addr} {R : Rs} {W : WH} {c : Prop} [Decidable c] {x : PyData} {S : Store} {k : Kn Val} (h : Sat g F f R W (okIf c x S) k) : c ∧ Sat g F f R W (.ok (.d x) S) k := by
  unfold okIf at h
  by_cases hc : c
  · rw [if_pos hc] at h; exact ⟨hc, h⟩
  · rw [if_neg hc] at h; exact h.elim
/-- a list + a list, readable ones -/
def rCatR : R2 := fun x y H Q => ∃ l b xs zs, x = .ref l ∧ y = .ref b ∧ Rd H l (.lst xs) ∧ Rd H b (.lst zs) ∧ xs.length + zs.length ≤ sizeLine ∧ ∀ p, H p = none → Q (.ref p) (upd H p (.lst (xs ++ zs)))
theorem op_catR {X : Cx} : OpR X (binaryOp .Add) rCatR := by
  intro pins s σ H x y v u Q I rx ry h
  obtain ⟨l, b, xs, zs, rfl, rfl, hH, hB, hz, q⟩ := h
  cases rx
  cases ry
  obtain ⟨_, its, n, r, e⟩ := hH.ok I.hok
  obtain ⟨_, its2, n2, r2, e2⟩ := hB.ok I.hok
  have hl := r.length
  have hl2 := r2.length
  refine PySem.P.add_list e e2 ?_ (by rw [List.size_toArray, List.size_toArray]; omega)
  have ea : its.toArray ++ its2.toArray = (its ++ its2).toArray := by simp
  rw [ea]
  refine ⟨.ref s.heap.objs.size, _, I.laid (t' := s.toks) (o := .lst (xs ++ zs)) (fun b ob q => Heap.get?_push_of_some _ q) (Nat.le_refl _) ?_, rfl, q _ (I.hok.fresh (Nat.le_refl _))⟩
  exact ⟨by rw [List.length_append]; omega, _, 0, r.append r2, Heap.get?_push_size _ rfl⟩
def rAddV (K : PySem.W.Frag) : R2 := fun x y H Q => (rI0 (fun i j => .int (i + j)) x y H Q ∨ (∃ i j, x = .str i ∧ y = .str j ∧ i.length + j.length ≤ sizeLine ∧ Q (.str (i ++ j)) H)) ∨ (rCatA K x y H Q ∨ rCatR x y H Q)
theorem op_addV {X : Cx} : OpR X (binaryOp .Add) (rAddV X.K) := OpR.or (OpR.or op_add op_add_str) (OpR.or op_catA op_catR)
theorem real_add {g : Gc} : RealB g (rAddV g.K) (binV .Add) := by
  intro F f R S H x y v u W Q s rx ry h
  unfold binV at h
  split at h <;> first | (rename_i z; cases z; done) | skip
  · cases rx; cases ry; exact .inl (.inl ⟨_, _, rfl, rfl, sat_d h s (.int _)⟩)
  · obtain ⟨c, h⟩ := okIf_pos h
    cases rx; cases ry; exact .inl (.inr ⟨_, _, rfl, rfl, c, sat_d h s (.str _)⟩)
  · obtain ⟨c, h⟩ := okIf_pos h
    cases rx with
    | tup h1 t1 =>
      cases ry with
      | tup h2 t2 =>
        refine .inr (.inl ⟨_, _, _, _, rfl, rfl, SqT.sub s.le h1, SqT.sub s.le h2, by rw [t1.len, t2.len]; exact c, fun e => ?_, fun n e => ?_, fun n1 n2 p hp => sat_tup h s (t1.append t2) hp⟩)
        · subst e; cases t1
          exact sat_d h s (.tup h2 t2)
        · subst e; cases t2
          refine sat_d h s ?_
          rw [List.append_nil]; exact .tup h1 t1
  · obtain ⟨c, h⟩ := okIf_pos h
    cases rx with
    | lst h1 t1 =>
      cases ry with
      | lst h2 t2 => exact .inr (.inr ⟨_, _, _, _, rfl, rfl, Rd.sub s.le h1, Rd.sub s.le h2, by rw [t1.len, t2.len]; exact c, fun p hp => sat_lst h s (t1.append t2) hp⟩)
  · split at h
    · rename_i e1 e2
      obtain ⟨c, h⟩ := okIf_pos h
      obtain ⟨_, _, rfl, h1, t1⟩ := lst_of s rx e1
      obtain ⟨_, _, rfl, h2, t2⟩ := lst_of s ry e2
      exact .inr (.inr ⟨_, _, _, _, rfl, rfl, h1, h2, by rw [t1.len, t2.len]; exact c, fun p hp => sat_lst h s (t1.append t2) hp⟩)
    · exact h.elim
  · split at h
    · rename_i e1 e2
      obtain ⟨c, h⟩ := okIf_pos h
      obtain ⟨_, _, rfl, h1, t1⟩ := lst_of s rx e1
      obtain ⟨_, _, rfl, h2, t2⟩ := lst_of s ry e2
      exact .inr (.inr ⟨_, _, _, _, rfl, rfl, h1, h2, by rw [t1.len, t2.len]; exact c, fun p hp => sat_lst h s (t1.append t2) hp⟩)
    · exact h.elim
  · split at h
    · rename_i e1 e2
      obtain ⟨c, h⟩ := okIf_pos h
      obtain ⟨_, _, rfl, h1, t1⟩ := lst_of s rx e1
      obtain ⟨_, _, rfl, h2, t2⟩ := lst_of s ry e2
      exact .inr (.inr ⟨_, _, _, _, rfl, rfl, h1, h2, by rw [t1.len, t2.len]; exact c, fun p hp => sat_lst h s (t1.append t2) hp⟩)
    · exact h.elim
  all_goals exact h.elim
theorem real_sub {g : Gc} : RealB g (rI0 (fun i j => .int (i - j))) (binV .Sub) := by
  intro F f R S H x y v u W Q s rx ry h
  unfold binV at h
  split at h <;> first | (rename_i z; cases z; done) | skip
  · cases rx; cases ry; exact ⟨_, _, rfl, rfl, sat_d h s (.int _)⟩
  all_goals exact h.elim

/-- t * 1 is t -/
theorem tuple_mul1 (l : Addr) (items : Array Value) (n : Nat) (dd : Option Addr) (sl : Array (Option Value)) (u : Tok) :
    Meets (Builtin.«tuple.__mul__» ⟨[.ref l, .int 1 u], []⟩) (fun _ R s => s.heap.get? l = some { cls := .type "tuple", dict := dd, data := .seq items n, slots := sl } ∧
      R (.ok (.ret (Value.ref l))) s) :=
  .of_wp fun prog w A R s h => by
    obtain ⟨hp, g, d, t, os⟩ := s
    obtain ⟨hl, h⟩ := h
    have f1 := AutoSeq1.idx_int
    have c0 : (decide ((1 : Int) < -(2 ^ 63)) || decide ((1 : Int) ≥ 2 ^ 63)) = false := by decide
    have c1 : (items.isEmpty || (1 : Int) == 1) = true := by simp
    wp_walk using wpAny_loadPart' hl
    repeat (first
      | (refine wpAny_ite_false (decide_eq_false (by rw [c0]; exact Bool.false_ne_true)) ?_; wp_walk using wpAny_loadPart' hl)
      | (refine wpAny_ite_true (decide_eq_true c1) ?_; wp_walk using wpAny_loadPart' hl))
    exact ⟨_, rfl, h⟩
def rRep1 (K : PySem.W.Frag) : R2 := fun x y H Q => ∃ l xs, x = .ref l ∧ y = .int 1 ∧ SqT K H l xs ∧ Q (.ref l) H
theorem op_rep1 {X : Cx} : OpR X (binaryOp .Mult) (rRep1 X.K) := by
  intro pins s σ H x y v u Q I rx ry h
  obtain ⟨l, xs, rfl, rfl, hT, q⟩ := h
  cases rx
  obtain ⟨t, rfl⟩ := ry
  obtain ⟨its, r, ⟨⟨cls, dd, data, sl⟩, ho, hc, n, hd⟩, hs⟩ := I.tuple hT
  simp only at hc hd
  subst hc hd
  exact wpAny_binaryOp_repeat_ref (T := "tuple") (U := "int") (by decide) ⟨_, ho, rfl⟩ (fun s' => typeIs_int s' 1 t) noFill_tuple_mul F.fills_int_mul F.slot_int_rmul repeat_tuple F.slot_int_index.lookup
    (call_meets F.slot_int_rmul (typeIs_int s 1 t) F.entry_int_rmul (F.args_int_rmul_2 _ _) (int_rmul_tuple 1 t l its.toArray n dd sl)
      ⟨ho, rfl, ⟨_, ho, rfl⟩, call_meets F.slot_tuple_mul ⟨_, ho, rfl⟩ F.entry_tuple_mul (F.args_tuple_mul_2 _ _) (tuple_mul1 l its.toArray n dd sl t) ⟨ho, ⟨.ref l, H, I, rfl, q⟩⟩⟩)
theorem DaAll.rep {K : PySem.W.Frag} {F : Hp} {v : List V} {d : List PyData} (h : DaAll K F v d) : ∀ n : Nat, DaAll K F (List.replicate n v).flatten (List.replicate n d).flatten
  | 0 => .nil
  | n + 1 => by
    rw [List.replicate_succ, List.replicate_succ, List.flatten_cons, List.flatten_cons]
    exact h.append (DaAll.rep h n)
/-- a list that is read, times an int -/
def rMulR : R2 := fun x y H Q => ∃ a j us, x = .ref a ∧ y = .int j ∧ Rd H a (.lst us) ∧ (-(2 ^ 63) ≤ j ∧ j < 2 ^ 63 ∧ us.length * j.toNat ≤ sizeLine) ∧ ∀ q, H q = none → Q (.ref q) (upd H q (.lst (List.replicate j.toNat us).flatten))
theorem fold_rep (ls : List Value) (m : Nat) : List.foldl (fun x1 x2 => x1 ++ x2) #[] (List.replicate m ls.toArray) = (List.replicate m ls).flatten.toArray := by
  have e := L2.foldl_rep ls m []
  rwa [List.nil_append] at e
theorem op_mulR {X : Cx} : OpR X (binaryOp .Mult) rMulR := by
  rintro pins s σ H _ _ v u Q I rx ry ⟨a, j, us, rfl, rfl, hR, ⟨j1, j2, hz⟩, q⟩
  cases rx
  obtain ⟨tk, rfl⟩ := ry
  obtain ⟨_, ls, n, rs, at_⟩ := hR.ok I.hok
  have small : ls.toArray.size * j.toNat ≤ sizeLine := by
    have := rs.length
    rw [List.size_toArray, ← this]; exact hz
  have cap : ¬ ls.toArray.size * j.toNat > (2 ^ 63 - 1) / 8 := fun z => by
    have le : (sizeLine : Nat) ≤ (2 ^ 63 - 1) / 8 := by decide
    omega
  have fit : ¬ (!Builtin.List.listFitsIndex j) = true := by simp [fitsIndex_both j1 j2]
  have long : ¬ Builtin.List.listTooLong (ls.toArray.size * j.toNat) = true := by rw [notLongL small]; decide
  have made : List.foldl (fun x1 x2 => x1 ++ x2) #[] (List.replicate (if ls.toArray.isEmpty = true then 0 else j.toNat) ls.toArray) = (List.replicate j.toNat ls).flatten.toArray := by
    cases ls with
    | nil => simp
    | cons b r => rw [if_neg (by simp), fold_rep]
  refine wpAny_binaryOp_repeat_ref (U := "int") (T := "list") (by decide) ⟨_, at_, rfl⟩ (fun z => typeIs_int z j tk) noFill_list_mul F.fills_int_mul F.slot_int_rmul repeat_list F.slot_int_index.lookup ?_
  refine call_meets F.slot_int_rmul (typeIs_int s j tk) F.entry_int_rmul (F.args_int_rmul_2 _ _) (int___rmul___int_list j tk a ls.toArray n) ⟨at_, rfl, ⟨_, at_, rfl⟩, ?_⟩
  refine call_meets F.slot_list_mul ⟨_, at_, rfl⟩ F.entry_list_mul (F.args_list_mul_2 _ _) (AutoListH.list___mul___list_int_3 a ls.toArray n j tk fit cap long) ⟨at_, ?_⟩
  rw [made]
  refine ⟨.ref s.heap.objs.size, _, I.laid (t' := s.toks) (o := .lst (List.replicate j.toNat us).flatten) (fun b ob z => Heap.get?_push_of_some _ z) (Nat.le_refl _) ?_, rfl, q _ (I.hok.fresh (Nat.le_refl _))⟩
  exact ⟨by rw [PyProof.Rows.lm_len_rep_flat, Nat.mul_comm]; exact hz, _, 0, rs.rep j.toNat, Heap.get?_push_size _ rfl⟩
/-- a text times an int -/
def rMulS : R2 := fun x y H Q => ∃ (a : Str) (j : Int), x = .str a ∧ y = .int j ∧ (2 ≤ j ∧ j ≤ 1000 ∧ 1 ≤ a.length ∧ a.length ≤ 1000) ∧ Q (.str (repS a j.toNat)) H
theorem op_mulS {X : Cx} : OpR X (binaryOp .Mult) rMulS := by
  rintro pins s σ H _ _ v u Q I rx ry ⟨a, j, rfl, rfl, ⟨j1, j2, a1, a2⟩, q⟩
  obtain ⟨t1, rfl⟩ := rx
  obtain ⟨t2, rfl⟩ := ry
  have hlen : a.length * j.toNat ≤ 1000 * 1000 := Nat.mul_le_mul a2 (by omega)
  have hlong : PySem.Builtin.Str.tooLong (a.length * j.toNat) = false := by
    unfold PySem.Builtin.Str.tooLong
    have : (1000 * 1000 : Nat) ≤ sizeLine := by rw [sizeLine_eq]; decide
    exact decide_eq_false (by omega)
  refine PySem.P.mul_str ?_ ?_ (fun _ _ => hlong) ?_
  · rw [decide_eq_false (by omega), decide_eq_false (by omega)]; rfl
  · intro _ _ z
    have e1 : (a.length : Int) * j ≤ 1000 * 1000 := Int.mul_le_mul (by omega) j2 (by omega) (by decide)
    have e2 : (1000 : Int) ≤ (2 ^ 63 - 1) / j := by
      rw [Int.le_ediv_iff_mul_le (by omega)]
      have : 1000 * j ≤ 1000 * 1000 := by omega
      omega
    omega
  · have n1 : ¬ j < 1 := by omega
    have n2 : ¬ (j == 1 || a.length == 0) = true := by
      simp
      omega
    rw [if_neg n1, if_neg n2]
    refine ⟨?_, .str (repS a j.toNat), H, I.tok _, ⟨_, rfl⟩, q⟩
    show (repS a j.toNat).length ≤ sizeLine
    rw [repS_len, Nat.mul_comm]
    unfold PySem.Builtin.Str.tooLong at hlong
    have := of_decide_eq_false hlong
    omega
def rMulV (K : PySem.W.Frag) : R2 := fun x y H Q => (rI CMul (fun i j => .int (i * j)) x y H Q ∨ (rRepT K x y H Q ∨ rRep1 K x y H Q)) ∨ (rMulR x y H Q ∨ rMulS x y H Q)
theorem op_mulV {X : Cx} : OpR X (binaryOp .Mult) (rMulV X.K) := OpR.or (OpR.or op_mul (OpR.or op_repT op_rep1)) (OpR.or op_mulR op_mulS)
theorem real_mul {g : Gc} : RealB g (rMulV g.K) (binV .Mult) := by
  intro F f R S H x y v u W Q s rx ry h
  unfold binV at h
  split at h <;> first | (rename_i z; cases z; done) | skip
  · obtain ⟨c, h⟩ := okIf_pos h
    cases rx; cases ry; exact .inl (.inl ⟨_, _, rfl, rfl, c, sat_d h s (.int _)⟩)
  · obtain ⟨c, h⟩ := okIf_pos h
    cases ry
    cases rx with
    | tup h1 t1 =>
      rcases c with rfl | ⟨c1, c2, c3, c4⟩
      · refine .inl (.inr (.inr ⟨_, _, rfl, rfl, SqT.sub s.le h1, sat_d h s ?_⟩))
        have e : (List.replicate (1 : Int).toNat ‹List PyData›).flatten = ‹List PyData› := by simp
        rw [e]; exact .tup h1 t1
      · refine .inl (.inr (.inl ⟨_, _, _, rfl, rfl, SqT.sub s.le h1, fun e => ?_, c2, c3, by rw [t1.len]; exact c4, fun p hp => sat_tup h s (t1.rep _) hp⟩))
        subst e; cases t1; cases c1
  · obtain ⟨c, h⟩ := okIf_pos h
    cases ry
    cases rx with
    | lst h1 t1 => exact .inr (.inl ⟨_, _, _, rfl, rfl, Rd.sub s.le h1, by rw [t1.len]; exact c, fun p hp => sat_lst h s (t1.rep _) hp⟩)
  · obtain ⟨c, h⟩ := okIf_pos h
    cases rx; cases ry
    exact .inr (.inr ⟨_, _, rfl, rfl, c, sat_d h s (.str _)⟩)
  all_goals exact h.elim
theorem real_mod {g : Gc} : RealB g (rI (fun _ j => j ≠ 0) fun i j => .int (i.fmod j)) (binV .Mod) := by
  intro F f R S H x y v u W Q s rx ry h
  unfold binV at h
  split at h <;> first | (rename_i z; cases z; done) | skip
  · obtain ⟨c, h⟩ := okIf_pos h
    cases rx; cases ry; exact ⟨_, _, rfl, rfl, c, sat_d h s (.int _)⟩
  all_goals exact h.elim
theorem real_fdiv {g : Gc} : RealB g (rI CDivN fun i j => .int (i.fdiv j)) (binV .FloorDiv) := by
  intro F f R S H x y v u W Q s rx ry h
  unfold binV at h
  split at h <;> first | (rename_i z; cases z; done) | skip
  · obtain ⟨c, h⟩ := okIf_pos h
    cases rx; cases ry; exact ⟨_, _, rfl, rfl, c, sat_d h s (.int _)⟩
  all_goals exact h.elim
theorem real_pow {g : Gc} : RealB g (rI CPow fun i j => .int (i ^ j.toNat)) (binV .Pow) := by
  intro F f R S H x y v u W Q s rx ry h
  unfold binV at h
  split at h <;> first | (rename_i z; cases z; done) | skip
  · obtain ⟨c, h⟩ := okIf_pos h
    cases rx; cases ry; exact ⟨_, _, rfl, rfl, c, sat_d h s (.int _)⟩
  all_goals exact h.elim
def opOk : Operator → Bool
  | .Add | .Sub | .Mult | .Mod | .FloorDiv | .Pow => true
  | _ => false
theorem bin_real {X : Cx} {g : Gc} (hK : g.K = X.K) (op : Operator) (h : opOk op = true) : ∃ r, OpR X (binaryOp op) r ∧ RealB g r (binV op) := by
  cases op <;> first | (cases h; done) | skip
  · exact ⟨_, op_addV, hK ▸ real_add⟩
  · exact ⟨_, op_sub, real_sub⟩
  · exact ⟨_, op_mulV, hK ▸ real_mul⟩
  · exact ⟨_, op_modN, real_mod⟩
  · exact ⟨_, op_pow, real_pow⟩
  · exact ⟨_, op_fdivN, real_fdiv⟩
/-! ### comparisons -/
def rLtV (K : PySem.W.Frag) : R2 := fun x y H Q => rI0 (fun i j => .bl (decide (i < j))) x y H Q ∨ ((∃ i j, x = .str i ∧ y = .str j ∧ Q (.bl (decide (i.cps.toList < j.cps.toList))) H) ∨ rLtT K x y H Q)
theorem op_ltV {X : Cx} (hu : X.A.units < cLine) : OpR X (compareOp .Lt) (rLtV X.K) := OpR.or op_lt (OpR.or op_lt_str (op_ltT hu))
def rLeV : R2 := fun x y H Q => rI0 (fun i j => .bl (decide (i ≤ j))) x y H Q ∨ (∃ i j, x = .str i ∧ y = .str j ∧ Q (.bl (!decide (j.cps.toList < i.cps.toList))) H)
theorem op_leV {X : Cx} : OpR X (compareOp .LtE) rLeV := OpR.or op_le op_le_str
def rEqV (K : PySem.W.Frag) : R2 := fun x y H Q => rEq x y H Q ∨ rEqD K x y H Q
def rNeV (K : PySem.W.Frag) : R2 := fun x y H Q => rNe x y H Q ∨ rNeD K x y H Q
theorem real_eq {g : Gc} : RealB g (rEqV g.K) (cmpV .Eq) := by
  intro F f R S H x y v u W Q s rx ry h
  dsimp only [cmpV] at h
  split at h
  · cases rx
    cases ry
    exact .inl ⟨rfl, sat_d h s (by rw [dec_str]; exact .bl _)⟩
  · split at h
    · rename_i a b e1 e2
      obtain ⟨⟨c1, c2⟩, h⟩ := okIf_pos h
      exact .inr ⟨_, _, dat_dp s rx e1 c1, dat_dp s ry e2 c2, c1, c2, sat_d h s (.bl _)⟩
    · exact h.elim
theorem real_ne {g : Gc} : RealB g (rNeV g.K) (cmpV .NotEq) := by
  intro F f R S H x y v u W Q s rx ry h
  dsimp only [cmpV] at h
  split at h
  · cases rx
    cases ry
    exact .inl ⟨rfl, sat_d h s (by rw [dec_str]; exact .bl _)⟩
  · split at h
    · rename_i a b e1 e2
      obtain ⟨⟨c1, c2⟩, h⟩ := okIf_pos h
      exact .inr ⟨_, _, dat_dp s rx e1 c1, dat_dp s ry e2 c2, c1, c2, sat_d h s (.bl _)⟩
    · exact h.elim
theorem real_lt {g : Gc} : RealB g (rLtV g.K) (cmpV .Lt) := by
  intro F f R S H x y v u W Q s rx ry h
  dsimp only [cmpV] at h
  split at h
  · cases rx; cases ry; exact .inl ⟨_, _, rfl, rfl, sat_d h s (.bl _)⟩
  · cases rx; cases ry; exact .inr (.inl ⟨_, _, rfl, rfl, sat_d h s (.bl _)⟩)
  · split at h
    · rename_i e1 e2
      cases rx with
      | tup h1 t1 =>
        cases ry with
        | tup h2 t2 =>
          have q1 := ints_da t1 e1
          have q2 := ints_da t2 e2
          subst q1 q2
          exact .inr (.inr ⟨_, _, _, _, rfl, rfl, SqT.sub s.le h1, SqT.sub s.le h2, sat_d h s (.bl _)⟩)
    · exact h.elim
  · exact h.elim
theorem real_le {g : Gc} : RealB g rLeV (cmpV .LtE) := by
  intro F f R S H x y v u W Q s rx ry h
  dsimp only [cmpV] at h
  split at h
  · cases rx; cases ry; exact .inl ⟨_, _, rfl, rfl, sat_d h s (.bl _)⟩
  · cases rx; cases ry; exact .inr ⟨_, _, rfl, rfl, sat_d h s (.bl _)⟩
  · exact h.elim
theorem real_gt {g : Gc} : RealB g (rI0 (fun i j => .bl (decide (j < i)))) (cmpV .Gt) := by
  intro F f R S H x y v u W Q s rx ry h
  dsimp only [cmpV] at h
  split at h
  · cases rx; cases ry; exact ⟨_, _, rfl, rfl, sat_d h s (.bl _)⟩
  · exact h.elim
theorem real_ge {g : Gc} : RealB g (rI0 (fun i j => .bl (decide (j ≤ i)))) (cmpV .GtE) := by
  intro F f R S H x y v u W Q s rx ry h
  dsimp only [cmpV] at h
  split at h
  · cases rx; cases ry; exact ⟨_, _, rfl, rfl, sat_d h s (.bl _)⟩
  · exact h.elim
theorem vr_non {g : Gc} {F : Hp} {f : List Addr} {x : V} {v : Val} (r : VR g F f x v) (h : v ≠ .d .none) : decide (x = V.non) = false := by
  refine decide_eq_false fun e => ?_
  subst e
  cases v with
  | d y => cases r; exact h rfl
  | loc n => obtain ⟨a, _, e⟩ := r; cases e
  | fn k => cases r
  | tp es => obtain ⟨_, _, e, _⟩ := r; cases e
  | ls es => obtain ⟨_, _, e, _⟩ := r; cases e
def rIs2 : V → V → Hp → VK → Prop := fun x y H Q => (y = .non ∧ Q (.bl (decide (x = .non))) H) ∨ (∃ a b : Bool, x = .bl a ∧ y = .bl b ∧ Q (.bl (decide (a = b))) H) ∨ (∃ b : Bool, x = .non ∧ y = .bl b ∧ Q (.bl false) H)
theorem op_is2 {X : Cx} : OpR X (compareOp .Is) rIs2 := by
  intro pins s σ H x y v u Q I rx ry h
  rcases h with h | h | ⟨b, rfl, rfl, q⟩
  · exact op_isN pins s σ H x y v u Q I rx ry h
  · exact op_isBl pins s σ H x y v u Q I rx ry h
  · cases (show v = Value.none from rx)
    cases (show u = Value.bool b from ry)
    exact wpAny_is_other rfl (fun z => by cases z) ⟨.bl false, H, I, rfl, q⟩
theorem real_is {g : Gc} : RealB g rIs2 (cmpV .Is) := by
  intro F f R S H x y v u W Q s rx ry h
  dsimp only [cmpV] at h
  split at h
  · cases rx; cases ry; exact .inl ⟨rfl, sat_d h s (.bl _)⟩
  · cases rx; cases ry; exact .inr (.inl ⟨_, _, rfl, rfl, sat_d h s (.bl _)⟩)
  · cases rx; cases ry; exact .inr (.inr ⟨_, rfl, rfl, sat_d h s (.bl _)⟩)
  · rename_i hn
    cases ry
    refine .inl ⟨rfl, ?_⟩
    rw [vr_non rx hn]
    exact sat_d h s (.bl _)
  · exact h.elim
theorem real_isnot {g : Gc} : RealB g (fun x y H Q => y = .non ∧ Q (.bl (!decide (x = .non))) H) (cmpV .IsNot) := by
  intro F f R S H x y v u W Q s rx ry h
  dsimp only [cmpV] at h
  split at h
  · cases rx; cases ry; exact ⟨rfl, sat_d h s (.bl _)⟩
  · rename_i hn
    cases ry
    refine ⟨rfl, ?_⟩
    rw [vr_non rx hn]
    exact sat_d h s (.bl _)
  · exact h.elim
theorem str_one {x : Str} (h : x.length = 1) : x = ⟨#[x.cps.getD 0 0]⟩ := by
  obtain ⟨a⟩ := x
  have h' : a.size = 1 := h
  obtain ⟨l⟩ := a
  cases l with
  | nil => cases h'
  | cons c r =>
    cases r with
    | nil => rfl
    | cons _ _ => simp at h'
/-- x in a readable sequence of data -/
def rInA (K : PySem.W.Frag) (neg : Bool) : R2 := fun x y H Q => ∃ d ds, Dp K H x d ∧ (Dp K H y (.list ds) ∨ Dp K H y (.tuple ds)) ∧ SeqAt.shaped d = true ∧ SeqAt.shaped (.list ds) = true ∧ Q (.bl (if neg = true then !ds.any fun z => PyData.eqv z d else ds.any fun z => PyData.eqv z d)) H
section
variable {X : Cx}
theorem op_inA (hu : X.A.units + 65 < cLine) : OpR X (compareOp .In) (rInA X.K false) := by
  intro pins s σ H x y v u Q I rx ry h
  obtain ⟨d, ds, hd, he, sd, se, q⟩ := h
  obtain ⟨as, r1⟩ := Dp.reads I d x v hd rx
  rcases he with he | he
  · obtain ⟨bs, r2⟩ := Dp.reads I (.list ds) y u he ry
    exact SeqAt.in_list_reads r2 r1 (SeqAt.canLay_of_shaped se) (SeqAt.canLay_of_shaped sd) (room_in_shaped sd hu) ⟨.bl _, H, I, rfl, q⟩
  · obtain ⟨bs, r2⟩ := Dp.reads I (.tuple ds) y u he ry
    exact SeqAt.in_tuple_reads r2 r1 (SeqAt.canLay_of_shaped se) (SeqAt.canLay_of_shaped sd) (room_in_shaped sd hu) ⟨.bl _, H, I, rfl, q⟩
theorem op_notInA (hu : X.A.units + 65 < cLine) : OpR X (compareOp .NotIn) (rInA X.K true) := by
  intro pins s σ H x y v u Q I rx ry h
  obtain ⟨d, ds, hd, he, sd, se, q⟩ := h
  obtain ⟨as, r1⟩ := Dp.reads I d x v hd rx
  rcases he with he | he
  · obtain ⟨bs, r2⟩ := Dp.reads I (.list ds) y u he ry
    exact SeqAt.notIn_list_reads r2 r1 (SeqAt.canLay_of_shaped se) (SeqAt.canLay_of_shaped sd) (room_in_shaped sd hu) ⟨.bl _, H, I, rfl, q⟩
  · obtain ⟨bs, r2⟩ := Dp.reads I (.tuple ds) y u he ry
    exact SeqAt.notIn_tuple_reads r2 r1 (SeqAt.canLay_of_shaped se) (SeqAt.canLay_of_shaped sd) (room_in_shaped sd hu) ⟨.bl _, H, I, rfl, q⟩
end
theorem seq_dp {g : Gc} {F : Hp} {f : List Addr} {R : Rs} {S : Store} {H : Hp} (s : Sm g F f R S H) {v : Val} {x : V} {ds : List PyData} (r : VR g F f x v) (e : seqOf S v = some ds) (c : SeqAt.shaped (.list ds) = true) : Dp g.K H x (.list ds) ∨ Dp g.K H x (.tuple ds) := by
  have c' : PyData.canLayAll0 ds = true := by simpa [PyData.canLay0] using SeqAt.canLay_of_shaped c
  obtain ⟨a, xs, rfl, h | ⟨h, _⟩, t⟩ := seq_of s r e
  · exact .inl (.lst (.inl h) (DaAll.dp s.le c' t))
  · exact .inr (.tup h (DaAll.dp s.le c' t))
def rInV (K : PySem.W.Frag) (neg : Bool) : R2 := fun x y H Q => (∃ (c : Nat) (z : Str), x = .str ⟨#[c]⟩ ∧ y = .str z ∧ Q (.bl (if neg = true then !decide (c ∈ z.cps.toList) else decide (c ∈ z.cps.toList))) H) ∨ rInA K neg x y H Q
theorem op_inV {X : Cx} (hu : X.A.units + 65 < cLine) : OpR X (compareOp .In) (rInV X.K false) := OpR.or op_in_sign (op_inA hu)
theorem op_notInV {X : Cx} (hu : X.A.units + 65 < cLine) : OpR X (compareOp .NotIn) (rInV X.K true) := OpR.or op_notIn_sign (op_notInA hu)
theorem real_in {g : Gc} : RealB g (rInV g.K false) (cmpV .In) := by
  intro F f R S H x y v u W Q s rx ry h
  dsimp only [cmpV] at h
  split at h
  · split at h
    · obtain ⟨c, h⟩ := okIf_pos h
      cases rx; cases ry
      exact .inl ⟨_, _, congrArg V.str (str_one c), rfl, sat_d h s (.bl _)⟩
    · exact h.elim
  · split at h
    · rename_i e1 e2
      obtain ⟨⟨c1, c2⟩, h⟩ := okIf_pos h
      exact .inr ⟨_, _, dat_dp s rx e1 c1, seq_dp s ry e2 c2, c1, c2, sat_d h s (.bl _)⟩
    · exact h.elim
theorem real_notin {g : Gc} : RealB g (rInV g.K true) (cmpV .NotIn) := by
  intro F f R S H x y v u W Q s rx ry h
  dsimp only [cmpV] at h
  split at h
  · split at h
    · obtain ⟨c, h⟩ := okIf_pos h
      cases rx; cases ry
      exact .inl ⟨_, _, congrArg V.str (str_one c), rfl, sat_d h s (.bl _)⟩
    · exact h.elim
  · split at h
    · rename_i e1 e2
      obtain ⟨⟨c1, c2⟩, h⟩ := okIf_pos h
      exact .inr ⟨_, _, dat_dp s rx e1 c1, seq_dp s ry e2 c2, c1, c2, sat_d h s (.bl _)⟩
    · exact h.elim
theorem cmp_real {X : Cx} {g : Gc} (hK : g.K = X.K) (hu : X.A.units + 65 < cLine) (op : CmpOp) : ∃ r, OpR X (compareOp op) r ∧ RealB g r (cmpV op) := by
  cases op
  · exact ⟨_, OpR.or op_eq (op_eqD (by omega)), hK ▸ real_eq⟩
  · exact ⟨_, OpR.or op_ne (op_neD (by omega)), hK ▸ real_ne⟩
  · exact ⟨_, op_ltV (by omega), hK ▸ real_lt⟩
  · exact ⟨_, op_leV, real_le⟩
  · exact ⟨_, op_gt, real_gt⟩
  · exact ⟨_, op_ge, real_ge⟩
  · exact ⟨_, op_is2, real_is⟩
  · exact ⟨_, op_notN, real_isnot⟩
  · exact ⟨_, op_inV hu, hK ▸ real_in⟩
  · exact ⟨_, op_notInV hu, hK ▸ real_notin⟩
/-! ### subscripts -/
theorem DaAll.atI {K : PySem.W.Frag} {F : Hp} {xs : List V} {ds : List PyData} {i : Int} {d : PyData} (t : DaAll K F xs ds) (e : L2.atI ds i = some d) : ∃ x, L2.atI xs i = some x ∧ Da K F x d := by
  unfold L2.atI at e ⊢
  rw [t.len]
  cases q : ixN ds.length i with
  | none => rw [q] at e; cases e
  | some j =>
    rw [q] at e
    exact t.get e
theorem els_at {g : Gc} {F : Hp} {f : List Addr} {xs : List V} {es : List El} {i : Int} {d : El} (t : ElRs g F f xs es) (e : L2.atI es i = some d) : ∃ x, L2.atI xs i = some x ∧ VR g F f x d.val := by
  unfold L2.atI at e ⊢
  rw [t.len]
  cases q : ixN es.length i with
  | none => rw [q] at e; cases e
  | some j =>
    rw [q] at e
    obtain ⟨x, h1, h2⟩ := t.get e
    exact ⟨x, h1, h2.vr⟩
theorem real_idx {g : Gc} : RealB g (rIx g.K) idxV := by
  intro F f R S H x y v u W Q s rx ry h
  unfold idxV at h
  split at h
  · cases ry
    split at h
    · split at h
      · rename_i c
        split at h
        · rename_i e
          cases rx
          exact .inr (.inr ⟨_, _, _, rfl, rfl, c, e, sat_d h s (.str _)⟩)
        · exact h.elim
      · exact h.elim
    · split at h
      · rename_i e
        obtain ⟨a, ys, rfl, h1, h2⟩ := rx
        obtain ⟨z, q2, r2⟩ := els_at h2 e
        exact .inr (.inl ⟨_, _, _, _, rfl, rfl, SqT.sub s.le h1, q2, sat_d h s r2⟩)
      · exact h.elim
    · split at h
      · rename_i e
        obtain ⟨a, ys, rfl, h1, h2⟩ := rx
        obtain ⟨z, q2, r2⟩ := els_at h2 e
        exact .inl ⟨_, _, _, _, rfl, rfl, .inl (Rd.sub s.le h1), q2, sat_d h s r2⟩
      · exact h.elim
    · split at h
      · rename_i e
        split at h
        · rename_i e2
          obtain ⟨a, ys, rfl, q, t⟩ := seq_of s rx e
          obtain ⟨z, q2, r2⟩ := t.atI e2
          rcases q with q | ⟨q, _⟩
          · exact .inl ⟨_, _, _, _, rfl, rfl, .inl q, q2, sat_d h s r2⟩
          · exact .inr (.inl ⟨_, _, _, _, rfl, rfl, q, q2, sat_d h s r2⟩)
        · exact h.elim
      · exact h.elim
  · exact h.elim
end Ev
end

section
set_option Elab.async false
set_option linter.all false
set_option maxRecDepth 100000
set_option maxHeartbeats 4000000
/-! E4: built-ins, methods, stores, slices on values -/
namespace Ev
open PySem PySem.Spec PyProof.Rows L2

def RealN (g : Gc) (r : List V → Hp → VK → Prop) (φ : List Val → Store → Out Val) : Prop := ∀ (F : Hp) (f : List Addr) (R : Rs) (S : Store) (H : Hp) (xs : List V) (vs : List Val) (W : WH) (Q : VK), Sm g F f R S H → VRs g F f xs vs →
  Sat g F f R W (φ vs S) (fun w F' f' S' H' => ∀ z, VR g F' f' z w → Q z H') → r xs H Q
theorem CallR.or {X : Cx} {f : Value} {r r' : List V → Hp → VK → Prop} (h : CallR X f r) (h' : CallR X f r') : CallR X f (fun x H Q => r x H Q ∨ r' x H Q) := by
  intro pins s σ H x u Q I rx q
  rcases q with q | q
  · exact h pins s σ H x u Q I rx q
  · exact h' pins s σ H x u Q I rx q
section
variable {g : Gc}
theorem vrs1 {F : Hp} {f : List Addr} {xs : List V} {v : Val} (r : VRs g F f xs [v]) : ∃ x, xs = [x] ∧ VR g F f x v := by
  cases r with
  | cons a t => cases t; exact ⟨_, rfl, a⟩
theorem vrs2 {F : Hp} {f : List Addr} {xs : List V} {v u : Val} (r : VRs g F f xs [v, u]) : ∃ x y, xs = [x, y] ∧ VR g F f x v ∧ VR g F f y u := by
  cases r with
  | cons a t =>
    obtain ⟨y, rfl, b⟩ := vrs1 t
    exact ⟨_, _, rfl, a, b⟩
theorem real_len : RealN g (fun xs H Q => ∃ x n, xs = [x] ∧ LenV g.K x H n ∧ Q (.int n) H) (biV .len) := by
  intro F f R S H xs vs W Q s rx h
  unfold biV at h
  split at h <;> first | (rename_i z; cases z; done) | skip
  · obtain ⟨c, h⟩ := okIf_pos h
    obtain ⟨x, rfl, r⟩ := vrs1 rx
    cases r
    exact ⟨_, _, rfl, ⟨c, rfl⟩, sat_d h s (.int _)⟩
  · obtain ⟨x, rfl, r⟩ := vrs1 rx
    split at h
    · rename_i e
      obtain ⟨a, ys, rfl, q, t⟩ := seq_of s r e
      refine ⟨_, ys.length, rfl, ?_, ?_⟩
      · rcases q with q | ⟨q, _⟩
        · exact .inl ⟨_, .inl q, rfl⟩
        · exact .inr ⟨_, q, rfl⟩
      · rw [t.len]; exact sat_d h s (.int _)
    · exact h.elim
  all_goals exact h.elim
theorem real_all : RealN g (rAll g.K) (biV .all) := by
  intro F f R S H xs vs W Q s rx h
  unfold biV at h
  split at h <;> first | (rename_i z; cases z; done) | skip
  · obtain ⟨x, rfl, r⟩ := vrs1 rx
    split at h
    · rename_i e
      obtain ⟨ds, e1, e2⟩ := Option.bind_eq_some_iff.mp e
      obtain ⟨a, ys, rfl, q, t⟩ := lst_of s r e1
      have q2 := bools_da t e2
      subst q2
      exact ⟨_, _, rfl, .inl q, sat_d h s (.bl _)⟩
    · exact h.elim
  all_goals exact h.elim
theorem real_any : RealN g (rAny g.K) (biV .any) := by
  intro F f R S H xs vs W Q s rx h
  unfold biV at h
  split at h <;> first | (rename_i z; cases z; done) | skip
  · obtain ⟨x, rfl, r⟩ := vrs1 rx
    split at h
    · rename_i e
      obtain ⟨ds, e1, e2⟩ := Option.bind_eq_some_iff.mp e
      obtain ⟨a, ys, rfl, q, t⟩ := lst_of s r e1
      have q2 := bools_da t e2
      subst q2
      exact ⟨_, _, rfl, .inl q, sat_d h s (.bl _)⟩
    · exact h.elim
  all_goals exact h.elim
theorem real_sum : RealN g (rSum g.K) (biV .sum) := by
  intro F f R S H xs vs W Q s rx h
  unfold biV at h
  split at h <;> first | (rename_i z; cases z; done) | skip
  · obtain ⟨x, rfl, r⟩ := vrs1 rx
    split at h
    · rename_i e
      obtain ⟨ds, e1, e2⟩ := Option.bind_eq_some_iff.mp e
      obtain ⟨a, ys, rfl, q, t⟩ := lst_of s r e1
      have q2 := ints_da t e2
      subst q2
      exact ⟨_, _, rfl, .inl q, sat_d h s (.int _)⟩
    · exact h.elim
  all_goals exact h.elim
theorem real_tuple : RealN g (fun xs H Q => ∃ p ys, xs = [.ref p] ∧ ((SqL g.K H p ys ∧ ∀ l, H l = none → Q (.ref l) (upd H l (.tup ys))) ∨ (SqT g.K H p ys ∧ Q (.ref p) H))) (biV .tuple) := by
  intro F f R S H xs vs W Q s rx h
  unfold biV at h
  split at h <;> first | (rename_i z; cases z; done) | skip
  · obtain ⟨x, rfl, r⟩ := vrs1 rx
    split at h
    · rename_i v ds e
      obtain ⟨a, ys, rfl, q, t⟩ := seq_of s r e
      rcases q with q | ⟨q, e2⟩
      · exact ⟨_, _, rfl, .inl ⟨.inl q, fun l hl => sat_tup h s t hl⟩⟩
      · subst e2
        exact ⟨_, _, rfl, .inr ⟨q, sat_d h s r⟩⟩
    · exact h.elim
  all_goals exact h.elim
theorem real_list : RealN g (fun xs H Q => ∃ p ys, xs = [.ref p] ∧ (SqL g.K H p ys ∨ SqT g.K H p ys) ∧ ∀ l, H l = none → Q (.ref l) (upd H l (.lst ys))) (biV .list) := by
  intro F f R S H xs vs W Q s rx h
  unfold biV at h
  split at h <;> first | (rename_i z; cases z; done) | skip
  · obtain ⟨x, rfl, r⟩ := vrs1 rx
    split at h
    · rename_i v ds e
      obtain ⟨a, ys, rfl, q, t⟩ := seq_of s r e
      exact ⟨_, _, rfl, q.imp .inl (·.1), fun l hl => sat_lst h s t hl⟩
    · exact h.elim
  all_goals exact h.elim
theorem real_listM : RealN g (fun xs H Q => ∃ p ys, xs = [.ref p] ∧ (SqL g.K H p ys ∨ SqT g.K H p ys) ∧ ∀ l, H l = none → Q (.ref l) (upd H l (.lst ys))) (biV .listM) := by
  intro F f R S H xs vs W Q s rx h
  unfold biV at h
  split at h <;> first | (rename_i z; cases z; done) | skip
  · obtain ⟨x, rfl, r⟩ := vrs1 rx
    split at h
    · rename_i v ds e
      obtain ⟨a, ys, rfl, q, t⟩ := seq_of s r e
      exact ⟨_, _, rfl, q.imp .inl (·.1), fun l hl => sat_lstM h s t hl⟩
    · exact h.elim
  all_goals exact h.elim
theorem real_abs : RealN g (fun xs H Q => ∃ i, xs = [.int i] ∧ Q (.int (if i < 0 then -i else i)) H) (biV .abs) := by
  intro F f R S H xs vs W Q s rx h
  unfold biV at h
  split at h <;> first | (rename_i z; cases z; done) | skip
  · obtain ⟨x, rfl, r⟩ := vrs1 rx
    cases r
    exact ⟨_, rfl, sat_d h s (.int _)⟩
  all_goals exact h.elim
theorem real_max2 : RealN g (fun xs H Q => ∃ i j, xs = [.int i, .int j] ∧ Q (.int (if j > i then j else i)) H) (biV .max2) := by
  intro F f R S H xs vs W Q s rx h
  unfold biV at h
  split at h <;> first | (rename_i z; cases z; done) | skip
  · obtain ⟨x, y, rfl, r, r2⟩ := vrs2 rx
    cases r; cases r2
    exact ⟨_, _, rfl, sat_d h s (.int _)⟩
  all_goals exact h.elim
theorem real_min2 : RealN g (fun xs H Q => ∃ i j, xs = [.int i, .int j] ∧ Q (.int (if j < i then j else i)) H) (biV .min2) := by
  intro F f R S H xs vs W Q s rx h
  unfold biV at h
  split at h <;> first | (rename_i z; cases z; done) | skip
  · obtain ⟨x, y, rfl, r, r2⟩ := vrs2 rx
    cases r; cases r2
    exact ⟨_, _, rfl, sat_d h s (.int _)⟩
  all_goals exact h.elim
theorem real_int : RealN g (fun xs H Q => (∃ i, xs = [.int i] ∧ Q (.int i) H) ∨ ∃ k, xs = [.bl k] ∧ Q (.int (if k then 1 else 0)) H) (biV .int) := by
  intro F f R S H xs vs W Q s rx h
  unfold biV at h
  split at h <;> first | (rename_i z; cases z; done) | skip
  · obtain ⟨x, rfl, r⟩ := vrs1 rx
    cases r
    exact .inl ⟨_, rfl, sat_d h s (.int _)⟩
  · obtain ⟨x, rfl, r⟩ := vrs1 rx
    cases r
    exact .inr ⟨_, rfl, sat_d h s (.int _)⟩
  all_goals exact h.elim
theorem real_strI : RealN g (fun xs H Q => ∃ i, xs = [.int i] ∧ i.natAbs.log2 < 1920 ∧ Q (.str (toString i)) H) (biV .strI) := by
  intro F f R S H xs vs W Q s rx h
  unfold biV at h
  split at h <;> first | (rename_i z; cases z; done) | skip
  · obtain ⟨c, h⟩ := okIf_pos h
    obtain ⟨x, rfl, r⟩ := vrs1 rx
    cases r
    exact ⟨_, rfl, c, sat_d h s (.str _)⟩
  all_goals exact h.elim
theorem real_divmod : RealN g (fun xs H Q => ∃ i j, xs = [.int i, .int j] ∧ CDiv i j ∧ ∀ p, H p = none → Q (.ref p) (upd H p (.tup [.int (i / j), .int (i % j)]))) (biV .divmod) := by
  intro F f R S H xs vs W Q s rx h
  unfold biV at h
  split at h <;> first | (rename_i z; cases z; done) | skip
  · obtain ⟨c, h⟩ := okIf_pos h
    obtain ⟨x, y, rfl, r, r2⟩ := vrs2 rx
    cases r; cases r2
    exact ⟨_, _, rfl, c, fun p hp => sat_tup h s (.cons (.int _) (.one (.int _))) hp⟩
  all_goals exact h.elim
theorem real_ord : RealN g (fun xs H Q => ∃ x, xs = [.str x] ∧ x.length = 1 ∧ Q (.int (x.cps.getD 0 0 : Nat)) H) (biV .ord) := by
  intro F f R S H xs vs W Q s rx h
  unfold biV at h
  split at h <;> first | (rename_i z; cases z; done) | skip
  · obtain ⟨c, h⟩ := okIf_pos h
    obtain ⟨x, rfl, r⟩ := vrs1 rx
    cases r
    exact ⟨_, rfl, c, sat_d h s (.int _)⟩
  all_goals exact h.elim
end
/-! ### repr -/
section
variable {X : Cx} {pins : List (Addr × Obj)} {σ : L2.St} {H : Hp} {s : Shared}
/-- the written part holds sys.modules: a dict -/
def SysK (K : PySem.W.Frag) : Prop := ∃ o, K.lookup sysModules = some o ∧ o.cls = .type "dict"
theorem dict_nil {P : Program} {w : World} {h : Heap} {a : Addr} (x : ObjOk P w H h a (.dK [])) : ∃ o es n, h.get? a = some o ∧ o.cls = .type "dict" ∧ o.data = .dict es n ∧ es.toList = [] ∧ a ≠ sysModules := by
  obtain ⟨_, ns, vs, kv, o, es, ep, e1, e2, e3, _, e5, _⟩ := x
  cases kv
  refine ⟨o, es, ep, e1, e2.1, e3, ?_, beq_eq_false_iff_ne.mp ns⟩
  cases e6 : es.toList with
  | nil => rfl
  | cons a b => rw [e6] at e5; cases e5
mutual
theorem Da.reads (sy : SysK X.K) (I : Inv X pins σ H s) : ∀ (d : PyData) (v : V) (u : Value), Da X.K H v d → RelV v u → ∃ as, Reads s.heap u d as ∧ sysModules ∉ as
  | .none, _, _, h, r => by
    cases h
    cases r
    exact ⟨_, Reads.none, by simp⟩
  | .bool b, _, _, h, r => by
    cases h
    cases r
    exact ⟨_, Reads.bool b, by simp⟩
  | .int i, _, _, h, r => by
    cases h
    obtain ⟨t, rfl⟩ := r
    exact ⟨_, Reads.int i t, by simp⟩
  | .str x, _, _, h, r => by
    cases h
    obtain ⟨t, rfl⟩ := r
    exact ⟨_, Reads.str x t, by simp⟩
  | .list ds, _, _, h, r => by
    cases h with
    | lst hs ha =>
      cases r
      obtain ⟨its, rv, ⟨o, n, ho, hc, _, hd⟩, _⟩ := I.list (.inl hs)
      obtain ⟨as, hr, hn⟩ := Da.readsAll sy I ds _ its ha rv
      refine ⟨_, Reads.list ho hc hd hr, fun z => ?_⟩
      rcases List.mem_cons.mp z with z | z
      · obtain ⟨os, e1, e2⟩ := sy
        have e3 := I.kIn _ _ e1
        rw [z, ho] at e3
        cases e3
        rw [hc] at e2
        injection e2 with e2
        exact absurd e2 (by decide)
      · exact hn z
  | .tuple ds, _, _, h, r => by
    cases h with
    | tup hs ha =>
      cases r
      obtain ⟨its, rv, ⟨o, ho, hc, n, hd⟩, _⟩ := I.tuple hs
      obtain ⟨as, hr, hn⟩ := Da.readsAll sy I ds _ its ha rv
      exact ⟨_, Reads.tuple ho hc hd hr, hn⟩
  | .dict kvs, _, _, h, r => by
    cases h with
    | dct hs =>
      cases r
      obtain ⟨o, es, n, e1, e2, e3, e4, e5⟩ := dict_nil (I.hok _ _ hs)
      refine ⟨_, Reads.dict (as := []) (bs := []) e1 e2 e3 (by rw [e4]; exact .nil) (by rw [e4]; exact .nil), ?_⟩
      simp
      exact fun z => e5 z.symm
theorem Da.readsAll (sy : SysK X.K) (I : Inv X pins σ H s) : ∀ (ds : List PyData) (vs : List V) (us : List Value), DaAll X.K H vs ds → Vals vs us → ∃ as, ReadsAll s.heap us ds as ∧ sysModules ∉ as
  | [], _, _, h, r => by
    cases h
    cases r
    exact ⟨_, ReadsAll.nil, by simp⟩
  | d :: ds, _, _, h, r => by
    cases h with
    | cons h1 h2 =>
      cases r with
      | cons r1 r2 =>
        obtain ⟨as, q1, n1⟩ := Da.reads sy I d _ _ h1 r1
        obtain ⟨bs, q2, n2⟩ := Da.readsAll sy I ds _ _ h2 r2
        exact ⟨_, ReadsAll.cons q1 q2, fun z => (List.mem_append.mp z).elim n1 n2⟩
end
def rRepr (K : PySem.W.Frag) : List V → Hp → VK → Prop := fun xs H Q => ∃ x d, xs = [x] ∧ Da K H x d ∧ d.showable = true ∧ d.depth ≤ 60 ∧ d.shown.length ≤ sizeLine ∧ Q (.str d.shown) H
theorem call_repr (sy : SysK X.K) (hu : X.A.units + 64 < cLine) (hg : X.A.guards = some []) : CallR X (.builtin "repr") (rRepr X.K) := by
  intro pins s σ H xs us Q I r h
  obtain ⟨x, d, rfl, hd, c1, c2, c3, q⟩ := h
  obtain ⟨u, rfl, ru⟩ := vals1 r
  have fin : ∀ (h' : Heap) (t : Tok) (tk : Nat), (∀ b o, s.heap.get? b = some o → h'.get? b = some o) → EP X pins σ Q (.str d.shown t) { s with heap := h', toks := tk } := fun h' t tk k => ⟨.str d.shown, H, I.kept k, ⟨_, rfl⟩, q⟩
  cases hd with
  | non => cases ru; exact PySem.P.repr_of_none (fin s.heap _ _ fun _ _ e => e)
  | bl b =>
    cases ru
    refine PySem.P.repr_of_bool (b := b) ?_
    have e : (PyData.bool b).shown = (if b then "True" else "False" : Str) := by cases b <;> rfl
    rw [← e]
    exact fin s.heap _ _ fun _ _ e => e
  | int i =>
    obtain ⟨t, rfl⟩ := ru
    exact PySem.P.repr_of_int (by simpa [PyData.showable] using c1) (fin s.heap _ _ fun _ _ e => e)
  | str z =>
    obtain ⟨t, rfl⟩ := ru
    exact PySem.P.repr_of_str (fin s.heap _ _ fun _ _ e => e) c3
  | lst h1 t1 =>
    obtain ⟨as, hr, hn⟩ := Da.reads sy I _ _ u (.lst h1 t1) ru
    cases ru
    exact repr_of_reads' hr c1 (fun _ => hn) hg (by omega) (fun _ _ e => e) (fun h' u tk k => fin h' u tk k) c3
  | tup h1 t1 =>
    obtain ⟨as, hr, hn⟩ := Da.reads sy I _ _ u (.tup h1 t1) ru
    cases ru
    exact repr_of_reads' hr c1 (fun _ => hn) hg (by omega) (fun _ _ e => e) (fun h' u tk k => fin h' u tk k) c3
  | dct h1 =>
    obtain ⟨as, hr, hn⟩ := Da.reads sy I _ _ u (.dct h1) ru
    cases ru
    exact repr_of_reads' hr c1 (fun _ => hn) hg (by omega) (fun _ _ e => e) (fun h' u tk k => fin h' u tk k) c3
end
theorem dat_da {g : Gc} {F : Hp} {f : List Addr} {R : Rs} {S : Store} {H : Hp} (s : Sm g F f R S H) {v : Val} {x : V} {d : PyData} (r : VR g F f x v) (e : datOf S v = some d) : Da g.K H x d := by
  cases v with
  | d y => cases e; exact Da.sub s.le r
  | fn k => cases e
  | tp es =>
    obtain ⟨a, xs, rfl, h1, h2⟩ := r
    cases q : elsD S es with
    | none => simp [datOf, q] at e
    | some l =>
      simp [datOf, q] at e
      subst e
      exact .tup (SqT.sub s.le h1) (els_da s h2 q)
  | ls es =>
    obtain ⟨a, xs, rfl, h1, h2⟩ := r
    cases q : elsD S es with
    | none => simp [datOf, q] at e
    | some l =>
      simp [datOf, q] at e
      subst e
      exact .lst (Rd.sub s.le h1) (els_da s h2 q)
  | loc n =>
    obtain ⟨a, h1, rfl⟩ := r
    dsimp only [datOf] at e
    split at e
    · rename_i xs hS
      cases e
      obtain ⟨a', ys, q1, q2, q3⟩ := s.getL hS
      rw [h1] at q1; cases q1
      exact .lst (.inl q2) (DaAll.sub s.le q3)
    · cases e
theorem real_repr {g : Gc} : RealN g (rRepr g.K) (biV .repr) := by
  intro F f R S H xs vs W Q s rx h
  unfold biV at h
  split at h <;> first | (rename_i z; cases z; done) | skip
  · obtain ⟨x, rfl, r⟩ := vrs1 rx
    split at h
    · rename_i e
      obtain ⟨⟨c1, c2, c3⟩, h⟩ := okIf_pos h
      exact ⟨x, _, rfl, dat_da s r e, c1, c2, c3, sat_d h s (.str _)⟩
    · exact h.elim
  all_goals exact h.elim
/-! ### isinstance -/
theorem kit_all : ∀ (a : Ty) (b : Ty), L2.kitB a.name b.name = some (a == b || (a == .bool && b == .int)) := by
  intro a b
  cases a <;> cases b <;> decide +kernel
theorem kit_none : ∀ (b : Ty), L2.kitB "NoneType" b.name = some false := by
  intro b
  cases b <;> decide +kernel
theorem tyx_tuple {K : PySem.W.Frag} {H : Hp} {a : Addr} {xs : List V} (h : SqT K H a xs) : TyX K H (.ref a) (.type "tuple") := by
  rcases h with (h | ⟨o, h⟩) | ⟨o, its, n, h1, h2, _⟩
  · exact .base (.tup h)
  · exact .fTuple h
  · exact .kTuple h1 h2
theorem tyx_list {K : PySem.W.Frag} {H : Hp} {a : Addr} {xs : List V} (h : Rd H a (.lst xs)) : TyX K H (.ref a) (.type "list") := by
  rcases h with h | ⟨o, h⟩
  · exact .base (.lst h)
  · exact .base (.frz h)
/-- isinstance(v, T) by the value v alone -/
def rIsiT1 (K : PySem.W.Frag) (t : Ty) : V → Hp → VK → Prop := fun x H Q => ∃ (ty : Value) (b : Bool), TyX K H x ty ∧ PySem.W.kitOne K ty (.type t.name) = some b ∧ Q (.bl b) H
theorem real_isi {g : Gc} {t : Ty} {F : Hp} {f : List Addr} {R : Rs} {S : Store} {H : Hp} {x : V} {v : Val} {W : WH} {Q : VK} (s : Sm g F f R S H) (r : VR g F f x v)
    (h : Sat g F f R W (isiV t v S) (fun w F' f' S' H' => ∀ z, VR g F' f' z w → Q z H')) : rIsiT1 g.K t x H Q := by
  unfold isiV at h
  split at h
  · rename_i b e
    unfold isTy at e
    split at e
    · cases e; cases r
      exact ⟨.type "NoneType", _, .base .non, kit_ty (kit_none t), sat_d h s (.bl _)⟩
    · cases e; cases r
      refine ⟨.type "bool", _, .base (.bl _), kit_ty (kit_all .bool t), ?_⟩
      have q := sat_d h s (.bl _)
      have e : (Ty.bool == t || (Ty.bool == Ty.bool && t == Ty.int)) = (t == Ty.bool || t == Ty.int) := by cases t <;> rfl
      rw [e]; exact q
    · cases e; cases r
      refine ⟨.type "int", _, .base (.int _), kit_ty (kit_all .int t), ?_⟩
      have q := sat_d h s (.bl _)
      have e : (Ty.int == t || (Ty.int == Ty.bool && t == Ty.int)) = (t == Ty.int) := by cases t <;> rfl
      rw [e]; exact q
    · cases e; cases r
      refine ⟨.type "str", _, .base (.str _), kit_ty (kit_all .str t), ?_⟩
      have q := sat_d h s (.bl _)
      have e : (Ty.str == t || (Ty.str == Ty.bool && t == Ty.int)) = (t == Ty.str) := by cases t <;> rfl
      rw [e]; exact q
    · cases e
      cases r with
      | tup h1 t1 =>
        refine ⟨.type "tuple", _, tyx_tuple (SqT.sub s.le h1), kit_ty (kit_all .tuple t), ?_⟩
        have q := sat_d h s (.bl _)
        have e : (Ty.tuple == t || (Ty.tuple == Ty.bool && t == Ty.int)) = (t == Ty.tuple) := by cases t <;> rfl
        rw [e]; exact q
    · cases e
      cases r with
      | lst h1 t1 =>
        refine ⟨.type "list", _, tyx_list (Rd.sub s.le h1), kit_ty (kit_all .list t), ?_⟩
        have q := sat_d h s (.bl _)
        have e : (Ty.list == t || (Ty.list == Ty.bool && t == Ty.int)) = (t == Ty.list) := by cases t <;> rfl
        rw [e]; exact q
    · cases e
      cases r with
      | dct h1 =>
        refine ⟨.type "dict", _, .base (.dK (s.le _ _ h1)), kit_ty (kit_all .dict t), ?_⟩
        have q := sat_d h s (.bl _)
        have e : (Ty.dict == t || (Ty.dict == Ty.bool && t == Ty.int)) = (t == Ty.dict) := by cases t <;> rfl
        rw [e]; exact q
    · split at e
      · rename_i hS
        cases e
        obtain ⟨a, h1, rfl⟩ := r
        obtain ⟨a', zs, q1, q2, q3⟩ := s.getL hS
        rw [h1] at q1; cases q1
        refine ⟨.type "list", _, .base (.lst q2), kit_ty (kit_all .list t), ?_⟩
        have q := sat_d h s (.bl _)
        have e : (Ty.list == t || (Ty.list == Ty.bool && t == Ty.int)) = (t == Ty.list) := by cases t <;> rfl
        rw [e]; exact q
      · cases e
    · cases e
  · exact h.elim
/-! ### a list's append, a store -/
theorem real_append {g : Gc} {F : Hp} {f : List Addr} {R : Rs} {S : Store} {H : Hp} {x : V} {v : Val} {xs : List V} {vs : List Val} {W : WH} {Q : VK} (s : Sm g F f R S H) (r : VR g F f x v) (rs : VRs g F f xs vs)
    (h : Sat g F f R W (meV .append v vs S) (fun w F' f' S' H' => ∀ z, VR g F' f' z w → Q z H')) : rAppend x xs H Q ∧ ∃ a ys, x = .ref a ∧ SqL g.K H a ys := by
  unfold meV at h
  split at h
  · split at h
    · rename_i hS
      split at h
      · rename_i c
        obtain ⟨a, h1, rfl⟩ := r
        obtain ⟨y, rfl, ry⟩ := vrs1 rs
        obtain ⟨a', zs, q1, q2, q3⟩ := s.getL hS
        rw [h1] at q1; cases q1
        refine ⟨⟨_, _, y, rfl, rfl, q2, by rw [q3.len]; exact c, ?_⟩, _, _, rfl, .inl (.inl q2)⟩
        have s1 := s.put (o := .lst (zs ++ [y])) (ob := .lst (_ ++ [_])) h1 ⟨_, rfl, q3.append (.one ry)⟩
        exact h F f _ (Ext.refl _ _) s1 .non .non
      · exact h.elim
    · exact h.elim
  · rename_i z; cases z
  · exact h.elim
theorem real_set {g : Gc} {F : Hp} {f : List Addr} {R : Rs} {S : Store} {H : Hp} {x y z : V} {v u w : Val} {W : WH} {Q : Hp → Prop} (s : Sm g F f R S H) (r : VR g F f x v) (r2 : VR g F f y u) (r3 : VR g F f z w)
    (h : Sat g F f R W (setV v u w S) (fun _ F' f' S' H' => Q H')) : rSetL x y z H Q := by
  unfold setV at h
  split at h
  · split at h
    · rename_i hS
      split at h
      · rename_i j c
        obtain ⟨a, h1, rfl⟩ := r
        cases r2
        obtain ⟨a', zs, q1, q2, q3⟩ := s.getL hS
        rw [h1] at q1; cases q1
        refine ⟨_, _, _, j, rfl, rfl, q2, by rw [q3.len]; exact c, ?_⟩
        have s1 := s.put (o := .lst (zs.set j z)) (ob := .lst (_)) h1 ⟨_, rfl, DaAll.set r3 j q3⟩
        exact h F f _ (Ext.refl _ _) s1
      · exact h.elim
    · exact h.elim
  · exact h.elim
end Ev
end

section
set_option Elab.async false
set_option linter.all false
set_option maxRecDepth 100000
set_option maxHeartbeats 4000000
/-! E4b: len(set(texts)) -/
namespace Ev
open PySem PySem.Spec PyProof.Rows L2

theorem addD_len (acc : List Str) (x : Str) : (addD acc x).length ≤ acc.length + 1 := by
  unfold addD
  split <;> simp
theorem once_len : ∀ (xs acc : List Str), (xs.foldl addD acc).length ≤ acc.length + xs.length
  | [], acc => by simp
  | x :: xs, acc => by
    have h1 := once_len xs (addD acc x)
    have h2 := addD_len acc x
    show (xs.foldl addD (addD acc x)).length ≤ _
    rw [List.length_cons]
    omega
section
variable {prog : Program} {w : World} {A : Around} {R : Result → Shared → Prop} {I S : Addr} {fp wr : List Addr} {G : Array GenState → Array GenState → Prop} {P : Nat → Value → Prop} {St : Nat → Shared → Prop}
abbrev SetS (prog : Program) (w : World) (h : Heap) (S : Addr) (acc : List Str) : Prop := h.SetOf (PySem.strKind prog w) S (fun k => decide (k ∈ acc)) acc.length
/-- the loop that fills a set, from turn i on -/
theorem fill_loop (W : WalksS prog w A.in1 I fp wr G n P St) (off : S ∉ fp) {xs : List Str} (few : xs.length < 4000) (hn : xs.length = n) (val : ∀ i v, P i v → ∃ t, v = .str (xs.getD i Str.empty) t) :
    ∀ (rest : List Str) (i : Nat) (acc : List Str) (s : Shared), xs.drop i = rest → i ≤ n → acc.length ≤ i → St i s → SetS prog w s.heap S acc →
      (∀ s', Moved (S :: wr) G s s' → SetS prog w s'.heap S (rest.foldl addD acc) → R (.ok (.ret .none)) s') →
      codeAny (model prog w) A (.builtin "set.update.loop" ⟨[.ref S, .ref I], []⟩) R s := by
  have offw : S ∉ wr := fun h => off (W.sub _ h)
  have more : ∀ b ∈ wr, b ∈ S :: wr := fun b hb => List.mem_cons_of_mem _ hb
  have still : ∀ {s s' : Shared} {acc : List Str}, Moved wr G s s' → SetS prog w s.heap S acc → SetS prog w s'.heap S acc := fun {s s' acc} m ⟨o, es, ep, t, ho, z⟩ => ⟨o, es, ep, t, m.heap S _ offw ho, z⟩
  intro rest
  induction rest with
  | nil =>
    intro i acc s hd hi hl st hS fin
    have ei : i = n := by
      have := List.drop_eq_nil_iff.mp hd
      omega
    subst ei
    refine codeAny_builtin PyProof.Rows.F.entry_set_update_loop ?_
    rw [Around.under_plainId PyProof.Rows.F.plain_set_update_loop _]
    refine wpAny_bind (W.done s _ _ st fun s' hm => ?_)
    exact wpAny_pure (fin s' (hm.mono more) (still hm hS))
  | cons y rest ih =>
    intro i acc s hd hi hl st hS fin
    have lt : i < xs.length := by
      have := congrArg List.length hd
      rw [List.length_drop, List.length_cons] at this
      omega
    have hy : xs.getD i Str.empty = y := by
      rw [List.drop_eq_getElem_cons lt] at hd
      rw [List.getD_eq_getElem?_getD, List.getElem?_eq_getElem lt]
      exact (List.cons.inj hd).1
    have hd2 : xs.drop (i + 1) = rest := by
      rw [List.drop_eq_getElem_cons lt] at hd
      exact (List.cons.inj hd).2
    refine codeAny_builtin PyProof.Rows.F.entry_set_update_loop ?_
    rw [Around.under_plainId PyProof.Rows.F.plain_set_update_loop _]
    refine wpAny_bind (W.item i s _ _ (by omega) st fun v s' hP st' hm => ?_)
    obtain ⟨t, rfl⟩ := val i v hP
    rw [hy]
    have hS' := still hm hS
    refine wpAny_bind (wpAny_holding ?_)
    unfold setAdd
    refine wpAny_holding (wpAny_bind ((PySem.strKind prog w).pyHash (k := y) (strKind_is _ _ _ _) ?_))
    refine wpAny_setAddHashed_of (knd := PySem.strKind prog w) (s := { s' with toks := s'.toks + 1 }) (strKind_is _ _ _ _) rfl hS' (by unfold scanBound; omega) fun h' hsb hS2 => ?_
    have hS3 : SetS prog w h' S (addD acc y) := by
      refine SetOf_congr hS2 (fun k => ?_) ?_
      · unfold addD
        by_cases m : y ∈ acc
        · rw [if_pos m]
          by_cases e : k = y
          · subst e; simp [m]
          · simp [e]
        · rw [if_neg m]; simp
      · unfold addD
        by_cases m : y ∈ acc
        · simp [m]
        · simp [m]
    refine wpAny_pure ⟨plainId_quiet PyProof.Rows.F.plain_set_update_loop _, ih (i + 1) (addD acc y) _ hd2 (by omega) (by have := addD_len acc y; omega) (W.frame _ s' _ _ st' (Nat.le_succ _) fun b hb o e => ?_) hS3 fun s'' hm2 hS4 => ?_⟩
    · rw [hsb.2 b (fun h : b = S => off (h ▸ hb))]; exact e
    · refine fin s'' (Moved.trans W.gtrans ((hm.mono more).then_heap (Nat.le_succ _) fun b o hb e => ?_) hm2) hS4
      rw [hsb.2 b (fun h : b = S => hb (h ▸ List.mem_cons_self))]; exact e
end
/-- the object at l is walked in order -/
def Goes (prog : Program) (w : World) (T : String) (l : Addr) (od : Option Addr) (items : Array Value) (nl : Nat) (sl : Array (Option Value)) : Prop :=
  ∀ (A : Around) (Q : Value → Shared → Prop) (E : Value → Shared → Prop) (s : Shared), s.heap.get? l = some ⟨.type T, od, .seq items nl, sl⟩ →
    (∀ (io : Obj) (St : Nat → Heap → Prop), io.isFreed = false → (∀ A' : Around, A'.handled = none → Walks prog w A' s.heap.objs.size [s.heap.objs.size, l] [s.heap.objs.size] items.size (fun i v => items[i]? = some v) St) → St 0 (s.heap.push io) →
      Q (.ref s.heap.objs.size) { s with heap := s.heap.push io }) → wpAny (model prog w) A (pyIter (.ref l)) Q E s
theorem goes_list {prog : Program} {w : World} {l : Addr} {od : Option Addr} {items : Array Value} {nl : Nat} {sl : Array (Option Value)} : Goes prog w "list" l od items nl sl := fun A Q E s ho h => by
  have hl : s.heap.IsList l items := ⟨_, ho, rfl, nl, rfl⟩
  have ne : l ≠ s.heap.objs.size := Nat.ne_of_lt (Heap.lt_size ho)
  refine wpAny_pyIter_list hl (h _ _ rfl (fun A' hh => Walks.list hh _ l ne items) ⟨⟨_, Heap.get?_push_size _ rfl, rfl, rfl⟩, hl.push _⟩)
theorem goes_tuple {prog : Program} {w : World} {l : Addr} {od : Option Addr} {items : Array Value} {nl : Nat} {sl : Array (Option Value)} : Goes prog w "tuple" l od items nl sl := fun A Q E s ho h => by
  have hl : s.heap.IsTuple l items := ⟨_, ho, rfl, nl, rfl⟩
  have ne : l ≠ s.heap.objs.size := Nat.ne_of_lt (Heap.lt_size ho)
  refine wpAny_pyIter_tuple hl (h _ _ rfl (fun A' hh => Walks.tuple hh _ l ne items) ⟨⟨_, Heap.get?_push_size _ rfl, rfl, rfl⟩, hl.push _⟩)
section
variable {prog : Program} {w : World} {A : Around} {E : Value → Shared → Prop} {s : Shared}
set_option maxHeartbeats 16000000 in
theorem call_set_texts {T : String} {l : Addr} {od : Option Addr} {items : Array Value} {nl : Nat} {sl : Array (Option Value)} {xs : List Str} {Q : Value → Shared → Prop}
    (hh : A.handled = none) (ho : s.heap.get? l = some ⟨.type T, od, .seq items nl, sl⟩) (goes : Goes prog w T l od items nl sl) (hsls : isSubtype (.type T) (.type "set") = pure false) (hslf : isSubtype (.type T) (.type "frozenset") = pure false)
    (hne : (Value.type T == Value.type "dict") = false) (hi : PyProof.Rows.StrsAre items.toList xs) (few : xs.length < 4000)
    (h : ∀ (h' : Heap) (tk : Nat), SetS prog w h' s.heap.objs.size (onceS xs) → (∀ b o, b < s.heap.objs.size → s.heap.get? b = some o → h'.get? b = some o) → Q (.ref s.heap.objs.size) { s with heap := h', toks := tk }) :
    wpAny (model prog w) A (call (.type "set") [.ref l]) Q E s := by
  obtain ⟨c, tl, hmro⟩ := PySem.F.called_set.mro
  have hmade := PySem.F.called_set.made
  have hsub := PySem.F.called_set.sub
  refine wpAny_call (codeAny_of_tree ?_)
  show wpAny _ _ (callAny (.type "set") _) _ _ _
  refine wpAny_pure ⟨Code.quiet_builtin _ (by decide +kernel), codeAny_builtin PySem.F.entry_type_call ?_⟩
  rw [Around.under_plain (weight_type_call_type "set" [.ref l] []) rfl]
  have h1 := PySem.F.called_set.notType
  have h2 := PySem.F.called_set.canCreate
  have hct := PySem.F.typeCall_set_1 (.ref l)
  repeat (any_goals (first | assumption | wp_step))
  generalize hnew : (fun led : Bool => ({ cls := .type "set", dict := none, data := .set #[] 0 (.fresh 0 0 led) } : Obj)) = new
  refine codeAny_mono (code_set_new_1 (.ref l) (E := E) (Q₁ := fun obj s₁ => ∃ led : Bool, obj = .ref s.heap.objs.size ∧ s₁ = { s with heap := s.heap.push (new led) }) fun led => ⟨led, rfl, by rw [← hnew]⟩) fun r s₁ hr => ?_
  cases r with
  | error e => exact hr
  | ok fl =>
    cases fl with
    | ret obj =>
      obtain ⟨led, rfl, rfl⟩ := hr
      have enew : new led = { cls := .type "set", dict := none, data := .set #[] 0 (.fresh 0 0 led) } := by rw [← hnew]
      have hS : (s.heap.push (new led)).get? s.heap.objs.size = some { cls := .type "set", dict := none, data := .set #[] 0 (.fresh 0 0 led) } := by rw [enew]; exact Heap.get?_push_size _ rfl
      have hT : Shared.TypeIs { s with heap := s.heap.push (new led) } (.ref s.heap.objs.size) "set" := ⟨_, hS, rfl⟩
      have hli := PySem.F.called_set.init.lookup
      have hbi := PySem.F.called_set.init.bind (.ref s.heap.objs.size)
      repeat (any_goals (first | assumption | wp_step))
      refine codeAny_mono (codeAny_call_builtin (R := wants (fun r s₂ => r = .none ∧ ∃ h' tk, s₂ = { s with heap := h', toks := tk } ∧ SetS prog w h' s.heap.objs.size (onceS xs) ∧
          (∀ b o, b < s.heap.objs.size → s.heap.get? b = some o → h'.get? b = some o)) E) PySem.F.called_set.init.plain PySem.F.entry_set_init (check_set_init_1 hT ?_)) fun r₂ s₂ hr₂ => ?_
      · have hol' : (s.heap.push (new led)).get? l = some ⟨.type T, od, .seq items nl, sl⟩ := Heap.get?_push_of_some _ ho
        have lS : l < s.heap.objs.size := Heap.lt_size ho
        unfold Builtin.«set.__init__» noKeywords Builtin.Frozenset.updateFrom
        generalize hPI : pyIter = PI
        wp_walk
        subst hPI
        refine goes _ _ _ _ hol' fun io St fr walk st => ?_
        refine wpAny_bind (wpAny_runValue ?_)
        have sz : xs.length = items.size := by rw [← StrsAre.len_eq hi, Array.length_toList]
        have apart : s.heap.objs.size ∉ [(s.heap.push (new led)).objs.size, l] := by
          rw [Heap.size_push]
          simp only [List.mem_cons, List.not_mem_nil, or_false, not_or]
          exact ⟨Nat.ne_of_lt (Nat.lt_succ_self _), Nat.ne_of_gt lS⟩
        refine fill_loop ((walk A.in1.in1.in1 (by simp [hh])).toS) apart few sz (fun i v hv => SS.strs_at hi i v (by rw [Array.getElem?_toList]; exact hv)) xs 0 [] _ rfl (Nat.zero_le _) (Nat.le_refl _) st ?_ ?_
        · exact PyProof.Rows.SetOf_congr ((PyProof.Rows.setObjOf_fresh (knd := PySem.strKind prog w) led).setOf (Heap.get?_push_of_some _ hS) (by unfold scanBound; omega)) (fun _ => rfl) rfl
        · intro s' hm hS'
          obtain ⟨h', g', d', tk', os'⟩ := s'
          obtain rfl : g' = s.gens := hm.gens
          obtain rfl : d' = s.drawn := hm.drawn
          obtain rfl : os' = s.os := hm.os
          refine wpAny_pure ?_
          refine wpAny_pure ⟨rfl, h', tk', rfl, hS', fun b o hb e => ?_⟩
          refine hm.heap b o ?_ (Heap.get?_push_of_some _ (Heap.get?_push_of_some _ e))
          simp only [List.mem_cons, List.not_mem_nil, or_false, not_or]
          exact ⟨Nat.ne_of_lt hb, by rw [Heap.size_push]; exact Nat.ne_of_lt (Nat.lt_succ_of_lt hb)⟩
      · cases r₂ with
        | error e => exact hr₂
        | ok fl₂ =>
          cases fl₂ with
          | ret r =>
            obtain ⟨rfl, h', tk, rfl, hS', hk'⟩ := hr₂
            repeat (any_goals (first | assumption | wp_step))
            exact h _ _ hS' hk'
          | _ => exact hr₂.elim
    | _ => exact hr.elim
end
end Ev
end

section
set_option Elab.async false
set_option linter.all false
set_option maxRecDepth 100000
set_option maxHeartbeats 4000000
/-! E5: slices -/
namespace Ev
open PySem PySem.Spec PyProof.Rows L2

abbrev rdO (g : Gc) (W : WX) (t : TD (Option Int)) : TO := rdG g W (fun _ _ x v => x = v) t
def rSliV (K : PySem.W.Frag) : V → Option Int → Option Int → Hp → VK → Prop := fun x lo hi H Q => rSlL K x lo hi H Q ∨ (rSlA K x lo hi H Q ∨ rSlS x lo hi H Q)
theorem sl_V {X : Cx} : SlR X (rSliV X.K) := SlR.or sl_list (SlR.or sl_tupA sl_str)
theorem cut_da {K : PySem.W.Frag} {F : Hp} {xs : List V} {ds : List PyData} (t : DaAll K F xs ds) (lo hi : Option Int) : DaAll K F (cutV xs lo hi) (cutD ds lo hi) := by
  unfold cutV cutD
  rw [t.len]
  exact (t.drop _).take _
theorem cut_all {K : PySem.W.Frag} {F : Hp} {xs : List V} {ds : List PyData} (t : DaAll K F xs ds) {lo hi : Option Int} (h : HT.sIx xs.length 0 lo = 0 ∧ HT.sIx xs.length xs.length hi = xs.length) : cutD ds lo hi = ds := by
  unfold cutD
  rw [← t.len, h.1, h.2]
  simp [t.len]
theorem real_sli {g : Gc} {F : Hp} {f : List Addr} {R : Rs} {S : Store} {H : Hp} {x : V} {v : Val} {lo hi : Option Int} {W : WH} {Q : VK} (s : Sm g F f R S H) (r : VR g F f x v)
    (h : Sat g F f R W (sliV v lo hi S) (fun w F' f' S' H' => ∀ z, VR g F' f' z w → Q z H')) : rSliV g.K x lo hi H Q := by
  unfold sliV at h
  split at h
  · obtain ⟨c, h⟩ := okIf_pos h
    cases r
    exact .inr (.inr ⟨_, rfl, c, sat_d h s (.str _)⟩)
  · cases r with
    | tup h1 t1 =>
      refine .inr (.inl ⟨_, _, rfl, SqT.sub s.le h1, fun e => ?_, fun _ p hp => sat_tup h s (cut_da t1 lo hi) hp⟩)
      rw [cut_all t1 e] at h
      exact sat_d h s (.tup h1 t1)
  · split at h
    · rename_i e
      obtain ⟨a, ys, rfl, q, t⟩ := lst_of s r e
      exact .inl ⟨_, _, rfl, .inl q, fun p hp => sat_lst h s (cut_da t lo hi) hp⟩
    · exact h.elim
theorem fm_some {α β : Type} (f : α → Option β) (k : α → β) : ∀ l : List α, (∀ a ∈ l, f a = some (k a)) → l.filterMap f = l.map k
  | [], _ => rfl
  | a :: l, h => by
    rw [List.filterMap_cons, h a List.mem_cons_self, List.map_cons, fm_some f k l fun b hb => h b (List.mem_cons_of_mem _ hb)]
/-! ### t[::-1], t[:0:-1] -/
section
variable {prog : Program} {w : World} {A : Around} {E : Value → Shared → Prop} {s : Shared}
theorem range_back (xs : Array Value) (n : Nat) (hn : n ≤ xs.size) : (List.range n).filterMap (fun (m : Nat) => xs[(((xs.size : Int) - 1) + (m : Int) * (-1)).toNat]?) = (xs.toList.drop (xs.size - n)).reverse := by
  have e : ∀ m ∈ List.range n, xs[(((xs.size : Int) - 1) + (m : Int) * (-1)).toNat]? = some ((xs.toList.drop (xs.size - n)).reverse.getD m default) := fun m hm => by
    have hm' := List.mem_range.mp hm
    have e1 : (((xs.size : Int) - 1) + (m : Int) * (-1)).toNat = xs.size - 1 - m := by omega
    have hlt : xs.size - 1 - m < xs.size := by omega
    rw [e1, Array.getElem?_eq_getElem hlt, List.getD_eq_getElem?_getD, List.getElem?_eq_getElem (by simp; omega)]
    simp only [Option.getD_some, Option.some.injEq]
    rw [List.getElem_reverse, List.getElem_drop]
    simp only [Array.getElem_toList, List.length_drop, Array.length_toList]
    congr 1
    omega
  have e2 : (List.range n).filterMap (fun (m : Nat) => xs[(((xs.size : Int) - 1) + (m : Int) * (-1)).toNat]?) = (List.range n).map fun m => (xs.toList.drop (xs.size - n)).reverse.getD m default := by
    exact fm_some _ _ _ e
  rw [e2]
  apply List.ext_getElem
  · simp; omega
  · intro i h1 h2
    simp only [List.getElem_map, List.getElem_range, List.getD_eq_getElem?_getD]
    rw [List.getElem?_eq_getElem h2, Option.getD_some]
/-- z: with the stop 0 -/
def stopOf (z : Bool) : Option Int := if z = true then some 0 else none
theorem sliceApplied_back {sl : Addr} {vu vs : Value} {z : Bool} {n : Nat} {Q : Int × Int × Nat → Shared → Prop} (hs : s.heap.IsSliceOf sl .none vu vs) (pu : IsPart vu (stopOf z)) (ps : IsPart vs (some (-1)))
    (h : Q ((n : Int) - 1, -1, if z = true then n - 1 else n) s) : wpAny (model prog w) A (Builtin.Slice.sliceApplied (.ref sl) (pure (n : Int))) Q E s := by
  obtain ⟨os, hos, hcs, hds⟩ := id hs
  unfold Builtin.Slice.sliceApplied Builtin.Slice.sliceFields
  refine wpAny_bind (wpAny_bind (wpAny_field hos hds (x := .none) rfl (wpAny_bind (wpAny_field hos hds (x := vu) rfl (wpAny_bind (wpAny_field hos hds (x := vs) rfl (wpAny_pure ?_)))))))
  refine wpAny_bind (HT.slicePart_ ps ?_)
  show wpAny _ _ (if ((-1 : Int) == 0) = true then _ else _) _ _ s
  rw [if_neg (by decide)]
  refine wpAny_bind (HT.slicePart_ .none (wpAny_bind (HT.slicePart_ pu (wpAny_bind (wpAny_pure ?_)))))
  have e : Builtin.Slice.sliceAdjust none (stopOf z) (-1) (n : Int) = ((n : Int) - 1, if z = true then min 0 ((n : Int) - 1) else -1) := by
    cases z
    · rfl
    · unfold Builtin.Slice.sliceAdjust stopOf
      simp
  have e2 : Builtin.Slice.slicePlaces ((n : Int) - 1) (if z = true then min 0 ((n : Int) - 1) else -1) (-1) = if z = true then n - 1 else n := by
    unfold Builtin.Slice.slicePlaces
    cases z
    · simp only [Bool.false_eq_true, if_false]
      rw [if_neg (by decide)]
      by_cases h0 : n = 0
      · subst h0; rfl
      · rw [if_pos (by omega)]
        rw [show (-(-1) : Int) = 1 by decide, Int.ediv_one]
        omega
    · simp only [if_true]
      rw [if_neg (by decide)]
      by_cases h0 : n ≤ 1
      · rw [if_neg (by omega)]
        omega
      · rw [if_pos (by omega), show (-(-1) : Int) = 1 by decide, Int.ediv_one]
        omega
  show wpAny _ _ (match Builtin.Slice.sliceAdjust none (stopOf z) (-1) (n : Int) with | (lo, hi) => pure (lo, (-1 : Int), Builtin.Slice.slicePlaces lo hi (-1))) _ _ s
  rw [e]
  show wpAny _ _ (pure ((n : Int) - 1, (-1 : Int), Builtin.Slice.slicePlaces ((n : Int) - 1) (if z = true then min 0 ((n : Int) - 1) else -1) (-1))) _ _ s
  rw [e2]
  exact wpAny_pure h
theorem getItem_tuple_back {t sl : Addr} {items : Array Value} {vu vs : Value} {z : Bool} {Q : Value → Shared → Prop} (ht : IsTup s.heap t items) (hs : s.heap.IsSliceOf sl .none vu vs) (pu : IsPart vu (stopOf z)) (ps : IsPart vs (some (-1)))
    (h : Q (.ref s.heap.objs.size) { s with heap := s.heap.push { cls := .type "tuple", data := .seq (items.toList.drop (items.size - (if z = true then items.size - 1 else items.size))).reverse.toArray } })
    (hsz : items.size ≤ sizeLine) : wpAny (model prog w) A (getItem (.ref t) (.ref sl)) Q E s := by
  have hle : (if z = true then items.size - 1 else items.size) ≤ items.size := by cases z <;> simp
  have htake : sizeOk (.seq (items.toList.drop (items.size - (if z = true then items.size - 1 else items.size))).reverse.toArray) := by
    show (items.toList.drop (items.size - (if z = true then items.size - 1 else items.size))).reverse.toArray.size ≤ sizeLine
    rw [List.size_toArray, List.length_reverse, List.length_drop, Array.length_toList]
    omega
  obtain ⟨os, hos, hcs, hds⟩ := id hs
  have hTs : s.TypeIs (.ref sl) "slice" := ⟨os, hos, hcs⟩
  unfold getItem
  try with_reducible refine wpAny_holding ?_
  first | refine wpAny_bind (wpAny_pure ?_) | skip
  refine wpAny_bind (wpAny_sequenceKey ht.typeIs (by decide) ?_)
  refine wpAny_bind (wpAny_callSpecial?_slot (name := Str.ofString "__getitem__") ht.typeIs PyProof.Rows.slot_tuple_getitem
    (wpAny_call_entry PyProof.Rows.slot_tuple_getitem ht.typeIs entry_tuple_getitem ?_ (args_tuple_getitem _ _)))
  show wpAny _ _ (Builtin.Tuple.tupleItemsOf (.ref t) >>= _) _ _ s
  refine wpAny_bind (tupleItemsOf_ ht ?_)
  refine wpAny_bind (wpAny_typeOf hTs ?_)
  rw [if_pos (by decide)]
  refine wpAny_bind (sliceApplied_back hs pu ps ?_)
  have hno : ¬ ((((items.size : Int) - 1) == 0 && (-1 : Int) == 1 && (if z = true then items.size - 1 else items.size) == items.size) = true) := by
    intro q
    rw [Bool.and_eq_true, Bool.and_eq_true] at q
    have q1 : (-1 : Int) = 1 := eq_of_beq q.1.2
    exact absurd q1 (by decide)
  show wpAny _ _ (if (((items.size : Int) - 1) == 0 && (-1 : Int) == 1 && (if z = true then items.size - 1 else items.size) == items.size) = true then _ else _) _ _ s
  rw [if_neg hno, range_back items _ hle]
  first
    | exact wpAny_bind (m := Builtin.Tuple.tupleExact _) (wpAny_newObj_type (wpAny_pure ⟨_, rfl, wpAny_pure h⟩) htake)
    | exact wpAny_bind (m := Builtin.Tuple.tupleExact _) (wpAny_newObj_type (wpAny_bind (wpAny_pure (wpAny_pure ⟨_, rfl, wpAny_pure h⟩))) htake)
    | exact wpAny_bind (wpAny_bind (m := Builtin.Tuple.tupleExact _) (wpAny_newObj_type (wpAny_pure (wpAny_pure ⟨_, rfl, wpAny_pure h⟩)) htake))
    | exact wpAny_bind (wpAny_bind (m := Builtin.Tuple.tupleExact _) (wpAny_newObj_type (wpAny_pure ⟨_, rfl, wpAny_pure h⟩) htake))
end
def rRevV (K : PySem.W.Frag) (z : Bool) : V → Hp → VK → Prop := fun x H Q => (∃ a xs, x = .ref a ∧ Rd H a (.lst xs) ∧ z = false ∧ ∀ p, H p = none → Q (.ref p) (upd H p (.lst xs.reverse))) ∨
  (∃ a xs, x = .ref a ∧ SqT K H a xs ∧ ∀ p, H p = none → Q (.ref p) (upd H p (.tup (if z = true then (xs.drop 1).reverse else xs.reverse))))
theorem real_rev {g : Gc} {F : Hp} {f : List Addr} {R : Rs} {S : Store} {H : Hp} {x : V} {v : Val} {z : Bool} {W : WH} {Q : VK} (s : Sm g F f R S H) (r : VR g F f x v)
    (h : Sat g F f R W (revV z v S) (fun w F' f' S' H' => ∀ z, VR g F' f' z w → Q z H')) : rRevV g.K z x H Q := by
  unfold revV at h
  split at h
  · cases r with
    | tup h1 t1 =>
      refine .inr ⟨_, _, rfl, SqT.sub s.le h1, fun p hp => sat_tup h s ?_ hp⟩
      cases z
      · exact t1.reverse
      · exact (t1.drop 1).reverse
  · split at h
    · rename_i e
      obtain ⟨a, ys, rfl, q, t⟩ := lst_of s r e
      cases z
      · exact .inl ⟨_, _, rfl, q, rfl, fun p hp => sat_lst h s t.reverse hp⟩
      · exact h.elim
    · exact h.elim
theorem Vals.reverseV : ∀ {xs : List V} {us : List Value}, Vals xs us → Vals xs.reverse us.reverse
  | _, _, .nil => .nil
  | _, _, .cons a t => by rw [List.reverse_cons, List.reverse_cons]; exact (Vals.reverseV t).append (.cons a .nil)
section
variable {X : Cx}
/-- the values behind the brackets are there: a[:stop:-1] -/
theorem rev_tail {pins : List (Addr × Obj)} {σ : L2.St} {H : Hp} {s : Shared} {z : Bool} {x : V} {v vu vs : Value} {Q : VK} {e sl : Expr} (I : Inv X pins σ H s) (rx : RelV x v) (pu : IsPart vu (stopOf z)) (ps : IsPart vs (some (-1))) (h : rRevV X.K z x H Q)
    (hs : ∀ o i, subscripted sl false o i = operate [o, i] (getItem o i) ∨ subscripted sl false o i = operate [i, o] (getItem o i)) :
    wpAny (model X.prog X.w) X.A (subscriptTail e sl v (.ref s.heap.objs.size)) (EP X pins σ Q) X.xe { s with heap := s.heap.push { cls := .type "slice", data := .fields #[.none, vu, vs] } } := by
  have I5 : Inv X pins σ H { s with heap := s.heap.push { cls := .type "slice", data := .fields #[.none, vu, vs] } } := I.kept (t' := s.toks) fun b ob q => Heap.get?_push_of_some _ q
  have isl : (s.heap.push { cls := .type "slice", data := .fields #[.none, vu, vs] }).IsSliceOf s.heap.objs.size .none vu vs := Heap.IsSliceOf.new _ .none vu vs
  rcases h with ⟨a, xs, rfl, hx, rfl, q⟩ | ⟨a, xs, rfl, hx, q⟩
  · cases rx
    obtain ⟨its, r, ht, hz⟩ := I5.list (.inl hx)
    have hlen := r.length
    have go : wpAny (model X.prog X.w) X.A (getItem (.ref a) (.ref s.heap.objs.size)) (EP X pins σ Q) X.xe { s with heap := s.heap.push { cls := .type "slice", data := .fields #[.none, vu, vs] } } := by
      refine wpAny_getItem_list_slice ht.isList isl .none pu ps (by decide) ?_ (by rw [List.size_toArray]; omega)
      show EP X pins σ Q _ { s with heap := (s.heap.push _).push { cls := .type "list", data := .seq (slicePick its.toArray none none (some (-1))) } }
      rw [PySem.W.krv_pick]
      refine ⟨.ref _, _, I5.laid (t' := s.toks) (o := .lst xs.reverse) (fun b ob q => Heap.get?_push_of_some _ q) (Nat.le_refl _) ?_, rfl, q _ (I5.hok.fresh (Nat.le_refl _))⟩
      exact ⟨by rw [List.length_reverse]; exact hz, _, 0, Vals.reverseV r, Heap.get?_push_size _ rfl⟩
    rcases hs (.ref a) (.ref s.heap.objs.size) with e1 | e1
    · exact tail_any ht.isList.typeIs (PySem.slot_list_getitem.lookup) go e1
    · exact tail_any ht.isList.typeIs (PySem.slot_list_getitem.lookup) go e1
  · cases rx
    obtain ⟨its, r, ht, hz⟩ := I5.tuple hx
    have hlen := r.length
    have go : wpAny (model X.prog X.w) X.A (getItem (.ref a) (.ref s.heap.objs.size)) (EP X pins σ Q) X.xe { s with heap := s.heap.push { cls := .type "slice", data := .fields #[.none, vu, vs] } } := by
      refine getItem_tuple_back ht isl pu ps ?_ (by rw [List.size_toArray]; omega)
      have e2 : (its.toArray.toList.drop (its.toArray.size - (if z = true then its.toArray.size - 1 else its.toArray.size))).reverse = if z = true then (its.drop 1).reverse else its.reverse := by
        cases z
        · simp
        · simp only [if_true, List.size_toArray]
          cases its with
          | nil => rfl
          | cons a b =>
            have : (a :: b).length - ((a :: b).length - 1) = 1 := by simp
            rw [this]
      rw [e2]
      refine ⟨.ref _, _, I5.laid (t' := s.toks) (o := .tup (if z = true then (xs.drop 1).reverse else xs.reverse)) (fun b ob q => Heap.get?_push_of_some _ q) (Nat.le_refl _) ?_, rfl, q _ (I5.hok.fresh (Nat.le_refl _))⟩
      cases z
      · exact ⟨by simp; exact hz, _, Vals.reverseV r, IsTup.new _ _⟩
      · exact ⟨by simp; omega, _, Vals.reverseV (r.drop 1), IsTup.new _ _⟩
    rcases hs (.ref a) (.ref s.heap.objs.size) with e1 | e1
    · exact tail_any ht.typeIs (PyProof.Rows.slot_tuple_getitem.lookup) go e1
    · exact tail_any ht.typeIs (PyProof.Rows.slot_tuple_getitem.lookup) go e1
theorem pe_rev {e : Expr} {te : TE} {k : Nat} {p1 p2 p3 pos : Pos} (he : PE X e te) : PE X (.Subscript e (.Slice none none (some (.UnaryOp .USub (.Constant (.int 1) k p1) p2)) p3) pos) (tUn (rRevV X.K false) te) := by
  refine ⟨fun pins s σ H Q I h => ?_⟩
  refine Subscript_ (thn (he.run pins s σ H _ I h) fun v s1 ⟨x, H1, I1, r1, q1⟩ => ?_)
  have hst : PO X (some (.UnaryOp .USub (.Constant (.int 1) k p1) p2)) (tPart (tUn (rU fun i => .int (-i)) (tC (.int 1)))) := po_some (pe_un un_neg pe_int)
  refine wpAny_Slice (thn (po_none.run pins s1 σ H1 (fun o H2 => o = none ∧ H2 = H1) I1 ⟨rfl, rfl⟩) fun vl s2 ⟨l, H2, I2, pl, el, e2⟩ => ?_)
  subst el e2
  refine thn (po_none.run pins s2 σ H2 (fun o H3 => o = none ∧ H3 = H2) I2 ⟨rfl, rfl⟩) fun vu s3 ⟨u, H3, I3, pu, eu, e3⟩ => ?_
  subst eu e3
  refine thn (hst.run pins s3 σ H3 (fun o H4 => o = some (-1) ∧ H4 = H3) I3 ⟨1, rfl, -1, rfl, rfl, rfl⟩) fun vs s4 ⟨o, H4, I4, ps, eo, e4⟩ => ?_
  subst eo e4
  cases pl
  exact rev_tail (z := false) I4 r1 pu ps q1 fun o i => by first | exact .inl (by with_unfolding_all rfl) | exact .inr (by with_unfolding_all rfl)
theorem pe_rev0 {e : Expr} {te : TE} {k k0 : Nat} {p1 p2 p3 p4 pos : Pos} (he : PE X e te) : PE X (.Subscript e (.Slice none (some (.Constant (.int 0) k0 p4)) (some (.UnaryOp .USub (.Constant (.int 1) k p1) p2)) p3) pos) (tUn (rRevV X.K true) te) := by
  refine ⟨fun pins s σ H Q I h => ?_⟩
  refine Subscript_ (thn (he.run pins s σ H _ I h) fun v s1 ⟨x, H1, I1, r1, q1⟩ => ?_)
  have hst : PO X (some (.UnaryOp .USub (.Constant (.int 1) k p1) p2)) (tPart (tUn (rU fun i => .int (-i)) (tC (.int 1)))) := po_some (pe_un un_neg pe_int)
  have hst0 : PO X (some (.Constant (.int 0) k0 p4)) (tPart (tC (.int 0))) := po_some pe_int
  refine wpAny_Slice (thn (po_none.run pins s1 σ H1 (fun o H2 => o = none ∧ H2 = H1) I1 ⟨rfl, rfl⟩) fun vl s2 ⟨l, H2, I2, pl, el, e2⟩ => ?_)
  subst el e2
  refine thn (hst0.run pins s2 σ H2 (fun o H3 => o = some 0 ∧ H3 = H2) I2 ⟨0, rfl, rfl, rfl⟩) fun vu s3 ⟨u, H3, I3, pu, eu, e3⟩ => ?_
  subst eu e3
  refine thn (hst.run pins s3 σ H3 (fun o H4 => o = some (-1) ∧ H4 = H3) I3 ⟨1, rfl, -1, rfl, rfl, rfl⟩) fun vs s4 ⟨o, H4, I4, ps, eo, e4⟩ => ?_
  subst eo e4
  cases pl
  exact rev_tail (z := true) I4 r1 pu ps q1 fun o i => by first | exact .inl (by with_unfolding_all rfl) | exact .inr (by with_unfolding_all rfl)
end
end Ev
end

section
set_option Elab.async false
set_option linter.all false
set_option maxRecDepth 100000
set_option maxHeartbeats 4000000
/-! E6: what loops walk -/
namespace Ev
open PySem PySem.Spec PyProof.Rows L2

/-! ### enumerate of a tuple -/
set_option maxHeartbeats 8000000 in
theorem meets_enumerate_newT (l : Addr) (items : Array Value) (n : Nat) (dct : Option Addr) (sl : Array (Option Value)) :
    Meets (Builtin.«enumerate.__new__» ⟨[.type "enumerate", .ref l], []⟩) (fun _ R s => s.heap.get? l = some { cls := .type "tuple", dict := dct, data := .seq items n, slots := sl } ∧
      R (.ok (.ret (.ref (s.heap.push { cls := .type "tuple_iterator", data := .fields #[.ref l, .int 0 0] }).objs.size)))
        { s with heap := (s.heap.push { cls := .type "tuple_iterator", data := .fields #[.ref l, .int 0 0] }).push { cls := .type "enumerate", data := .fields #[.none, .bool false, .ref s.heap.objs.size, rawInt 0, .none, .none] } }) :=
  .of_wp fun prog w A R s h => by
    obtain ⟨hp, g, d, tk, os⟩ := s; obtain ⟨hl, h⟩ := h
    have hsub := sub_enumerate
    have hL : Heap.IsTuple (Shared.heap ⟨hp, g, d, tk, os⟩) l items := ⟨_, hl, rfl, n, rfl⟩
    wp_walk using wpAny_loadPart' hl
    refine wpAny_stack_any fun st => wpAny_pure ?_
    split
    · rename_i c _ _ _ _ _
      cases (c == Value.type "enumerate")
      · wp_walk using wpAny_loadPart' hl, wpAny_pyIter_tuple hL
        exact ⟨_, rfl, h⟩
      · wp_walk using wpAny_loadPart' hl, wpAny_pyIter_tuple hL
        exact ⟨_, rfl, h⟩
    · wp_walk using wpAny_loadPart' hl, wpAny_pyIter_tuple hL
      exact ⟨_, rfl, h⟩
section
variable {prog : Program} {w : World} {A : Around} {E : Value → Shared → Prop} {s : Shared}
theorem call_enumerate_tuple {l : Addr} {items : Array Value} {Q : Value → Shared → Prop} (hL : s.heap.IsTuple l items)
    (h : ∀ h', IsEnum h' (s.heap.objs.size + 1) s.heap.objs.size 0 .none → h'.IsTupleIter s.heap.objs.size l 0 → h'.objs.size = s.heap.objs.size + 2 →
      (∀ b o, s.heap.get? b = some o → h'.get? b = some o) → Q (.ref (s.heap.objs.size + 1)) { s with heap := h' }) :
    wpAny (model prog w) A (call (.type "enumerate") [.ref l]) Q E s := by
  obtain ⟨⟨c, dct, dt, sl⟩, hl, hc, n, hd⟩ := hL
  replace hc : c = .type "tuple" := hc
  replace hd : dt = .seq items n := hd
  subst hc hd
  refine callType_new F.called_enumerate (by decide) (F.typeCall_enumerate_1 _) (F.newCall_enumerate_1 _) (fun obj => F.args_object_init_2 obj _) F.entry_enumerate_new
    (meets_enumerate_newT l items n dct sl) ⟨hl, ?_⟩
  have hz : (s.heap.push { cls := .type "tuple_iterator", data := .fields #[.ref l, .int 0 0] }).objs.size = s.heap.objs.size + 1 := Heap.size_push ..
  show _ ∧ _
  rw [hz]
  have he : IsEnum ((s.heap.push { cls := .type "tuple_iterator", data := .fields #[.ref l, .int 0 0] }).push
      { cls := .type "enumerate", data := .fields #[.none, .bool false, .ref s.heap.objs.size, rawInt 0, .none, .none] }) (s.heap.objs.size + 1) s.heap.objs.size 0 .none := by
    have := Heap.get?_push_size (s.heap.push { cls := .type "tuple_iterator", data := .fields #[.ref l, .int 0 0] })
      (o := { cls := .type "enumerate", data := .fields #[.none, .bool false, .ref s.heap.objs.size, rawInt 0, .none, .none] }) rfl
    rw [hz] at this; exact this
  refine ⟨⟨_, he, rfl⟩, h _ he ⟨_, Heap.get?_push_of_some _ (Heap.get?_push_size _ rfl), rfl, rfl⟩ (by rw [Heap.size_push, hz]) fun b o x => Heap.get?_push_of_some _ (Heap.get?_push_of_some _ x)⟩
end
def IteT (K : PySem.W.Frag) (a : Addr) : It :=
  ⟨fun i H => ∃ (xs : List V) (x : V), SqT K H a xs ∧ xs[i]? = some x, fun i H v H' => ∃ T x, v = .ref T ∧ H T = none ∧ H' = upd H T (.tup [.int (i : Nat), x]) ∧ ∀ xs, SqT K H a xs → xs[i]? = some x, fun i H => ∃ xs : List V, SqT K H a xs ∧ xs.length ≤ i⟩
theorem turn_enumT {P : Program} {w : World} {K : PySem.W.Frag} {elts : List Expr} {kk : Nat} {tpos : Pos} (a e it : Addr) :
    Turn P w K (.Tuple elts kk tpos) (IteT K a) [e, it] e (fun i h => (∃ old, IsEnum h e it ((i : Nat) : Int) old) ∧ h.IsTupleIter it a i ∧ e ≠ it) where
  mem := by simp
  obj := fun i h st b hb => by
    obtain ⟨⟨old, he⟩, ⟨o, ho, hc, hd⟩, _⟩ := st
    have e' : b = e ∨ b = it := by simpa using hb
    rcases e' with z | z
    · rw [z]; exact ⟨_, he, fun v q => nomatch q⟩
    · rw [z]; exact ⟨o, ho, fun v q => by rw [hd] at q; cases q⟩
  keep := fun i h h' st k => let ⟨⟨old, he⟩, hi, hne⟩ := st; ⟨⟨old, k e (by simp) _ he⟩, hi.at fun o q => k it (by simp) o q, hne⟩
  item := by
    intro X hP hw hK hc i pins s σ H E I hf st hg
    subst hP hw hK
    obtain ⟨⟨old, he⟩, hit, hne⟩ := st
    obtain ⟨xs, x, hq, hx⟩ := hg
    obtain ⟨its, rv, p, hz⟩ := I.tuple hq
    obtain ⟨u, hu, ru⟩ := rv.get hx
    have hel : e < s.heap.objs.size := Heap.lt_size he
    have hil : it < s.heap.objs.size := by obtain ⟨_, q, _⟩ := hit; exact Heap.lt_size q
    have hp : s.heap.IsTuple a its.toArray := p
    have ne1 : a ≠ it := fun z => by
      obtain ⟨o1, e1, c1, _⟩ := hp
      obtain ⟨o2, e2, c2, _⟩ := hit
      rw [z, e2] at e1; cases e1
      rw [c2] at c1; injection c1 with c1; exact absurd c1 (by decide)
    have ne2 : e ≠ a := fun z => by
      obtain ⟨o1, e1, c1, _⟩ := hp
      rw [← z, he] at e1; cases e1
      injection c1 with c1; exact absurd c1 (by decide)
    have hlt : i < its.toArray.size := by
      have := (List.getElem?_eq_some_iff.mp hx).1
      rw [List.size_toArray, ← rv.length]; exact this
    refine wpAny_pyNext_enum_itemC (Draws.tuple (prog := X.prog) (w := X.w) (A := X.A.in1) (I.ok.hd hc) it a ne1 its.toArray) he ⟨hit, hp⟩ hlt hne (by simp [hne, ne2]) fun y h' tk hy ho hit' hT hsz hk => ?_
    have ey : y = u := by
      have hy' : its.toArray[i]? = some y := hy
      have hu' : its.toArray[i]? = some u := by simpa using hu
      rw [hy'] at hu'
      exact Option.some.inj hu'
    subst ey
    refine ⟨_, rfl, wpAny_letOwnedTupleGo_enum (s := { s with heap := h', toks := tk + 1 }) ho fun h'' he' sb => ?_⟩
    have hT2 : h''.get? s.heap.objs.size = some { cls := .type "tuple", data := .seq #[.int i tk, y] } := (sb.2 _ (Nat.ne_of_gt hel)).trans hT
    have new : ObjOk X.prog X.w (upd H s.heap.objs.size (.tup [.int (i : Nat), x])) h'' s.heap.objs.size (.tup [.int (i : Nat), x]) :=
      ⟨by show 2 ≤ sizeLine; decide, [.int i tk, y], .cons ⟨_, rfl⟩ (.cons ru .nil), ⟨_, hT2, rfl, _, rfl⟩⟩
    have I1 : Inv X pins σ (upd H s.heap.objs.size (.tup [.int (i : Nat), x])) { s with heap := h'', toks := tk + 1 } :=
      I.turnedNew (ch := [e, it]) (fun b ob hb q => (sb.2 b (fun z => hb (by simp [z]))).trans (hk b ob (fun z => hb (by simp [z])) (fun z => hb (by simp [z])) q)) hf (Nat.le_refl _) new
    refine ⟨.ref s.heap.objs.size, _, I1, rfl, ⟨_, x, rfl, I.hok.fresh (Nat.le_refl _), rfl, fun ys hy => by rw [I.tuple_inj hy hq]; exact hx⟩, ⟨⟨y, ?_⟩, hit'.1.at fun o q => (sb.2 it (Ne.symm hne)).trans q, hne⟩, fun b hb => ?_⟩
    · have e1 : ((i + 1 : Nat) : Int) = (i : Int) + 1 := by omega
      rw [e1]; exact he'
    · have hb' : b < s.heap.objs.size := by
        have e' : b = e ∨ b = it := by simpa using hb
        rcases e' with z | z
        · rw [z]; exact hel
        · rw [z]; exact hil
      rw [upd_ne (Nat.ne_of_lt hb')]
      exact (hf b hb).1
  done := by
    intro X hP hw hK hc i pins s σ H E I hf st hg
    subst hP hw hK
    obtain ⟨⟨old, he⟩, hit, hne⟩ := st
    obtain ⟨xs, hq, hx⟩ := hg
    obtain ⟨its, rv, p, hz⟩ := I.tuple hq
    obtain ⟨f0, f1, f2, f3, f4, f5⟩ := hf it (by simp)
    have hl := rv.length
    have hp : s.heap.IsTuple a its.toArray := p
    have ne1 : a ≠ it := fun z => by
      obtain ⟨o1, e1, c1, _⟩ := hp
      obtain ⟨o2, e2, c2, _⟩ := hit
      rw [z, e2] at e1; cases e1
      rw [c2] at c1; injection c1 with c1; exact absurd c1 (by decide)
    have hT : s.TypeIs (.ref e) "enumerate" := ⟨_, he, rfl⟩
    unfold pyNext
    refine wpAny_bind (wpAny_attempt (wpAny_callSpecial?_slot (name := Str.ofString "__next__") hT F.slot_enumerate_next
      (wpAny_call_entry F.slot_enumerate_next hT F.entry_enumerate_next ?_ (F.args_enumerate_next_1 _))))
    show wpAny _ _ (field (.ref e) 2 >>= _) _ _ _
    refine wpAny_bind (wpAny_field he rfl (x := .ref it) rfl ?_)
    refine wpAny_bind (wpAny_nextOf_tuple_end (A := X.A.in1) (I.ok.hd hc) hit hp (by simp; omega) fun h' x he' hx' => ?_)
    obtain ⟨o, ho, hc⟩ := hx'
    refine wpAny_bind (wpAny_isInstance (T := "StopIteration") (b := true) ⟨o, ho, hc⟩ isSubtype_stop ?_)
    exact wpAny_pure ⟨rfl, I.turned (t' := s.toks) (fun b o hb q => he' b o hb q) f0 f1 f3 f4 f5⟩
  self := fun A i s Q E st h => let ⟨⟨_, he⟩, _⟩ := st; wpAny_pyIter_enum he h
def iEnumT (K : PySem.W.Frag) (ta : TA) : TI := fun σ H R => ta σ H fun vs H1 => ∃ a xs, vs = [.ref a] ∧ ((Rd H1 a (.lst xs) ∧ R (Ite K a) H1) ∨ (SqT K H1 a xs ∧ R (IteT K a) H1))
theorem pi_enumT {X : Cx} {e : Expr} {ta : TA} {p pos tpos : Pos} {elts : List Expr} {kk : Nat} (hg : Gl X "enumerate") (hm : X.mg "enumerate" = none) (ha : PA X [e] ta) (hs : starEach [e] X.env = [(false, eval e X.env)]) :
    PI X (.Tuple elts kk tpos) (.Call (.Name "enumerate" p) [e] [] pos) (iEnumT X.K ta) := by
  refine ⟨fun pins s σ H R I h => ?_⟩
  refine Call_ (ld_blt I hg hm boot_enumerate (PyProof.Rows.callWith_type1 (thn (ha.run pos pins s σ H _ I h) fun us s1 ⟨vs, H1, I1, r1, q1⟩ => ?_) hs rfl))
  obtain ⟨a, xs, ex, q⟩ := q1
  subst ex
  cases r1 with
  | cons r rr =>
    cases rr
    cases r
    have sz : ∀ (b : Addr), b ∈ [s1.heap.objs.size + 1, s1.heap.objs.size] → FpOk X pins H1 b := fun b hb => by
      have e' : b = s1.heap.objs.size + 1 ∨ b = s1.heap.objs.size := by simpa using hb
      have hle : s1.heap.objs.size ≤ b := by
        rcases e' with z | z
        · rw [z]; exact Nat.le_add_right _ _
        · rw [z]; exact Nat.le_refl _
      exact I1.fpOk hle (I1.hok.fresh hle)
    rcases q with ⟨hq, q⟩ | ⟨hq, q⟩
    · obtain ⟨its, rv, p', hz⟩ := I1.list (.inl hq)
      refine call_enumerate_list p'.isList fun h' he hit hsz hk => wpAny_pyIter_enum he ?_
      have I2 : Inv X pins σ H1 { s1 with heap := h' } := I1.kept (t' := s1.toks) hk
      exact ⟨s1.heap.objs.size + 1, [s1.heap.objs.size + 1, s1.heap.objs.size], _, _, H1, rfl, I2, turn_enum a (s1.heap.objs.size + 1) s1.heap.objs.size, ⟨⟨.none, he⟩, hit, Nat.succ_ne_self _⟩, sz, q⟩
    · obtain ⟨its, rv, p', hz⟩ := I1.tuple hq
      refine call_enumerate_tuple p' fun h' he hit hsz hk => wpAny_pyIter_enum he ?_
      have I2 : Inv X pins σ H1 { s1 with heap := h' } := I1.kept (t' := s1.toks) hk
      exact ⟨s1.heap.objs.size + 1, [s1.heap.objs.size + 1, s1.heap.objs.size], _, _, H1, rfl, I2, turn_enumT a (s1.heap.objs.size + 1) s1.heap.objs.size, ⟨⟨.none, he⟩, hit, Nat.succ_ne_self _⟩, sz, q⟩

/-! ### iterators by data -/
def ItR (g : Gc) (F : Hp) (f : List Addr) (J : It) (w : Itm) : Prop := ∀ (R : Rs) (i : Nat) (F' : Hp) (f' : List Addr) (S' : Store) (H' : Hp), Ext F f F' f' → Sm g F' f' R S' H' → w.ck S' →
  (∀ v, w.vs[i]? = some v → J.go i H' ∧ ∀ x H'', J.yld i H' x H'' → ∃ F'', Ext F' f' F'' f' ∧ Sm g F'' f' R S' H'' ∧ VR g F'' f' x v) ∧ (w.vs.length ≤ i → J.stop i H')
theorem ItR.sub {g : Gc} {F F1 : Hp} {f f1 : List Addr} {J : It} {w : Itm} (h : ItR g F f J w) (e : Ext F f F1 f1) : ItR g F1 f1 J w := fun R i F' f' S' H' e' s c => h R i F' f' S' H' (e.trans e') s c
section
variable {g : Gc} {F : Hp} {f : List Addr}
theorem itr_list {a : Addr} {xs : List V} {ds : List PyData} (h : Rd F a (.lst xs)) (t : DaAll g.K F xs ds) : ItR g F f (Itl g.K a) ⟨ds.map .d, none⟩ := by
  intro R i F' f' S' H' e s _
  have h' : SqL g.K H' a xs := .inl (Rd.sub (fun b o q => s.le b o (e.le b o q)) h)
  refine ⟨fun v hv => ?_, fun hi => ⟨xs, h', by rw [t.len]; simpa using hi⟩⟩
  rw [List.getElem?_map] at hv
  obtain ⟨d, hd, rfl⟩ := Option.map_eq_some_iff.mp hv
  obtain ⟨y, hy, ry⟩ := t.get hd
  refine ⟨⟨xs, y, h', hy⟩, fun x H'' q => ?_⟩
  obtain ⟨rfl, q⟩ := q
  have e2 := q xs h'
  rw [hy] at e2
  cases e2
  exact ⟨F', Ext.refl _ _, s, Da.sub e.le ry⟩
theorem itr_tup {a : Addr} {xs : List V} {ds : List PyData} (h : SqT g.K F a xs) (t : DaAll g.K F xs ds) : ItR g F f (Itt g.K a) ⟨ds.map .d, none⟩ := by
  intro R i F' f' S' H' e s _
  have h' : SqT g.K H' a xs := SqT.sub (fun b o q => s.le b o (e.le b o q)) h
  refine ⟨fun v hv => ?_, fun hi => ⟨xs, h', by rw [t.len]; simpa using hi⟩⟩
  rw [List.getElem?_map] at hv
  obtain ⟨d, hd, rfl⟩ := Option.map_eq_some_iff.mp hv
  obtain ⟨y, hy, ry⟩ := t.get hd
  refine ⟨⟨xs, y, h', hy⟩, fun x H'' q => ?_⟩
  obtain ⟨rfl, q⟩ := q
  have e2 := q xs h'
  rw [hy] at e2
  cases e2
  exact ⟨F', Ext.refl _ _, s, Da.sub e.le ry⟩
theorem itr_loc {a : Addr} {n : Nat} {ds : List PyData} (h : f[n]? = some a) : ItR g F f (Itl g.K a) ⟨ds.map .d, some (n, ds)⟩ := by
  intro R i F' f' S' H' e s c
  have c' : S'[n]? = some (.lst ds) := c
  obtain ⟨a', xs, q1, q2, t⟩ := s.getL c'
  rw [e.pre n a h] at q1
  cases q1
  have h' : SqL g.K H' a xs := .inl (.inl q2)
  refine ⟨fun v hv => ?_, fun hi => ⟨xs, h', by rw [t.len]; simpa using hi⟩⟩
  rw [List.getElem?_map] at hv
  obtain ⟨d, hd, rfl⟩ := Option.map_eq_some_iff.mp hv
  obtain ⟨y, hy, ry⟩ := t.get hd
  refine ⟨⟨xs, y, h', hy⟩, fun x H'' q => ?_⟩
  obtain ⟨rfl, q⟩ := q
  have e2 := q xs h'
  rw [hy] at e2
  cases e2
  exact ⟨F', Ext.refl _ _, s, ry⟩
theorem itr_str {z : Str} : ItR g F f (Its z) ⟨z.cps.toList.map fun c => .d (.str ⟨#[c]⟩), none⟩ := by
  intro R i F' f' S' H' e s _
  refine ⟨fun v hv => ?_, fun hi => by show z.cps.size ≤ i; simpa using hi⟩
  rw [List.getElem?_map] at hv
  obtain ⟨d, hd, rfl⟩ := Option.map_eq_some_iff.mp hv
  have hd' : z.cps[i]? = some d := by simpa using hd
  refine ⟨(Array.getElem?_eq_some_iff.mp hd').1, fun x H'' q => ?_⟩
  obtain ⟨rfl, c, q1, rfl⟩ := q
  rw [hd'] at q1
  cases q1
  exact ⟨F', Ext.refl _ _, s, .str _⟩
theorem itr_rng {lo : Int} {n : Nat} : ItR g F f (Itr lo n) (rngI lo n) := by
  intro R i F' f' S' H' e s _
  refine ⟨fun v hv => ?_, fun hi => by show n ≤ i; simpa [rngI] using hi⟩
  have hv' : ((List.range n).map fun (i : Nat) => Val.d (.int (lo + (i : Int))))[i]? = some v := hv
  rw [List.getElem?_map] at hv'
  obtain ⟨d, hd, rfl⟩ := Option.map_eq_some_iff.mp hv'
  obtain ⟨h1, h2⟩ := List.getElem?_eq_some_iff.mp hd
  simp at h1 h2
  subst h2
  refine ⟨h1, fun x H'' q => ?_⟩
  obtain ⟨rfl, rfl⟩ := q
  exact ⟨F', Ext.refl _ _, s, .int _⟩
theorem itr_down {lo : Int} {n : Nat} : ItR g F f (Itc lo (-1) n) ⟨(List.range n).map fun (k : Nat) => Val.d (.int (lo - (k : Int))), none⟩ := by
  intro R i F' f' S' H' e s _
  refine ⟨fun v hv => ?_, fun hi => by show n ≤ i; simpa using hi⟩
  rw [List.getElem?_map] at hv
  obtain ⟨d, hd, rfl⟩ := Option.map_eq_some_iff.mp hv
  obtain ⟨h1, h2⟩ := List.getElem?_eq_some_iff.mp hd
  simp at h1 h2
  subst h2
  refine ⟨h1, fun x H'' q => ?_⟩
  obtain ⟨rfl, rfl⟩ := q
  refine ⟨F', Ext.refl _ _, s, ?_⟩
  have e1 : lo + (i : Int) * -1 = lo - (i : Int) := by omega
  rw [e1]
  exact .int _
/-- a new pair is handed out -/
theorem itr_pair {F' : Hp} {f' : List Addr} {R : Rs} {S' : Store} {H' : Hp} {T : Addr} {x y : V} {c d : PyData} (s : Sm g F' f' R S' H') (hT : H' T = none) (rx : Da g.K F' x c) (ry : Da g.K F' y d) :
    ∃ F'', Ext F' f' F'' f' ∧ Sm g F'' f' R S' (upd H' T (.tup [x, y])) ∧ VR g F'' f' (.ref T) (.d (.tuple [c, d])) := by
  obtain ⟨s1, e1⟩ := s.new (o := .tup [x, y]) hT
  exact ⟨_, e1, s1, .tup (.inl (.inl upd_same)) (.cons (Da.sub e1.le rx) (.one (Da.sub e1.le ry)))⟩
theorem zip_get {α β γ : Type} (φ : α × β → γ) {xs : List α} {ys : List β} {i : Nat} {v : γ} (h : ((xs.zip ys).map φ)[i]? = some v) : ∃ a b, xs[i]? = some a ∧ ys[i]? = some b ∧ v = φ (a, b) := by
  rw [List.getElem?_map] at h
  obtain ⟨⟨a, b⟩, hp, rfl⟩ := Option.map_eq_some_iff.mp h
  rw [List.getElem?_zip_eq_some] at hp
  exact ⟨a, b, hp.1, hp.2, rfl⟩
theorem itr_zipL {a b : Addr} {xs ys : List V} {ds es : List PyData} (h : Rd F a (.lst xs)) (t : DaAll g.K F xs ds) (h2 : Rd F b (.lst ys)) (t2 : DaAll g.K F ys es) :
    ItR g F f (Itz g.K a b) ⟨(ds.zip es).map fun p => .d (.tuple [p.1, p.2]), none⟩ := by
  intro R i F' f' S' H' e s _
  have h' : SqL g.K H' a xs := .inl (Rd.sub (fun b o q => s.le b o (e.le b o q)) h)
  have h2' : SqL g.K H' b ys := .inl (Rd.sub (fun b o q => s.le b o (e.le b o q)) h2)
  refine ⟨fun v hv => ?_, fun hi => ⟨xs, ys, h', h2', ?_⟩⟩
  · obtain ⟨c, d, hc, hd, rfl⟩ := zip_get (fun p => Val.d (.tuple [p.1, p.2])) hv
    obtain ⟨x1, hx1, r1⟩ := t.get hc
    obtain ⟨x2, hx2, r2⟩ := t2.get hd
    refine ⟨⟨xs, ys, x1, x2, h', h2', hx1, hx2⟩, fun x H'' q => ?_⟩
    obtain ⟨T, y1, y2, rfl, hT, rfl, q1, q2⟩ := q
    have e1 := q1 xs h'
    have e2 := q2 ys h2'
    rw [hx1] at e1; rw [hx2] at e2
    cases e1; cases e2
    exact itr_pair s hT (Da.sub e.le r1) (Da.sub e.le r2)
  · have hi' : (ds.zip es).length ≤ i := by simpa using hi
    rw [List.length_zip] at hi'
    rw [t.len, t2.len]
    omega
theorem itr_zipT {a b : Addr} {xs ys : List V} {ds es : List PyData} (h : SqT g.K F a xs) (t : DaAll g.K F xs ds) (h2 : SqT g.K F b ys) (t2 : DaAll g.K F ys es) :
    ItR g F f (RZ.ItzT g.K a b) ⟨(ds.zip es).map fun p => .d (.tuple [p.1, p.2]), none⟩ := by
  intro R i F' f' S' H' e s _
  have h' : SqT g.K H' a xs := SqT.sub (fun b o q => s.le b o (e.le b o q)) h
  have h2' : SqT g.K H' b ys := SqT.sub (fun b o q => s.le b o (e.le b o q)) h2
  refine ⟨fun v hv => ?_, fun hi => ⟨xs, ys, h', h2', ?_⟩⟩
  · obtain ⟨c, d, hc, hd, rfl⟩ := zip_get (fun p => Val.d (.tuple [p.1, p.2])) hv
    obtain ⟨x1, hx1, r1⟩ := t.get hc
    obtain ⟨x2, hx2, r2⟩ := t2.get hd
    refine ⟨⟨xs, ys, x1, x2, h', h2', hx1, hx2⟩, fun x H'' q => ?_⟩
    obtain ⟨T, y1, y2, rfl, hT, rfl, q1, q2⟩ := q
    have e1 := q1 xs h'
    have e2 := q2 ys h2'
    rw [hx1] at e1; rw [hx2] at e2
    cases e1; cases e2
    exact itr_pair s hT (Da.sub e.le r1) (Da.sub e.le r2)
  · have hi' : (ds.zip es).length ≤ i := by simpa using hi
    rw [List.length_zip] at hi'
    rw [t.len, t2.len]
    omega
theorem idx_get {ds : List PyData} {i : Nat} {v : Val} (h : ((ds.zipIdx).map fun p => Val.d (.tuple [.int (p.2 : Int), p.1]))[i]? = some v) : ∃ a, ds[i]? = some a ∧ v = .d (.tuple [.int (i : Int), a]) := by
  rw [List.getElem?_map] at h
  obtain ⟨⟨a, j⟩, hp, rfl⟩ := Option.map_eq_some_iff.mp h
  rw [List.getElem?_zipIdx] at hp
  obtain ⟨b, hb, e⟩ := Option.map_eq_some_iff.mp hp
  simp at e
  obtain ⟨rfl, rfl⟩ := e
  exact ⟨_, hb, rfl⟩
theorem itr_enumL {a : Addr} {xs : List V} {ds : List PyData} (h : Rd F a (.lst xs)) (t : DaAll g.K F xs ds) : ItR g F f (Ite g.K a) ⟨ds.zipIdx.map fun p => .d (.tuple [.int (p.2 : Int), p.1]), none⟩ := by
  intro R i F' f' S' H' e s _
  have h' : SqL g.K H' a xs := .inl (Rd.sub (fun b o q => s.le b o (e.le b o q)) h)
  refine ⟨fun v hv => ?_, fun hi => ⟨xs, h', by rw [t.len]; simpa using hi⟩⟩
  obtain ⟨c, hc, rfl⟩ := idx_get hv
  obtain ⟨x1, hx1, r1⟩ := t.get hc
  refine ⟨⟨xs, x1, h', hx1⟩, fun x H'' q => ?_⟩
  obtain ⟨T, y1, rfl, hT, rfl, q1⟩ := q
  have e1 := q1 xs h'
  rw [hx1] at e1
  cases e1
  exact itr_pair s hT (.int _) (Da.sub e.le r1)
theorem itr_enumT {a : Addr} {xs : List V} {ds : List PyData} (h : SqT g.K F a xs) (t : DaAll g.K F xs ds) : ItR g F f (IteT g.K a) ⟨ds.zipIdx.map fun p => .d (.tuple [.int (p.2 : Int), p.1]), none⟩ := by
  intro R i F' f' S' H' e s _
  have h' : SqT g.K H' a xs := SqT.sub (fun b o q => s.le b o (e.le b o q)) h
  refine ⟨fun v hv => ?_, fun hi => ⟨xs, h', by rw [t.len]; simpa using hi⟩⟩
  obtain ⟨c, hc, rfl⟩ := idx_get hv
  obtain ⟨x1, hx1, r1⟩ := t.get hc
  refine ⟨⟨xs, x1, h', hx1⟩, fun x H'' q => ?_⟩
  obtain ⟨T, y1, rfl, hT, rfl, q1⟩ := q
  have e1 := q1 xs h'
  rw [hx1] at e1
  cases e1
  exact itr_pair s hT (.int _) (Da.sub e.le r1)
end
end Ev
end

section
set_option Elab.async false
set_option linter.all false
set_option maxRecDepth 100000
set_option maxHeartbeats 4000000
/-! E7: calls, expressions, tests -/
namespace Ev
open PySem PySem.Spec PyProof.Rows L2

theorem _root_.L2.PE.imp {X : Cx} {e : Expr} {t u : TE} (h : L2.PE X e t) (i : ∀ σ H Q, u σ H Q → t σ H Q) : L2.PE X e u := Ev.PE.imp h i
theorem _root_.L2.PT.imp {X : Cx} {e : Expr} {t u : TT} (h : L2.PT X e t) (i : ∀ σ H Q, u σ H Q → t σ H Q) : L2.PT X e u := Ev.PT.imp h i
theorem _root_.L2.PW.imp {X : Cx} {e : Expr} {t u : TT} (h : L2.PW X e t) (i : ∀ σ H Q, u σ H Q → t σ H Q) : L2.PW X e u := Ev.PW.imp h i
theorem _root_.L2.PA.imp {X : Cx} {e : List Expr} {t u : TA} (h : L2.PA X e t) (i : ∀ σ H Q, u σ H Q → t σ H Q) : L2.PA X e u := Ev.PA.imp h i
theorem _root_.L2.PS.imp {X : Cx} {e : Stmt} {t u : TS} (h : L2.PS X e t) (i : ∀ D σ H, u D σ H → t D σ H) : L2.PS X e u := Ev.PS.imp h i
theorem _root_.L2.PSs.imp {X : Cx} {e : List Stmt} {t u : TS} (h : L2.PSs X e t) (i : ∀ D σ H, u D σ H → t D σ H) : L2.PSs X e u := Ev.PSs.imp h i

/-! ### what a def keeps, where no repr is under way -/
structure FnG (P : Program) (w : World) (K : PySem.W.Frag) (mg : Str → Option Value) (base : Heap) (k : Nat) (f : Addr) (fd : FuncData) (ps : List Str) (sp : Sp) : Prop where
  len : ∀ vs H Q E, sp vs H Q E → vs.length = ps.length
  run : ∀ (A : Around) (outer : List Env) (s : Shared) (H : Hp) (args : Args) (us : List Value) (vs : List V) (Q : VK) (E : XK), Room k A → A.guards = some [] → Env0 P w K mg base A outer s H →
    BindsTo s fd args (ps.zip us) → Vals vs us → sp vs H Q E → codeAny (model P w) A (.call (.ref f) args) (CR (L2.CX P w) outer P w H s Q E) s
theorem fnG_of {P : Program} {w : World} {K : PySem.W.Frag} {mg : Str → Option Value} {base : Heap} {k : Nat} {f : Addr} {fd : FuncData} {x qual : Str} {params : Arguments} {body : List Stmt} {scope : Scope} {dvs : List V} {kws : List (Str × V)} {N ps : List Str} {sp : Sp}
    (Fd : FunD K x qual params body scope dvs kws f fd) (S : FnScope N ps scope) (len : ∀ vs H Q E, sp vs H Q E → vs.length = ps.length)
    (hb : ∀ (cdv : Value) (A : Around) (outer : List Env) (s : Shared) (H : Hp) (vs : List V) (Q : VK) (E : XK), Room k (A.deeper (envOfC qual scope s.heap.objs.size f cdv)) → A.guards = some [] → sp vs H Q E →
      ∃ t, PSs (cxOf (L2.CX P w) P w K mg base N qual scope f cdv A outer s H E) body t ∧ t { nx := fun _ H' => Q .non H', rt := Q } (start N vs) H) : FnG P w K mg base (k + 1) f fd ps sp := by
  obtain ⟨oc, od, dV, kV, doc, pm, an, cdv, ct, osl, rfl, lk, hcd, _, _⟩ := Fd.ex
  refine ⟨len, fun A outer s H args us vs Q E hr hg e0 hbind r hsp => ?_⟩
  have hl := len _ _ _ _ hsp
  have KX : K.In s.heap := e0.mod.kin.keeps fun b o e => (e0.bs b o e).1
  have lim : s.heap.NoLimit := e0.mod.nolimit.keeps fun b o e => (e0.bs b o e).1
  have hkind : ∀ y ∈ ps.zip us, scope.names.lookup y.1 = some .local ∨ (scope.names.lookup y.1 = some .cell ∧ ((cellsFrom (s.heap.objs.size + 1) scope.names []).lookup y.1).isSome = true) := fun ⟨n, v⟩ hy => by
    rcases S.par n (List.of_mem_zip hy).1 with q | q
    · exact .inl q
    · exact .inr ⟨q, PySem.W.cellsFrom_some _ _ _ (.inl q)⟩
  refine codeAny_call_function hr.depth (KX _ _ lk) rfl S.co S.gen rfl (PySem.W.codeRec_of KX hcd) (hbind _ _ _ _ ?_)
  refine wpAny_newFunctionEnv_cells S.kind hkind fun env he s1 x => ?_
  subst he
  refine ⟨lim.keeps x.toInCall.keep, codeAny_func ?_⟩
  obtain ⟨t, ht, hq⟩ := hb cdv A outer s H vs Q E (hr.deeper _) hg hsp
  have I : Inv (cxOf (L2.CX P w) P w K mg base N qual scope f cdv A outer s H E) [] (start N vs) H s1 := inv_start S hr.hd e0 hl r x
  refine wpAny_mono (ht.run [] s1 (start N vs) H _ I hq) (fun fl s' hs => ?_) fun e s' hs => hs
  have fin : ∀ {σ' : L2.St} {H' : Hp} {v : V} {u : Value}, Inv (cxOf (L2.CX P w) P w K mg base N qual scope f cdv A outer s H E) [] σ' H' s' → RelV v u → Q v H' → L2.CE outer P w H s Q u s' :=
    fun {σ' H' v u} J rv q => ⟨v, H', J.os, J.bare, J.base, J.hok, rv, q⟩
  cases fl with
  | ret u =>
    obtain ⟨v, σ', H', J, rv, q⟩ := hs
    exact fin J rv q
  | next =>
    obtain ⟨σ', H', J, q⟩ := hs
    exact fin (v := V.non) (u := Value.none) J rfl q
  | brk =>
    obtain ⟨_, _, _, q⟩ := hs
    exact False.elim q
  | cont =>
    obtain ⟨_, _, _, q⟩ := hs
    exact False.elim q
/-- a def's promise by its meaning -/
def spD (g : Gc) (C : Calls) (k np : Nat) : Sp := fun vs H Q E => ∃ F f R S args, Sm g F f R S H ∧ VRs g F f vs args ∧ args.length = np ∧
  Sat g F f R (fun c d H' => E c d H') (C k args S) (fun v F' f' S' H' => ∀ x, VR g F' f' x v → Q x H')
theorem spD_len {g : Gc} {C : Calls} {k np : Nat} : ∀ vs H Q E, spD g C k np vs H Q E → vs.length = np := fun vs H Q E h => by
  obtain ⟨F, f, R, S, args, _, r, e, _⟩ := h
  rw [r.len, e]

/-! ### small facts -/
def nstar : Expr → Bool
  | .Starred _ _ => false
  | _ => true
theorem star_cons {e : Expr} {es : List Expr} {env : Env} (h : nstar e = true) : starEach (e :: es) env = (false, eval e env) :: starEach es env := by
  cases e <;> first | rfl | exact (Bool.false_ne_true h).elim
theorem star_any {pos : Pos} {env : Env} : ∀ {es : List Expr}, es.all nstar = true → (backTo pos (starEach es env)).any (·.1) = false
  | [], _ => rfl
  | e :: es, h => by
    rw [List.all_cons, Bool.and_eq_true] at h
    rw [star_cons h.1]
    exact star_any (es := es) h.2
theorem asg_cons {e : Expr} {es : List Expr} {env : Env} (h : nstar e = true) : assignEach (e :: es) env = (false, assign e env) :: assignEach es env := by
  cases e <;> first | rfl | exact (Bool.false_ne_true h).elim
def nslice : Expr → Bool
  | .Slice _ _ _ _ => false
  | _ => true
theorem plain_of {b : Expr} (h : nslice b = true) : PlainIx b := by
  intro o i
  cases b <;> first | rfl | exact (Bool.false_ne_true h).elim
/-- an expression whose test is its value's -/
def ntest : Expr → Bool
  | .UnaryOp .Not _ _ => false
  | .BoolOp _ _ _ => false
  | .IfExp _ _ _ _ => false
  | .Compare _ _ _ _ => false
  | _ => true
theorem test_of {a : Expr} {env : Env} (h : ntest a = true) : ∀ whole, isTrue a env whole = (do let v ← whole; standAt a.pos; holding [v] (truthy v)) := by
  intro whole
  cases a <;> first
    | rfl
    | exact (Bool.false_ne_true h).elim
    | (rename_i op _ _; cases op <;> first | rfl | exact (Bool.false_ne_true h).elim)
def nmark : Expr → Bool
  | .Set _ _ _ => false
  | _ => true
theorem mark_of {b : Expr} {op : CmpOp} (h : nmark b = true) : behindInMarks op b = false := by
  cases b <;> first | rfl | exact (Bool.false_ne_true h).elim
theorem marks_of {b c : Expr} {o1 o2 : CmpOp} (h : nmark c = true) : lastMarks [o1, o2] [b, c] = false := mark_of (op := o2) h

section
variable {g : Gc} {F : Hp} {f : List Addr} {R : Rs} {S : Store} {H : Hp}
theorem tob_of {β : Type} {v : Val} {x : V} {W : WH} {φ : Bool → Store → Out β} {k : Kn β} (h : Sat g F f R W ((tobV v S).bind φ) k) (r : VR g F f x v) : ∃ b, x = .bl b ∧ Sat g F f R W (φ b S) k := by
  unfold tobV at h
  split at h
  · cases r with
    | bl b => exact ⟨_, rfl, h⟩
  · exact h.elim
theorem tob_of' {v : Val} {x : V} {W : WH} {k : Kn Bool} (h : Sat g F f R W (tobV v S) k) (r : VR g F f x v) : ∃ b, x = .bl b ∧ Sat g F f R W (.ok b S) k := by
  unfold tobV at h
  split at h
  · cases r with
    | bl b => exact ⟨_, rfl, h⟩
  · exact h.elim
theorem isE_len {α β : Type} {xs : List α} {ys : List β} (h : xs.length = ys.length) : (!xs.isEmpty) = !ys.isEmpty := by
  cases xs <;> cases ys <;> first | rfl | simp at h
theorem tru_of {v : Val} {x : V} {W : WH} {k : Kn Bool} (s : Sm g F f R S H) (h : Sat g F f R W (truO v S) k) (r : VR g F f x v) : ∃ b, TruV g.K x H b ∧ Sat g F f R W (.ok b S) k := by
  unfold truO at h
  split at h
  · rename_i b hb
    refine ⟨b, ?_, h⟩
    unfold truV at hb
    split at hb
    · cases r; cases hb; rfl
    · cases r; cases hb; rfl
    · cases r; cases hb; rfl
    · cases r
      split at hb
      · rename_i hz; cases hb; exact ⟨hz, rfl⟩
      · cases hb
    · cases r with
      | lst h1 h2 => cases hb; exact .inl ⟨_, .inl (Rd.sub s.le h1), (isE_len h2.len).symm⟩
    · cases r with
      | tup h1 h2 => cases hb; exact .inr (.inl ⟨_, SqT.sub s.le h1, (isE_len h2.len).symm⟩)
    · obtain ⟨a, h1, rfl⟩ := r
      split at hb
      · rename_i xs hS
        cases hb
        obtain ⟨a', ys, q1, q2, q3⟩ := s.getL hS
        rw [h1] at q1; cases q1
        exact .inl ⟨ys, .inl (.inl q2), (isE_len q3.len).symm⟩
      · cases hb
    · cases hb
  · exact h.elim
theorem datas_da : ∀ {vs : List Val} {xs : List V} {ds : List PyData}, VRs g F f xs vs → datas vs = some ds → DaAll g.K F xs ds
  | [], _, _, r, e => by cases r; cases e; exact .nil
  | .d x :: vs, _, _, r, e => by
    cases r with
    | cons r1 r2 =>
      unfold datas at e
      cases q : datas vs with
      | none => rw [q] at e; cases e
      | some l => rw [q] at e; cases e; exact .cons r1 (datas_da r2 q)
  | .loc n :: vs, _, _, r, e => by cases e
  | .fn n :: vs, _, _, r, e => by cases e
  | .tp n :: vs, _, _, r, e => by cases e
  | .ls n :: vs, _, _, r, e => by cases e
theorem els_rs : ∀ {vs : List Val} {xs : List V} {es : List El}, VRs g F f xs vs → elsOf vs = some es → ElRs g F f xs es
  | [], _, _, r, e => by cases r; cases e; exact .nil
  | .d x :: vs, _, _, r, e => by
    cases r with
    | cons r1 r2 =>
      unfold elsOf at e
      cases q : elsOf vs with
      | none => rw [q] at e; cases e
      | some l => rw [q] at e; cases e; exact .cons (v := .d x) r1 (els_rs r2 q)
  | .loc n :: vs, _, _, r, e => by
    cases r with
    | cons r1 r2 =>
      unfold elsOf at e
      cases q : elsOf vs with
      | none => rw [q] at e; cases e
      | some l => rw [q] at e; cases e; exact .cons (v := .loc n) r1 (els_rs r2 q)
  | .fn n :: vs, _, _, r, e => by cases e
  | .tp n :: vs, _, _, r, e => by cases e
  | .ls n :: vs, _, _, r, e => by cases e
end

/-! ### expressions -/
section
variable {X : Cx} {g : Gc} {W : WX} {a b c : Expr} {ta tb tc : TD Val} {pos : Pos}
theorem pd_var {i : Nat} {x : Str} (hN : X.N[i]? = some x) (hv : Vis X.env.scope x) (hd : (x == ("__debug__" : Str)) = false) (hcd : (x == ("__classdict__" : Str)) = false) : PE X (.Name x pos) (rd g W (dVar i)) :=
  (pe_var hN hv hd hcd).imp fun σ H Q ⟨F, f, R, ρ, S, s, e, h⟩ => by
    unfold dVar at h
    split at h
    · rename_i v q
      obtain ⟨y, q1, r⟩ := e.get i v q
      exact ⟨y, q1, h.ok s y r⟩
    · exact h.elim
theorem pd_cst {e : Expr} {d : PyData} {v : V} (h : PE X e (tC v)) (r : ∀ F, Da g.K F v d) : PE X e (rd g W (dCst d)) := h.imp fun σ H Q ⟨F, f, R, ρ, S, s, e, q⟩ => q.ok s v (r F)
theorem pd_fnv {e : Expr} {k : Nat} (h : PE X e (tC (.ref (g.ad k)))) : PE X e (rd g W fun _ S => .ok (.fn k) S) := h.imp fun σ H Q ⟨F, f, R, ρ, S, s, e, q⟩ => q.ok s (.ref (g.ad k)) rfl
theorem tOp_rd {r : R2} {φ : Val → Val → Store → Out Val} (hr : RealB g r φ) {σ : L2.St} {H : Hp} {Q : VK} (h : rd g W (dB2 φ ta tb) σ H Q) : tOp r (rd g W ta) (rd g W tb) σ H Q := by
  obtain ⟨F, f, R, ρ, S, s, e, h⟩ := h
  exact rd_bind s e h fun v F1 f1 S1 H1 x e1 s1 en1 r1 h1 => rd_bind s1 en1 h1 fun u F2 f2 S2 H2 y e2 s2 en2 r2 h2 => hr F2 f2 R S2 H2 x y v u _ Q s2 (r1.sub e2) r2 h2
theorem pd_bin {op : Operator} {r : R2} {φ : Val → Val → Store → Out Val} (ho : OpR X (binaryOp op) r) (hr : RealB g r φ) (ha : PE X a (rd g W ta)) (hb : PE X b (rd g W tb)) : PE X (.BinOp a op b pos) (rd g W (dB2 φ ta tb)) :=
  (pe_op ho ha hb).imp fun σ H Q h => tOp_rd hr h
theorem pd_cmp {op : CmpOp} {r : R2} {φ : Val → Val → Store → Out Val} (ho : OpR X (compareOp op) r) (hr : RealB g r φ) (ha : PE X a (rd g W ta)) (hb : PE X b (rd g W tb)) (hm : nmark b = true) : PE X (.Compare a [op] [b] pos) (rd g W (dB2 φ ta tb)) :=
  (pe_cmpR ho ha hb (mark_of hm)).imp fun σ H Q h => tOp_rd hr h
theorem pt_cmpD {op : CmpOp} {r : R2} {φ : Val → Val → Store → Out Val} (ho : OpR X (compareOp op) r) (hr : RealB g r φ) (ha : PE X a (rd g W ta)) (hb : PE X b (rd g W tb)) (hm : nmark b = true) :
    PT X (.Compare a [op] [b] pos) (rdT g W fun ρ S => (dB2 φ ta tb ρ S).bind tobV) :=
  (pt_cmpR ho ha hb (mark_of hm)).imp fun σ H Q ⟨F, f, R, ρ, S, s, e, h⟩ => tOp_rd hr (Q := fun x H' => ∃ k, x = .bl k ∧ Q k H') (rd_bind s e h fun v F1 f1 S1 H1 x e1 s1 en1 r1 h1 => by
    obtain ⟨k, ex, h2⟩ := tob_of' h1 r1
    exact ⟨k, ex, h2.ok s1 k rfl⟩)
def chnD (φ ψ : Val → Val → Store → Out Val) (ta tb tc : TD Val) : TD Val := fun ρ S => (ta ρ S).bind fun v S1 => (tb ρ S1).bind fun u S2 => (φ v u S2).bind fun k S3 => (tobV k S3).bind fun kb S4 => if kb = true then (tc ρ S4).bind fun z S5 => ψ u z S5 else .ok (.d (.bool false)) S4
theorem chn_rd {r r' : R2} {φ ψ : Val → Val → Store → Out Val} (hr : RealB g r φ) (hr' : RealB g r' ψ) {σ : L2.St} {H : Hp} {Q : VK} (h : rd g W (chnD φ ψ ta tb tc) σ H Q) : tChain r r' (rd g W ta) (rd g W tb) (rd g W tc) σ H Q := by
  obtain ⟨F, f, R, ρ, S, s, e, h⟩ := h
  refine rd_bind s e h fun v F1 f1 S1 H1 x e1 s1 en1 r1 h1 => rd_bind s1 en1 h1 fun u F2 f2 S2 H2 y e2 s2 en2 r2 h2 => ?_
  refine hr F2 f2 R S2 H2 x y v u _ _ s2 (r1.sub e2) r2 (h2.bind.imp fun k F3 f3 S3 H3 e3 s3 _ h3 z rz => ?_)
  obtain ⟨kb, ez, h4⟩ := tob_of h3 rz
  refine ⟨kb, ez, ?_⟩
  by_cases hk : kb = true
  · rw [if_pos hk] at h4 ⊢
    exact rd_bind s3 (en2.sub e3) h4 fun w F5 f5 S5 H5 z' e5 s5 en5 r5 h5 => hr' F5 f5 R S5 H5 y z' u w _ Q s5 ((r2.sub e3).sub e5) r5 h5
  · rw [if_neg hk] at h4 ⊢
    exact h4.ok s3 (.bl false) (.bl false)
theorem pd_chn {o1 o2 : CmpOp} {r r' : R2} {φ ψ : Val → Val → Store → Out Val} (ho : OpR X (compareOp o1) r) (ho' : OpR X (compareOp o2) r') (hr : RealB g r φ) (hr' : RealB g r' ψ) (ha : PE X a (rd g W ta)) (hb : PE X b (rd g W tb)) (hc : PE X c (rd g W tc))
    (hm : nmark c = true) : PE X (.Compare a [o1, o2] [b, c] pos) (rd g W (chnD φ ψ ta tb tc)) := (pe_chain ho ho' ha hb hc (marks_of hm)).imp fun σ H Q h => chn_rd hr hr' h
def chnT (φ ψ : Val → Val → Store → Out Val) (ta tb tc : TD Val) : TD Bool := fun ρ S => (ta ρ S).bind fun v S1 => (tb ρ S1).bind fun u S2 => (φ v u S2).bind fun k S3 => (tobV k S3).bind fun kb S4 => if kb = true then (tc ρ S4).bind fun z S5 => (ψ u z S5).bind tobV else .ok false S4
theorem pt_chnD {o1 o2 : CmpOp} {r r' : R2} {φ ψ : Val → Val → Store → Out Val} (ho : OpR X (compareOp o1) r) (ho' : OpR X (compareOp o2) r') (hr : RealB g r φ) (hr' : RealB g r' ψ) (ha : PE X a (rd g W ta)) (hb : PE X b (rd g W tb)) (hc : PE X c (rd g W tc))
    (hm : nmark c = true) : PT X (.Compare a [o1, o2] [b, c] pos) (rdT g W (chnT φ ψ ta tb tc)) := (pt_chain ho ho' ha hb hc (marks_of hm)).imp fun σ H Q ⟨F, f, R, ρ, S, s, e, h⟩ => by
  refine rd_bind s e h fun v F1 f1 S1 H1 x e1 s1 en1 r1 h1 => rd_bind s1 en1 h1 fun u F2 f2 S2 H2 y e2 s2 en2 r2 h2 => ?_
  refine hr F2 f2 R S2 H2 x y v u _ _ s2 (r1.sub e2) r2 (h2.bind.imp fun k F3 f3 S3 H3 e3 s3 _ h3 z rz => ?_)
  obtain ⟨kb, ez, h4⟩ := tob_of h3 rz
  refine ⟨kb, ez, ?_⟩
  by_cases hk : kb = true
  · rw [if_pos hk] at h4 ⊢
    refine rd_bind s3 (en2.sub e3) h4 fun w F5 f5 S5 H5 z' e5 s5 en5 r5 h5 => hr' F5 f5 R S5 H5 y z' u w _ _ s5 ((r2.sub e3).sub e5) r5 (h5.bind.imp fun k' F6 f6 S6 H6 e6 s6 _ h6 z6 rz6 => ?_)
    obtain ⟨k2, ex, h7⟩ := tob_of' h6 rz6
    exact ⟨k2, ex, h7.ok s6 k2 rfl⟩
  · rw [if_neg hk] at h4 ⊢
    exact ⟨false, rfl, h4.ok s3 false rfl⟩
/-! ### and, or, not, if -/
variable {rest : List Expr} {ua ub : TD Bool}
def andD (ta tb : TD Val) : TD Val := fun ρ S => (ta ρ S).bind fun v S1 => (tobV v S1).bind fun k S2 => if k = true then tb ρ S2 else .ok (.d (.bool false)) S2
def orD (ta tb : TD Val) : TD Val := fun ρ S => (ta ρ S).bind fun v S1 => (tobV v S1).bind fun k S2 => if k = true then .ok (.d (.bool true)) S2 else tb ρ S2
def notD (ta : TD Val) : TD Val := fun ρ S => (ta ρ S).bind fun v S1 => (tobV v S1).bind fun b S2 => .ok (.d (.bool !b)) S2
theorem pd_and (ha : PE X a (rd g W ta)) (hb : PE X (.BoolOp .And (b :: rest) pos) (rd g W tb)) : PE X (.BoolOp .And (a :: b :: rest) pos) (rd g W (andD ta tb)) := (pe_and ha hb).imp fun σ H Q ⟨F, f, R, ρ, S, s, e, h⟩ => by
  refine rd_bind s e h fun v F1 f1 S1 H1 x e1 s1 en1 r1 h1 => ?_
  obtain ⟨k, ex, h2⟩ := tob_of h1 r1
  refine ⟨k, ex, ?_⟩
  by_cases hk : k = true
  · rw [if_pos hk] at h2 ⊢
    exact ⟨F1, f1, R, ρ, S1, s1, en1, h2⟩
  · rw [if_neg hk] at h2 ⊢
    exact h2.ok s1 _ (.bl false)
theorem pd_or (ha : PE X a (rd g W ta)) (hb : PE X (.BoolOp .Or (b :: rest) pos) (rd g W tb)) : PE X (.BoolOp .Or (a :: b :: rest) pos) (rd g W (orD ta tb)) := (pe_or ha hb).imp fun σ H Q ⟨F, f, R, ρ, S, s, e, h⟩ => by
  refine rd_bind s e h fun v F1 f1 S1 H1 x e1 s1 en1 r1 h1 => ?_
  obtain ⟨k, ex, h2⟩ := tob_of h1 r1
  refine ⟨k, ex, ?_⟩
  by_cases hk : k = true
  · rw [if_pos hk] at h2 ⊢
    exact h2.ok s1 _ (.bl true)
  · rw [if_neg hk] at h2 ⊢
    exact ⟨F1, f1, R, ρ, S1, s1, en1, h2⟩
theorem pd_not (ha : PE X a (rd g W ta)) : PE X (.UnaryOp .Not a pos) (rd g W (notD ta)) := (pe_not ha).imp fun σ H Q ⟨F, f, R, ρ, S, s, e, h⟩ => by
  refine rd_bind s e h fun v F1 f1 S1 H1 x e1 s1 en1 r1 h1 => ?_
  obtain ⟨k, ex, h2⟩ := tob_of h1 r1
  exact ⟨k, ex, h2.ok s1 _ (.bl _)⟩
theorem pd_ife {c : Expr} {tc : TD Bool} (hc : PT X c (rdT g W tc)) (ha : PE X a (rd g W ta)) (hb : PE X b (rd g W tb)) : PE X (.IfExp c a b pos) (rd g W (dIf tc ta tb)) := (pe_ifExp hc ha hb).imp fun σ H Q ⟨F, f, R, ρ, S, s, e, h⟩ => by
  refine rd_bind s e h fun k F1 f1 S1 H1 x e1 s1 en1 r1 h1 => ?_
  subst r1
  by_cases hk : x = true
  · rw [if_pos hk] at h1 ⊢
    exact ⟨F1, f1, R, ρ, S1, s1, en1, h1⟩
  · rw [if_neg hk] at h1 ⊢
    exact ⟨F1, f1, R, ρ, S1, s1, en1, h1⟩
def andT (ta tb : TD Bool) : TD Bool := fun ρ S => (ta ρ S).bind fun k S1 => if k = true then tb ρ S1 else .ok false S1
def orT (ta tb : TD Bool) : TD Bool := fun ρ S => (ta ρ S).bind fun k S1 => if k = true then .ok true S1 else tb ρ S1
def notT (ta : TD Bool) : TD Bool := fun ρ S => (ta ρ S).bind fun b S1 => .ok (!b) S1
theorem pt_and (ha : PT X a (rdT g W ua)) (hb : PW X (.BoolOp .And (b :: rest) pos) (rdT g W ub)) : PW X (.BoolOp .And (a :: b :: rest) pos) (rdT g W (andT ua ub)) := (pw_and ha hb).imp fun σ H Q ⟨F, f, R, ρ, S, s, e, h⟩ => by
  refine rd_bind s e h fun k F1 f1 S1 H1 x e1 s1 en1 r1 h1 => ?_
  subst r1
  by_cases hk : x = true
  · rw [if_pos hk] at h1 ⊢
    exact ⟨F1, f1, R, ρ, S1, s1, en1, h1⟩
  · rw [if_neg hk] at h1 ⊢
    exact h1.ok s1 false rfl
theorem pt_or (ha : PT X a (rdT g W ua)) (hb : PW X (.BoolOp .Or (b :: rest) pos) (rdT g W ub)) : PW X (.BoolOp .Or (a :: b :: rest) pos) (rdT g W (orT ua ub)) := (pw_or ha hb).imp fun σ H Q ⟨F, f, R, ρ, S, s, e, h⟩ => by
  refine rd_bind s e h fun k F1 f1 S1 H1 x e1 s1 en1 r1 h1 => ?_
  subst r1
  by_cases hk : x = true
  · rw [if_pos hk] at h1 ⊢
    exact h1.ok s1 true rfl
  · rw [if_neg hk] at h1 ⊢
    exact ⟨F1, f1, R, ρ, S1, s1, en1, h1⟩
theorem pt_notD (ha : PT X a (rdT g W ua)) : PT X (.UnaryOp .Not a pos) (rdT g W (notT ua)) := (pt_not ha).imp fun σ H Q ⟨F, f, R, ρ, S, s, e, h⟩ =>
  rd_bind s e h fun k F1 f1 S1 H1 x e1 s1 en1 r1 h1 => by
    subst r1
    exact h1.ok s1 _ rfl
/-- a value's truth -/
theorem pt_tru (hK : g.K = X.K) (ha : PE X a (rd g W ta)) (h : ntest a = true) : PT X a (rdT g W fun ρ S => (ta ρ S).bind truO) := (pt_truth ha (test_of h)).imp fun σ H Q ⟨F, f, R, ρ, S, s, e, h⟩ =>
  rd_bind s e h fun v F1 f1 S1 H1 x e1 s1 en1 r1 h1 => by
    obtain ⟨b, h2, h3⟩ := tru_of s1 h1 r1
    exact ⟨b, hK ▸ h2, h3.ok s1 b rfl⟩
/-! ### argument lists, displays -/
variable {es : List Expr} {t : TD (List Val)}
def consD (ta : TD Val) (t : TD (List Val)) : TD (List Val) := fun ρ S => (ta ρ S).bind fun v S1 => (t ρ S1).bind fun vs S2 => .ok (v :: vs) S2
theorem pd_nil : PA X [] (rdA g W fun _ S => .ok [] S) := pa_nil.imp fun σ H Q ⟨F, f, R, ρ, S, s, e, h⟩ => h.ok s [] .nil
theorem pd_cons (ha : PE X a (rd g W ta)) (hr : PA X es (rdA g W t)) (hs : nstar a = true) : PA X (a :: es) (rdA g W (consD ta t)) := (pa_cons ha hr (star_cons hs)).imp fun σ H Q ⟨F, f, R, ρ, S, s, e, h⟩ =>
  rd_bind s e h fun v F1 f1 S1 H1 x e1 s1 en1 r1 h1 => rd_bind s1 en1 h1 fun vs F2 f2 S2 H2 xs e2 s2 en2 r2 h2 => h2.ok s2 _ (.cons (r1.sub e2) r2)
theorem pd_tup {k : Nat} (h : PA X es (rdA g W t)) : PE X (.Tuple es k pos) (rd g W (dN tupV t)) := (pe_tup h).imp fun σ H Q ⟨F, f, R, ρ, S, s, e, h⟩ =>
  rd_bind s e h fun vs F1 f1 S1 H1 xs e1 s1 en1 r1 h1 => by
    unfold tupV at h1
    split at h1
    · rename_i ds hd
      obtain ⟨hz, h2⟩ := okIf_pos h1
      have t := datas_da r1 hd
      exact ⟨by rw [t.len]; exact hz, fun p hp => sat_tup h2 s1 t hp⟩
    · split at h1
      · rename_i es he
        split at h1
        · rename_i hz
          have t := els_rs r1 he
          refine ⟨by rw [t.len]; exact hz, fun p hp => ?_⟩
          obtain ⟨s2, x2⟩ := s1.new (o := .tup xs) hp
          exact h1 _ _ _ x2 s2 (.ref p) ⟨p, xs, rfl, .inl (.inl upd_same), t.sub x2⟩
        · exact h1.elim
      · exact h1.elim
theorem pd_lst {m : Bool} (h : PA X es (rdA g W t)) : PE X (.List es pos) (rd g W (dN (lstV m) t)) := (pe_lst h).imp fun σ H Q ⟨F, f, R, ρ, S, s, e, h⟩ =>
  rd_bind s e h fun vs F1 f1 S1 H1 xs e1 s1 en1 r1 h1 => by
    unfold lstV at h1
    split at h1
    · rename_i ds hd
      have t := datas_da r1 hd
      split at h1
      · rename_i hz
        refine ⟨by rw [t.len]; exact hz, fun p hp => ?_⟩
        split at h1
        · exact sat_lstM h1 s1 t hp
        · exact sat_lst h1 s1 t hp
      · exact h1.elim
    · split at h1
      · rename_i es he
        split at h1
        · rename_i hz
          have t := els_rs r1 he
          refine ⟨by rw [t.len]; exact hz.1, fun p hp => ?_⟩
          obtain ⟨s2, x2⟩ := s1.new (o := .lst xs) hp
          exact h1 _ _ _ x2 s2 (.ref p) ⟨p, xs, rfl, .inl upd_same, t.sub x2⟩
        · exact h1.elim
      · exact h1.elim
/-! ### subscripts, slices -/
theorem pd_idx (hK : g.K = X.K) (ha : PE X a (rd g W ta)) (hb : PE X b (rd g W tb)) (hs : nslice b = true) : PE X (.Subscript a b pos) (rd g W (dB2 idxV ta tb)) := (pe_ix ix_seq ha hb (plain_of hs)).imp fun σ H Q h => by
  have hr : RealB g (rIx X.K) idxV := hK ▸ real_idx
  exact tOp_rd hr h
theorem pd_none : PO X none (rdO g W fun _ S => .ok none S) := by
  refine ⟨fun pins s σ H Q I ⟨F, f, R, ρ, S, sm, e, h⟩ => ?_⟩
  exact po_none.run pins s σ H Q I (h.ok sm none rfl)
theorem pd_some (ha : PE X a (rd g W ta)) : PO X (some a) (rdO g W fun ρ S => (ta ρ S).bind prtV) := by
  refine ⟨fun pins s σ H Q I ⟨F, f, R, ρ, S, sm, e, h⟩ => ?_⟩
  refine (po_some ha).run pins s σ H Q I (rd_bind sm e h fun v F1 f1 S1 H1 x e1 s1 en1 r1 h1 => ?_)
  unfold prtV at h1
  split at h1
  · cases r1 with
    | int i => exact ⟨_, rfl, h1.ok s1 _ rfl⟩
  · exact h1.elim
theorem pd_sli {lo hi : Option Expr} {tl th : TD (Option Int)} {p2 : Pos} (hK : g.K = X.K) (ha : PE X a (rd g W ta)) (hl : PO X lo (rdO g W tl)) (hh : PO X hi (rdO g W th)) :
    PE X (.Subscript a (.Slice lo hi none p2) pos) (rd g W fun ρ S => (ta ρ S).bind fun v S1 => (tl ρ S1).bind fun l S2 => (th ρ S2).bind fun u S3 => sliV v l u S3) :=
  (pe_slice sl_V ha hl hh).imp fun σ H Q ⟨F, f, R, ρ, S, s, e, h⟩ => by
    refine rd_bind s e h fun v F1 f1 S1 H1 x e1 s1 en1 r1 h1 => rd_bind s1 en1 h1 fun l F2 f2 S2 H2 l' e2 s2 en2 r2 h2 => rd_bind s2 en2 h2 fun u F3 f3 S3 H3 u' e3 s3 en3 r3 h3 => ?_
    subst r2 r3
    have q := real_sli s3 ((r1.sub e2).sub e3) h3
    rw [hK] at q
    exact q
theorem pd_rev {k : Nat} {p1 p2 p3 : Pos} (hK : g.K = X.K) (ha : PE X a (rd g W ta)) : PE X (.Subscript a (.Slice none none (some (.UnaryOp .USub (.Constant (.int 1) k p1) p2)) p3) pos) (rd g W (dU (revV false) ta)) :=
  (pe_rev ha).imp fun σ H Q ⟨F, f, R, ρ, S, s, e, h⟩ => rd_bind s e h fun v F1 f1 S1 H1 x e1 s1 en1 r1 h1 => by
    have q := real_rev s1 r1 h1
    rw [hK] at q
    exact q
theorem pd_rev0 {k k0 : Nat} {p1 p2 p3 p4 : Pos} (hK : g.K = X.K) (ha : PE X a (rd g W ta)) :
    PE X (.Subscript a (.Slice none (some (.Constant (.int 0) k0 p4)) (some (.UnaryOp .USub (.Constant (.int 1) k p1) p2)) p3) pos) (rd g W (dU (revV true) ta)) :=
  (pe_rev0 ha).imp fun σ H Q ⟨F, f, R, ρ, S, s, e, h⟩ => rd_bind s e h fun v F1 f1 S1 H1 x e1 s1 en1 r1 h1 => by
    have q := real_rev s1 r1 h1
    rw [hK] at q
    exact q
/-! ### calls -/
variable {x : Str} {p : Pos} {T id : String} {r : List V → Hp → VK → Prop} {φ : List Val → Store → Out Val}
theorem pd_bi (hc : CallR X (.builtin id) r) (hr : RealN g r φ) (hg : Gl X x) (hm : X.mg x = none) (hv : bootBuiltins x = some (.builtin id)) (ha : PA X (a :: es) (rdA g W t)) (hn : x ≠ "__name__") (hdb : (x == ("__debug__" : Str)) = false) (hs : (a :: es).all nstar = true) :
    PE X (.Call (.Name x p) (a :: es) [] pos) (rd g W (dN φ t)) := by
  rw [List.all_cons, Bool.and_eq_true] at hs
  exact (pe_callB hc hg hm hv ha hn hdb (star_cons hs.1) (star_any hs.2)).imp fun σ H Q ⟨F, f, R, ρ, S, s, e, h⟩ =>
    rd_bind s e h fun vs F1 f1 S1 H1 xs e1 s1 en1 r1 h1 => hr F1 f1 R S1 H1 xs vs _ Q s1 r1 h1
theorem pd_ty (hc : CallR X (.type T) r) (hr : RealN g r φ) (hg : Gl X x) (hm : X.mg x = none) (hv : bootBuiltins x = some (.type T)) (ha : PA X (a :: es) (rdA g W t)) (hn : x ≠ "__name__") (hdb : (x == ("__debug__" : Str)) = false) (hs : (a :: es).all nstar = true) :
    PE X (.Call (.Name x p) (a :: es) [] pos) (rd g W (dN φ t)) := by
  rw [List.all_cons, Bool.and_eq_true] at hs
  exact (pe_callTy hc hg hm hv ha hn hdb (star_cons hs.1) (star_any hs.2)).imp fun σ H Q ⟨F, f, R, ρ, S, s, e, h⟩ =>
    rd_bind s e h fun vs F1 f1 S1 H1 xs e1 s1 en1 r1 h1 => hr F1 f1 R S1 H1 xs vs _ Q s1 r1 h1
/-- isinstance(a, T) -/
theorem pd_isi {ty : Ty} {p2 : Pos} {y : Str} (hK : g.K = X.K) (hg : Gl X x) (hm : X.mg x = none) (hv : bootBuiltins x = some (.builtin "isinstance")) (hn : x ≠ "__name__") (hdb : (x == ("__debug__" : Str)) = false)
    (hg2 : Gl X y) (hm2 : X.mg y = none) (hv2 : bootBuiltins y = some (.type ty.name)) (hn2 : y ≠ "__name__") (hdb2 : (y == ("__debug__" : Str)) = false) (ha : PE X a (rd g W ta)) (hs : nstar a = true) :
    PE X (.Call (.Name x p) [a, .Name y p2] [] pos) (rd g W (dU (isiV ty) ta)) :=
  (pe_callB call_isi hg hm hv (pa_cons ha (pa_cons (pe_bltn hg2 hm2 hv2 (v := .ty ty.name) rfl hn2 hdb2) pa_nil) (star_cons hs)) hn hdb (star_cons hs) (by rfl)).imp fun σ H Q ⟨F, f, R, ρ, S, s, e, h⟩ =>
    rd_bind s e h fun v F1 f1 S1 H1 x e1 s1 en1 r1 h1 => by
      obtain ⟨tv, b, q1, q2, q3⟩ := real_isi s1 r1 h1
      rw [hK] at q1 q2
      exact ⟨x, .ty ty.name, tv, _, b, rfl, .ty _, q1, q2, q3⟩
/-- a.append(b) -/
theorem pd_app {apos : Pos} (hK : g.K = X.K) (ha : PE X a (rd g W ta)) (hb : PA X [b] (rdA g W t)) (hbase : attributeBase a "append" X.env (eval a X.env) = eval a X.env) (hs : nstar b = true) (hline : (apos.endLine == pos.line) = true) :
    PE X (.Call (.Attribute a "append" apos) [b] [] pos) (rd g W fun ρ S => (ta ρ S).bind fun u S0 => (recV u S0).bind fun v S1 => (t ρ S1).bind fun vs S2 => meV .append v vs S2) := by
  refine (pe_bm PySem.F.plainAttrs_list PySem.F.slot_list_append PySem.F.type_list_append mt_append ha hb hbase ?_ hline (star_cons hs) rfl).imp fun σ H Q ⟨F, f, R, ρ, S, s, e, h⟩ => ?_
  · rw [star_cons hs]; rfl
  · refine rd_bind s e h fun v F1 f1 S1 H1 x e1 s1 en1 r1 h1 => ?_
    unfold recV at h1
    split at h1
    · split at h1
      · rename_i ds hS
        obtain ⟨a', ys, q1, q2, q3⟩ := s1.getL hS
        refine ⟨?_, ?_⟩
        · obtain ⟨a2, z1, rfl⟩ := r1
          rw [q1] at z1; cases z1
          exact .inl ⟨rfl, ys, .inl (.inl q2)⟩
        · refine rd_bind s1 en1 h1 fun vs F2 f2 S2 H2 xs e2 s2 en2 r2 h2 => ?_
          exact (real_append s2 (r1.sub e2) r2 h2).1
      · exact h1.elim
    · exact h1.elim
/-- f(..), f a def -/
theorem run_fnG {k : Nat} {fa : Addr} {fd : FuncData} {ps : List Str} {sp : Sp} {E : L2.St → XK} {pins : List (Addr × Obj)} {σ : L2.St} {H : Hp} {s : Shared} {Q : VK} {us : List Value} {vs : List V} (Fn : FnG X.prog X.w X.K X.mg X.base k fa fd ps sp)
    (hr : Room k X.A) (hgd : X.A.guards = some []) (hb : Binds X.K fd ps []) (hx : PassesAt (L2.CX X.prog X.w) X σ (E σ))
    (I : Inv X pins σ H s) (r : Vals vs us) (h : sp vs H Q (E σ)) : wpAny (model X.prog X.w) X.A (call (.ref fa) us) (EP X pins σ Q) X.xe s := by
  have hl : us.length = ps.length := by rw [← r.length]; exact Fn.len _ _ _ _ h
  have b := hb s us I.kIn (by rw [List.append_nil]; exact hl)
  rw [List.append_nil] at b
  refine wpAny_call (codeAny_mono (Fn.run X.A X.stack s H ⟨us, []⟩ us vs Q (E σ) hr hgd I.env0 b r h) fun r s' hq => ?_)
  cases r with
  | error e => exact hx pins H s e s' I hq
  | ok fl =>
    cases fl with
    | ret u => exact I.after hq
    | next => exact False.elim hq
    | brk => exact False.elim hq
    | cont => exact False.elim hq
theorem pd_call {C : Calls} {k n : Nat} {fa : Addr} {fd : FuncData} {ps : List Str} (Fn : FnG X.prog X.w X.K X.mg X.base n fa fd ps (spD g C k ps.length)) (hr : Room n X.A) (hgd : X.A.guards = some []) (hg : Gl X x) (hm : X.mg x = some (.ref fa))
    (hk : PySem.W.keepIn X.K (.ref fa) = true) (hb : Binds X.K fd ps []) (tk : Takes X W) (ha : PA X (a :: es) (rdA g W t)) (hlen : ∀ ρ S vs S', t ρ S = .ok vs S' → vs.length = ps.length) (hdb : (x == ("__debug__" : Str)) = false) (hs : (a :: es).all nstar = true) :
    PE X (.Call (.Name x p) (a :: es) [] pos) (rd g W (dCall C k t)) := by
  rw [List.all_cons, Bool.and_eq_true] at hs
  refine ⟨fun pins s σ H Q I ⟨F, f, R, ρ, S, sm, e, h⟩ => ?_⟩
  refine wpAny_Call_Name_kw (ld_glob I hg hm ?_ hdb)
  have h2 : rdA g W t σ H fun vs H1 => spD g C k ps.length vs H1 Q (WE W σ) := ⟨F, f, R, ρ, S, sm, e, h.bind.imp fun vs F1 f1 S1 H1 e1 s1 ht q xs rx => ⟨F1, f1, R, S1, vs, s1, rx, hlen _ _ _ _ ht, q⟩⟩
  refine PySem.W.callWith_K (h₀ := X.base) I.ok.mod.kin hk (thn (ha.run pos pins s σ H _ I h2) fun us s1 ⟨vs, H1, I1, r, q⟩ => ⟨I1.kIn, ?_⟩) (star_cons hs.1) (star_any hs.2)
  exact run_fnG (E := WE W) Fn hr hgd hb (passAt tk σ) I1 r q
theorem pd_call0 {C : Calls} {k n : Nat} {fa : Addr} {fd : FuncData} {ps : List Str} (Fn : FnG X.prog X.w X.K X.mg X.base n fa fd ps (spD g C k ps.length)) (hr : Room n X.A) (hgd : X.A.guards = some []) (hg : Gl X x) (hm : X.mg x = some (.ref fa))
    (hk : PySem.W.keepIn X.K (.ref fa) = true) (hb : Binds X.K fd ps []) (tk : Takes X W) (hlen : ps.length = 0) (hdb : (x == ("__debug__" : Str)) = false) :
    PE X (.Call (.Name x p) [] [] pos) (rd g W (dCall C k fun _ S => .ok [] S)) := by
  refine ⟨fun pins s σ H Q I ⟨F, f, R, ρ, S, sm, e, h⟩ => ?_⟩
  refine wpAny_Call_Name_kw (ld_glob I hg hm ?_ hdb)
  exact PySem.W.callWith_K0 I.kIn hk (run_fnG (E := WE W) (us := []) Fn hr hgd hb (passAt tk σ) I .nil ⟨F, f, R, S, [], sm, .nil, hlen.symm, h⟩)
/-- len(set(a)), a of texts -/
theorem strs_da {K : PySem.W.Frag} {F : Hp} : ∀ {ds : List PyData} {xs : List V} {ss : List Str}, DaAll K F xs ds → strsOf ds = some ss → xs = ss.map V.str
  | [], _, _, t, e => by cases t; cases e; rfl
  | .str x :: ds, _, _, t, e => by
    cases t with
    | cons h t =>
      unfold strsOf at e
      cases q : strsOf ds with
      | none => rw [q] at e; cases e
      | some l =>
        rw [q] at e
        cases e
        cases h
        rw [strs_da t q]
        rfl
  | .none :: _, _, _, _, e => by cases e
  | .bool _ :: _, _, _, _, e => by cases e
  | .int _ :: _, _, _, _, e => by cases e
  | .list _ :: _, _, _, _, e => by cases e
  | .tuple _ :: _, _, _, _, e => by cases e
  | .dict _ :: _, _, _, _, e => by cases e
theorem pd_lenSet {y : Str} {p2 q : Pos} (hK : g.K = X.K) (hc : X.calm = true) (hg : Gl X x) (hm : X.mg x = none) (hv : bootBuiltins x = some (.builtin "len")) (hn : x ≠ "__name__") (hdb : (x == ("__debug__" : Str)) = false)
    (hg2 : Gl X y) (hm2 : X.mg y = none) (hv2 : bootBuiltins y = some (.type "set")) (hn2 : y ≠ "__name__") (hdb2 : (y == ("__debug__" : Str)) = false) (ha : PA X [a] (rdA g W t)) (hs : nstar a = true) :
    PE X (.Call (.Name x p) [.Call (.Name y p2) [a] [] q] [] pos) (rd g W (dN (biV .lenSet) t)) := by
  refine ⟨fun pins s σ H Q I ⟨F, f, R, ρ, S, sm, e, h⟩ => ?_⟩
  have h2 : rdA g W t σ H fun vs H1 => ∃ (l : Addr) (ss : List Str), vs = [.ref l] ∧ (SqL X.K H1 l (ss.map V.str) ∨ SqT X.K H1 l (ss.map V.str)) ∧ ss.length < 4000 ∧ Q (.int ((onceS ss).length : Nat)) H1 :=
    rd_bind sm e h fun vs F1 f1 S1 H1 xs e1 s1 en1 r1 h1 => by
      unfold biV at h1
      split at h1 <;> first | (rename_i z; cases z; done) | skip
      · obtain ⟨x, rfl, r⟩ := vrs1 r1
        split at h1
        · rename_i e3
          obtain ⟨ds, e1, e2⟩ := Option.bind_eq_some_iff.mp e3
          obtain ⟨a, ys, rfl, q, t⟩ := seq_of s1 r e1
          obtain ⟨hz, h1⟩ := okIf_pos h1
          have q2 := strs_da t e2
          subst q2
          refine ⟨_, _, rfl, ?_, hz, sat_d h1 s1 (.int _)⟩
          rw [← hK]
          exact q.imp .inl (·.1)
        · exact h1.elim
      all_goals exact h1.elim
  refine Call_ (ld_blt I hg hm hv ?_ hn hdb)
  refine PyProof.Rows.callWith_builtin1 (PyProof.Rows.args_cons ?_ rfl) rfl rfl
  refine Call_ (ld_blt I hg2 hm2 hv2 ?_ hn2 hdb2)
  refine PyProof.Rows.callWith_type1 (thn (ha.run q pins s σ H _ I h2) fun us s1 ⟨vs, H1, I1, r1, l, ss, ev, hq, hz, q1⟩ => ?_) (star_cons hs) rfl
  subst ev
  cases r1 with
  | cons r rr =>
    cases rr
    cases r
    have fin : ∀ (h' : Heap) (tk : Nat), SetS X.prog X.w h' s1.heap.objs.size (onceS ss) → (∀ b o, b < s1.heap.objs.size → s1.heap.get? b = some o → h'.get? b = some o) →
        wpAny (model X.prog X.w) X.A (spliced (backTo pos (starEach [] X.env))) (fun vs s₂ => wpAny (model X.prog X.w) X.A (call (.builtin "len") (Value.ref s1.heap.objs.size :: vs)) (EP X pins σ Q) X.xe s₂) X.xe { s1 with heap := h', toks := tk } := fun h' tk hS hk => by
      refine PyProof.Rows.args_nil ?_
      obtain ⟨o, es, ep, t, ho, hex, hd, _, _, _, hf, hn⟩ := hS
      have I2 : Inv X pins σ H1 { s1 with heap := h', toks := tk } := I1.kept fun b o e => hk b o (Heap.lt_size e) e
      have hfew : (onceS ss).length ≤ ss.length := by have := once_len ss []; simpa [onceS] using this
      exact call_len_set ho hex hd hf (by rw [hn]; omega) ⟨.int ((onceS ss).length : Nat), H1, I2.tok _, ⟨_, by rw [hn]⟩, q1⟩
    rcases hq with hq | hq
    · obtain ⟨its, r, ⟨o, n, ho, hc1, hd1, hdt⟩, hz2⟩ := I1.list hq
      obtain ⟨oc, od, dt, sl⟩ := o
      simp only at hc1 hd1 hdt
      subst hc1 hdt
      exact call_set_texts (I1.ok.hd hc) ho goes_list PySem.F.sub_list_set PySem.F.sub_list_frozenset (by decide) (by simpa using L2.strsAre_of r) hz fin
    · obtain ⟨its, r, ⟨o, ho, hc1, n, hdt⟩, hz2⟩ := I1.tuple hq
      obtain ⟨oc, od, dt, sl⟩ := o
      simp only at hc1 hdt
      subst hc1 hdt
      exact call_set_texts (I1.ok.hd hc) ho goes_tuple PySem.F.sub_tuple_set PySem.F.sub_tuple_frozenset (by decide) (by simpa using L2.strsAre_of r) hz fin
end
end Ev
end

section
set_option Elab.async false
set_option linter.all false
set_option maxRecDepth 100000
set_option maxHeartbeats 4000000
/-! E7b: isinstance of some kinds, extend, methods of texts, f-strings -/
namespace Ev
open PySem PySem.Spec PyProof.Rows L2

/-! ### isinstance with a tuple of kinds -/
theorem isTys_some {S : Store} {v : Val} : ∀ {ts : List Ty} {b : Bool}, isTys S v ts = some b → ∀ t ∈ ts, ∃ c, isTy S v t = some c
  | [], _, _, _, h => by cases h
  | t :: ts, b, e, u, hu => by
    unfold isTys at e
    split at e
    · rename_i a b' h1 h2
      rcases List.mem_cons.mp hu with rfl | hu
      · exact ⟨_, h1⟩
      · exact isTys_some h2 u hu
    · cases e
theorem ty_of {g : Gc} {F : Hp} {f : List Addr} {R : Rs} {S : Store} {H : Hp} {x : V} {v : Val} (s : Sm g F f R S H) (r : VR g F f x v) (h : isTy S v .int ≠ none) :
    ∃ ty : Value, TyX g.K H x ty ∧ ∀ t b, isTy S v t = some b → PySem.W.kitOne g.K ty (.type t.name) = some b := by
  have fin : ∀ (a t : Ty) (b : Bool), b = (a == t || (a == .bool && t == .int)) → PySem.W.kitOne g.K (.type a.name) (.type t.name) = some b := fun a t b e => e ▸ kit_ty (kit_all a t)
  cases v with
  | fn k => exact absurd rfl h
  | tp k => exact absurd rfl h
  | ls k => exact absurd rfl h
  | loc n =>
    cases hS : S[n]? with
    | none => simp [isTy, hS] at h
    | some ob =>
      cases ob with
      | lst ds =>
        obtain ⟨a, h1, rfl⟩ := r
        obtain ⟨a', zs, q1, q2, q3⟩ := s.getL hS
        rw [h1] at q1; cases q1
        refine ⟨.type "list", .base (.lst q2), fun t b e => fin .list t b ?_⟩
        simp only [isTy, hS] at e
        cases e
        cases t <;> rfl
  | d y =>
    cases y with
    | none => cases r; exact ⟨.type "NoneType", .base .non, fun t b e => by cases e; exact kit_ty (kit_none t)⟩
    | bool c =>
      cases r
      refine ⟨.type "bool", .base (.bl _), fun t b e => fin .bool t b ?_⟩
      cases e
      cases t <;> rfl
    | int c =>
      cases r
      refine ⟨.type "int", .base (.int _), fun t b e => fin .int t b ?_⟩
      cases e
      cases t <;> rfl
    | str c =>
      cases r
      refine ⟨.type "str", .base (.str _), fun t b e => fin .str t b ?_⟩
      cases e
      cases t <;> rfl
    | tuple c =>
      cases r with
      | tup h1 t1 =>
        refine ⟨.type "tuple", tyx_tuple (SqT.sub s.le h1), fun t b e => fin .tuple t b ?_⟩
        cases e
        cases t <;> rfl
    | list c =>
      cases r with
      | lst h1 t1 =>
        refine ⟨.type "list", tyx_list (Rd.sub s.le h1), fun t b e => fin .list t b ?_⟩
        cases e
        cases t <;> rfl
    | dict c =>
      cases r with
      | dct h1 =>
        refine ⟨.type "dict", .base (.dK (s.le _ _ h1)), fun t b e => fin .dict t b ?_⟩
        cases e
        cases t <;> rfl
theorem kit_tys {K : PySem.W.Frag} {ty : Value} {S : Store} {v : Val} (h : ∀ t b, isTy S v t = some b → PySem.W.kitOne K ty (.type t.name) = some b) : ∀ {ts : List Ty} {b : Bool}, isTys S v ts = some b →
    PySem.W.kitAny K ty (ts.map fun t => Value.type t.name) = some b
  | [], b, e => by cases e; exact kitAny_nil
  | t :: ts, b, e => by
    unfold isTys at e
    split at e
    · rename_i a c h1 h2
      cases e
      refine kitAny_cons (h t a h1) (fun z => ?_) fun z => by rw [z]; rfl
      rw [z]
      exact kit_tys h h2
    · cases e
theorem cls_tys : ∀ ts : List Ty, Paired ClsV (ts.map fun t => V.ty t.name) (ts.map fun t => Value.type t.name)
  | [] => .nil
  | t :: ts => .cons (.ty _) (cls_tys ts)
section
variable {X : Cx} {g : Gc} {W : WX} {a b o : Expr} {es : List Expr} {ta to : TD Val} {t : TD (List Val)} {pos p tpos : Pos} {x : Str}
/-- the names of kinds -/
def tysB (f : Str → String → Bool) : List Ty → List Expr → Bool
  | [], es => es.isEmpty
  | t :: ts, es => match es with
    | .Name y _ :: es => f y t.name && tysB f ts es
    | _ => false
theorem pa_tys {f : Str → String → Bool} (hf : ∀ y n, f y n = true → Gl X y ∧ X.mg y = none ∧ bootBuiltins y = some (.type n) ∧ y ≠ "__name__" ∧ (y == ("__debug__" : Str)) = false) : ∀ {ts : List Ty} {es : List Expr}, tysB f ts es = true →
    PA X es (fun σ H Q => Q (ts.map fun t => V.ty t.name) H)
  | [], es, h => by
    cases es with
    | nil => exact pa_nil.imp fun σ H Q q => q
    | cons _ _ => cases h
  | t :: ts, es, h => by
    unfold tysB at h
    split at h
    · rw [Bool.and_eq_true] at h
      obtain ⟨h1, h2, h3, h4, h5⟩ := hf _ _ h.1
      exact (pa_cons (pe_bltn h1 h2 h3 (v := .ty t.name) rfl h4 h5) (pa_tys hf h.2)).imp fun σ H Q q => q
    · cases h
theorem pd_isi2 {f : Str → String → Bool} {ts : List Ty} {ys : List Expr} {k : Nat} (hK : g.K = X.K) (hg : Gl X x) (hm : X.mg x = none) (hv : bootBuiltins x = some (.builtin "isinstance")) (hn : x ≠ "__name__") (hdb : (x == ("__debug__" : Str)) = false)
    (hf : ∀ y n, f y n = true → Gl X y ∧ X.mg y = none ∧ bootBuiltins y = some (.type n) ∧ y ≠ "__name__" ∧ (y == ("__debug__" : Str)) = false) (hts : tysB f ts ys = true) (hl : ts.length ≤ 9) (ht : ts ≠ []) (ha : PE X a (rd g W ta)) (hs : nstar a = true) :
    PE X (.Call (.Name x p) [a, .Tuple ys k tpos] [] pos) (rd g W (dU (isiV2 ts) ta)) :=
  (pe_callB call_isiT hg hm hv (pa_cons ha (pa_cons (pe_tup (pa_tys hf hts)) pa_nil) (star_cons hs)) hn hdb (star_cons hs) (by rfl)).imp fun σ H Q ⟨F, fa, R, ρ, S, s, e, h⟩ =>
    rd_bind s e h fun v F1 f1 S1 H1 x e1 s1 en1 r1 h1 => by
      unfold isiV2 at h1
      split at h1
      · rename_i b hb
        have hz : (ts.map fun t => V.ty t.name).length ≤ sizeLine := by rw [List.length_map, sizeLine_eq]; omega
        refine ⟨hz, fun q hq => ?_⟩
        have ne : isTy S1 v .int ≠ none := by
          cases ts with
          | nil => exact absurd rfl ht
          | cons t0 _ =>
            obtain ⟨c, hc⟩ := isTys_some hb t0 List.mem_cons_self
            intro z
            revert hc z
            unfold isTy
            repeat' split
            all_goals simp
        obtain ⟨s2, x2⟩ := s1.new (o := .tup (ts.map fun t => V.ty t.name)) hq
        obtain ⟨tv, q1, q2⟩ := ty_of s2 (r1.sub x2) ne
        rw [hK] at q1 q2
        exact ⟨x, q, _, tv, _, b, rfl, upd_same, cls_tys ts, q1, kit_tys q2 hb, h1 _ _ _ x2 s2 (.bl b) (.bl b)⟩
      · exact h1.elim
/-! ### a.extend(b) -/
def rExtR : V → List V → Hp → VK → Prop := fun x vs H Q => ∃ l c us ws, x = .ref l ∧ vs = [.ref c] ∧ H l = some (.lst us) ∧ Rd H c (.lst ws) ∧ us.length + ws.length ≤ sizeLine ∧ Q .non (upd H l (.lst (us ++ ws)))
theorem mt_extR : MtM X "list.extend" rExtR := by
  rintro pins s σ H _ _ v us Q I rx rv ⟨l, c, u1, w1, rfl, rfl, hl, hc, hz, q⟩
  cases rx
  obtain ⟨u, rfl, ru⟩ := rv.one
  cases ru
  obtain ⟨_, ls, n, r1, len1, at1⟩ := I.lstM hl
  obtain ⟨_, ms, m, r2, at2⟩ := hc.ok I.hok
  have len2 := r2.length
  have small : ls.toArray.size + ms.toArray.size ≤ sizeLine := by
    rw [List.size_toArray, List.size_toArray]; omega
  have long : ¬ (!ls.toArray.isEmpty && Builtin.List.listTooLong (ls.toArray.size + ms.toArray.size)) = true := by
    rw [notLongL small, Bool.and_false]; decide
  refine call_meets F.slot_list_extend ⟨_, at1, rfl⟩ F.entry_list_extend (F.args_list_extend_2 _ _) (AutoSeq1.list_extend_list_list_0 l ls.toArray n c ms.toArray m long ?_ ?_) ⟨at1, at2, ?_⟩
  · rw [List.size_toArray]; omega
  · omega
  · exact ⟨.non, _, I.lset (its' := ls ++ ms) hl at1 (by simp) (r1.append r2) (by rw [List.length_append]; omega), rfl, q⟩
theorem real_extend {F : Hp} {f : List Addr} {R : Rs} {S : Store} {H : Hp} {x : V} {v : Val} {xs : List V} {vs : List Val} {W : WH} {Q : VK} (s : Sm g F f R S H) (r : VR g F f x v) (rs : VRs g F f xs vs)
    (h : Sat g F f R W (meV .extend v vs S) (fun w F' f' S' H' => ∀ z, VR g F' f' z w → Q z H')) : rExtR x xs H Q := by
  unfold meV at h
  split at h
  · rename_i z; cases z
  · split at h
    · rename_i hS hv
      split at h
      · rename_i c
        obtain ⟨a, h1, rfl⟩ := r
        obtain ⟨y, rfl, ry⟩ := vrs1 rs
        obtain ⟨a', zs, q1, q2, q3⟩ := s.getL hS
        rw [h1] at q1; cases q1
        obtain ⟨b, ws, rfl, w1, w2⟩ := lst_of s ry hv
        refine ⟨_, _, _, ws, rfl, rfl, q2, w1, by rw [q3.len, w2.len]; exact c, ?_⟩
        have w2' : DaAll g.K F ws _ := w2
        have s1 := s.put (o := .lst (zs ++ ws)) (ob := .lst (_ ++ _)) h1 ⟨_, rfl, q3.append w2'⟩
        exact h F f _ (Ext.refl _ _) s1 .non .non
      · exact h.elim
    · exact h.elim
  · exact h.elim
theorem pd_ext {apos : Pos} (hK : g.K = X.K) (ha : PE X a (rd g W ta)) (hb : PA X [b] (rdA g W t)) (hbase : attributeBase a "extend" X.env (eval a X.env) = eval a X.env) (hs : nstar b = true) (hline : (apos.endLine == pos.line) = true) :
    PE X (.Call (.Attribute a "extend" apos) [b] [] pos) (rd g W fun ρ S => (ta ρ S).bind fun u S0 => (recV u S0).bind fun v S1 => (t ρ S1).bind fun vs S2 => meV .extend v vs S2) := by
  refine (pe_bm PySem.F.plainAttrs_list PySem.F.slot_list_extend PySem.F.type_list_extend mt_extR ha hb hbase ?_ hline (star_cons hs) rfl).imp fun σ H Q ⟨F, f, R, ρ, S, s, e, h⟩ => ?_
  · rw [star_cons hs]; rfl
  · refine rd_bind s e h fun v F1 f1 S1 H1 x e1 s1 en1 r1 h1 => ?_
    unfold recV at h1
    split at h1
    · split at h1
      · rename_i ds hS
        obtain ⟨a', ys, q1, q2, q3⟩ := s1.getL hS
        refine ⟨?_, ?_⟩
        · obtain ⟨a2, z1, rfl⟩ := r1
          rw [q1] at z1; cases z1
          exact .inl ⟨rfl, ys, .inl (.inl q2)⟩
        · refine rd_bind s1 en1 h1 fun vs F2 f2 S2 H2 xs e2 s2 en2 r2 h2 => ?_
          exact real_extend s2 (r1.sub e2) r2 h2
      · exact h1.elim
    · exact h1.elim
/-! ### methods of texts -/
def RealM (g : Gc) (r : V → List V → Hp → VK → Prop) (φ : Str → List Val → Store → Out Val) : Prop := ∀ (F : Hp) (f : List Addr) (R : Rs) (S : Store) (H : Hp) (x : Str) (xs : List V) (vs : List Val) (W : WH) (Q : VK), Sm g F f R S H → VRs g F f xs vs →
  Sat g F f R W (φ x vs S) (fun w F' f' S' H' => ∀ z, VR g F' f' z w → Q z H') → r (.str x) xs H Q
theorem da_strs {K : PySem.W.Frag} {F : Hp} : ∀ ys : List Str, DaAll K F (ys.map V.str) (ys.map PyData.str)
  | [] => .nil
  | y :: ys => .cons (.str y) (da_strs ys)
def SM.id : SM → String
  | .join => "str.join" | .split => "str.split" | .splitN => "str.split" | .find => "str.find" | .findN => "str.find" | .index => "str.index"
def SM.nm : SM → Str
  | .join => "join" | .split => "split" | .splitN => "split" | .find => "find" | .findN => "find" | .index => "index"
theorem sm_real (hK : g.K = X.K) (m : SM) : ∃ r, Slot "str" m.nm m.id ∧ typeOf (.builtin m.id) = pure (.type "method_descriptor") ∧ MtR X m.id r ∧ RealM g r (smV m) := by
  cases m with
  | join =>
    refine ⟨_, PySem.F.slot_str_join, PySem.F.type_str_join, mt_join, ?_⟩
    intro F f R S H x xs vs W Q s rs h
    unfold smV at h
    split at h <;> first | (rename_i z; cases z; done) | skip
    · obtain ⟨y, rfl, r⟩ := vrs1 rs
      split at h
      · rename_i e3
        obtain ⟨ds, e1, e2⟩ := Option.bind_eq_some_iff.mp e3
        obtain ⟨a, ys, rfl, q, t⟩ := seq_of s r e1
        obtain ⟨c, h⟩ := okIf_pos h
        have q2 := strs_da t e2
        subst q2
        refine ⟨_, _, _, rfl, rfl, ?_, c, sat_d h s (.str _)⟩
        rw [← hK]
        exact q.imp .inl (·.1)
      · exact h.elim
    all_goals exact h.elim
  | split =>
    refine ⟨_, PySem.F.slot_str_split, PySem.F.type_str_split, mt_split, ?_⟩
    intro F f R S H x xs vs W Q s rs h
    unfold smV at h
    split at h <;> first | (rename_i z; cases z; done) | skip
    · obtain ⟨y, rfl, r⟩ := vrs1 rs
      obtain ⟨c, h⟩ := okIf_pos h
      cases r
      exact ⟨_, _, rfl, rfl, c.1, c.2, fun p hp => sat_lst h s (da_strs _) hp⟩
    all_goals exact h.elim
  | splitN =>
    refine ⟨_, PySem.F.slot_str_split, PySem.F.type_str_split, mt_splitMax, ?_⟩
    intro F f R S H x xs vs W Q s rs h
    unfold smV at h
    split at h <;> first | (rename_i z; cases z; done) | skip
    · obtain ⟨y, z, rfl, r, r2⟩ := vrs2 rs
      obtain ⟨c, h⟩ := okIf_pos h
      cases r; cases r2
      exact ⟨_, _, _, rfl, rfl, c.1, c.2.1, c.2.2.1, c.2.2.2, fun p hp => sat_lst h s (da_strs _) hp⟩
    all_goals exact h.elim
  | find =>
    refine ⟨_, PySem.F.slot_str_find, PySem.F.type_str_find, mt_find, ?_⟩
    intro F f R S H x xs vs W Q s rs h
    unfold smV at h
    split at h <;> first | (rename_i z; cases z; done) | skip
    · obtain ⟨y, rfl, r⟩ := vrs1 rs
      cases r
      exact ⟨_, _, rfl, rfl, sat_d h s (.int _)⟩
    all_goals exact h.elim
  | findN =>
    refine ⟨_, PySem.F.slot_str_find, PySem.F.type_str_find, mt_find3, ?_⟩
    intro F f R S H x xs vs W Q s rs h
    unfold smV at h
    split at h <;> first | (rename_i z; cases z; done) | skip
    · obtain ⟨y, z, rfl, r, r2⟩ := vrs2 rs
      cases r; cases r2
      exact ⟨_, _, _, rfl, rfl, sat_d h s (.int _)⟩
    all_goals exact h.elim
  | index =>
    refine ⟨_, PySem.F.slot_str_index, PySem.F.type_str_index, mt_sindex, ?_⟩
    intro F f R S H x xs vs W Q s rs h
    unfold smV at h
    split at h <;> first | (rename_i z; cases z; done) | skip
    · obtain ⟨y, rfl, r⟩ := vrs1 rs
      split at h
      · rename_i e
        cases r
        exact ⟨_, _, _, _, rfl, rfl, e, sat_d h s (.int _)⟩
      · exact h.elim
    all_goals exact h.elim
theorem few_of {e : Expr} {es : List Expr} {env : Env} {cpos : Pos} (h : (e :: es).all nstar = true) (hl : es.length ≤ 3) : ((backTo cpos (starEach (e :: es) env)).all (fun x => !x.1) && (backToKw cpos (keywordEach [] env)).all (fun x => x.1.isSome)
      && decide ((e :: es).length + ([] : List Keyword).length + (if ([] : List Keyword).isEmpty then 0 else 1) < 30)) = true := by
  rw [List.all_cons, Bool.and_eq_true] at h
  have h2 : (backTo cpos (starEach es env)).any (·.1) = false := star_any h.2
  have h3 : (backTo cpos (starEach (e :: es) env)).all (fun x => !x.1) = true := by
    rw [star_cons h.1, List.all_eq_not_any_not]
    have e1 : (backTo cpos ((false, eval e env) :: starEach es env)).any (fun x => !!x.1) = false := by
      have e2 : (backTo cpos ((false, eval e env) :: starEach es env)).any (fun x => !!x.1) = (backTo cpos (starEach es env)).any (fun x => !!x.1) := by
        first | rfl | simp [backTo]
      rw [e2]
      simpa using h2
    rw [e1]; rfl
  rw [h3]
  simp [keywordEach, backToKw]
  omega
theorem pd_sme {apos : Pos} {m : SM} (hK : g.K = X.K) (ha : PE X a (rd g W ta)) (hb : PA X (b :: es) (rdA g W t)) (hbase : attributeBase a m.nm X.env (eval a X.env) = eval a X.env) (hs : (b :: es).all nstar = true) (hl : es.length ≤ 3) (hline : (apos.endLine == pos.line) = true) :
    PE X (.Call (.Attribute a m.nm apos) (b :: es) [] pos) (rd g W fun ρ S => (ta ρ S).bind fun v S1 => (strO v S1).bind fun x S2 => (t ρ S2).bind fun vs S3 => smV m x vs S3) := by
  obtain ⟨r, q1, q2, q3, q4⟩ := sm_real (X := X) hK m
  have hs2 := hs
  rw [List.all_cons, Bool.and_eq_true] at hs2
  refine (pe_bm PySem.F.plainAttrs_str q1 q2 q3 ha hb hbase (few_of hs hl) hline (star_cons hs2.1) (star_any hs2.2)).imp fun σ H Q ⟨F, f, R, ρ, S, s, e, h⟩ => ?_
  refine rd_bind s e h fun v F1 f1 S1 H1 x e1 s1 en1 r1 h1 => ?_
  unfold strO at h1
  split at h1
  · cases r1
    refine ⟨?_, ?_⟩
    · first | exact ⟨_, rfl⟩ | exact rfl | trivial
    · exact rd_bind s1 en1 h1 fun vs F2 f2 S2 H2 xs e2 s2 en2 r2 h2 => q4 F2 f2 R S2 H2 _ xs vs _ Q s2 r2 h2
  · exact h1.elim
/-! ### f-strings -/
theorem fs_rd {ta : TD Val} {k : Str → TD Val} {σ : L2.St} {H : Hp} {Q : VK} {acc : Str} {F : Hp} {f : List Addr} {R : Rs} {ρ : EnvD} {S : Store} {P : Str → Hp → Prop} (hk : ∀ acc H1, rd g W (k acc) σ H1 Q → P acc H1) (s : Sm g F f R S H) (e : En g F f ρ σ)
    (h : Sat g F f R (fun C d H' => W C d σ H') ((ta ρ S).bind fun v S1 => (fmtO v S1).bind fun y S2 => if (acc ++ y).length ≤ sizeLine then k (acc ++ y) ρ S2 else .stuck) (fun w F' f' S' H' => ∀ z, VR g F' f' z w → Q z H')) :
    tFmt (rd g W ta) σ H fun x H1 => ∃ y : Str, x = .str y ∧ (acc ++ y).length ≤ sizeLine ∧ P (acc ++ y) H1 := by
  refine rd_bind s e h fun v F1 f1 S1 H1 x e1 s1 en1 r1 h1 => ?_
  have fin : ∀ (y : Str), Sat g F1 f1 R (fun C d H' => W C d σ H') (if (acc ++ y).length ≤ sizeLine then k (acc ++ y) ρ S1 else .stuck) (fun w F' f' S' H' => ∀ z, VR g F' f' z w → Q z H') →
      ∃ y' : Str, V.str y = .str y' ∧ (acc ++ y').length ≤ sizeLine ∧ P (acc ++ y') H1 := fun y h2 => by
    split at h2
    · rename_i hz
      exact ⟨y, rfl, hz, hk _ _ ⟨F1, f1, R, ρ, S1, s1, en1, h2⟩⟩
    · exact h2.elim
  unfold fmtO at h1
  split at h1
  · cases r1
    split at h1
    · rename_i hz
      exact .inl ⟨_, rfl, hz, fin _ h1⟩
    · exact h1.elim
  · cases r1
    split at h1
    · rename_i hz
      exact .inr ⟨_, rfl, hz, fin _ h1⟩
    · exact h1.elim
  · exact h1.elim
/-- a text that stands in an f-string is a field of itself -/
theorem fs_cst {ta : TD Val} {k : Str → TD Val} {σ : L2.St} {H : Hp} {Q : VK} {acc : Str} {z : Str} {F : Hp} {f : List Addr} {R : Rs} {ρ : EnvD} {S : Store} {P : Str → Hp → Prop} (hk : ∀ acc H1, rd g W (k acc) σ H1 Q → P acc H1) (s : Sm g F f R S H) (e : En g F f ρ σ)
    (h : Sat g F f R (fun C d H' => W C d σ H') ((dCst (.str z) ρ S).bind fun v S1 => (fmtO v S1).bind fun y S2 => if (acc ++ y).length ≤ sizeLine then k (acc ++ y) ρ S2 else .stuck) (fun w F' f' S' H' => ∀ z, VR g F' f' z w → Q z H')) :
    rd g W (dCst (.str z)) σ H fun x H1 => ∃ y : Str, x = .str y ∧ (acc ++ y).length ≤ sizeLine ∧ P (acc ++ y) H1 := by
  have h' : Sat g F f R (fun C d H' => W C d σ H') ((if z.length ≤ sizeLine then (Out.ok z S : Out Str) else .stuck).bind fun y S2 => if (acc ++ y).length ≤ sizeLine then k (acc ++ y) ρ S2 else .stuck) (fun w F' f' S' H' => ∀ z, VR g F' f' z w → Q z H') := h
  by_cases hz0 : z.length ≤ sizeLine
  · rw [if_pos hz0] at h'
    have h2 : Sat g F f R (fun C d H' => W C d σ H') (if (acc ++ z).length ≤ sizeLine then k (acc ++ z) ρ S else .stuck) (fun w F' f' S' H' => ∀ z, VR g F' f' z w → Q z H') := h'
    by_cases hz : (acc ++ z).length ≤ sizeLine
    · rw [if_pos hz] at h2
      refine ⟨F, f, R, ρ, S, s, e, fun F1 f1 H1 e1 s1 x r1 => ?_⟩
      cases r1
      exact ⟨z, rfl, hz, hk _ _ ⟨F1, f1, R, ρ, S, s1, e.sub e1, Sat.step h2 e1⟩⟩
    · rw [if_neg hz] at h2; exact h2.elim
  · rw [if_neg hz0] at h'; exact h'.elim
end
end Ev
end

section
set_option Elab.async false
set_option linter.all false
set_option maxRecDepth 100000
set_option maxHeartbeats 4000000
/-! E7c: sorted(set(t)) -/
namespace Ev
open PySem PySem.Spec PyProof.Rows L2

theorem insU_mem {x k : Int} : ∀ {l : List Int}, k ∈ insU x l ↔ k = x ∨ k ∈ l
  | [] => by simp [insU]
  | y :: r => by
    unfold insU
    split
    · simp
    · split
      · rename_i h; subst h; simp
      · simp only [List.mem_cons, insU_mem (l := r)]
        constructor
        · rintro (h | h | h) <;> simp [h]
        · rintro (h | h | h) <;> simp [h]
theorem insU_up {x : Int} : ∀ {l : List Int}, l.Pairwise (· < ·) → (insU x l).Pairwise (· < ·)
  | [], _ => by simp [insU]
  | y :: r, h => by
    obtain ⟨h1, h2⟩ := List.pairwise_cons.mp h
    unfold insU
    split
    · rename_i e
      refine List.pairwise_cons.mpr ⟨fun z hz => ?_, h⟩
      rcases List.mem_cons.mp hz with rfl | hz
      · exact e
      · have := h1 z hz; omega
    · split
      · exact h
      · refine List.pairwise_cons.mpr ⟨fun z hz => ?_, insU_up h2⟩
        rcases insU_mem.mp hz with rfl | hz
        · omega
        · exact h1 z hz
theorem sortU_mem {k : Int} : ∀ {l : List Int}, k ∈ sortU l ↔ k ∈ l
  | [] => by simp [sortU]
  | y :: r => by
    show k ∈ insU y (sortU r) ↔ _
    rw [insU_mem, sortU_mem, List.mem_cons]
theorem sortU_up : ∀ {l : List Int}, (sortU l).Pairwise (· < ·)
  | [] => .nil
  | y :: r => insU_up (sortU_up (l := r))
theorem up_ext : ∀ {a b : List Int}, a.Pairwise (· < ·) → b.Pairwise (· < ·) → (∀ k, k ∈ a ↔ k ∈ b) → a = b
  | [], [], _, _, _ => rfl
  | [], y :: r, _, _, h => absurd ((h y).mpr List.mem_cons_self) (by simp)
  | y :: r, [], _, _, h => absurd ((h y).mp List.mem_cons_self) (by simp)
  | x :: a, y :: b, h1, h2, h => by
    obtain ⟨p1, q1⟩ := List.pairwise_cons.mp h1
    obtain ⟨p2, q2⟩ := List.pairwise_cons.mp h2
    have e : x = y := by
      rcases List.mem_cons.mp ((h x).mp List.mem_cons_self) with e | e
      · exact e
      · rcases List.mem_cons.mp ((h y).mpr List.mem_cons_self) with e2 | e2
        · exact e2.symm
        · have a1 := p2 x e
          have a2 := p1 y e2
          omega
    subst e
    rw [up_ext q1 q2 fun k => ⟨fun hk => ?_, fun hk => ?_⟩]
    · rcases List.mem_cons.mp ((h k).mp (List.mem_cons_of_mem _ hk)) with e | e
      · have := p1 k hk; omega
      · exact e
    · rcases List.mem_cons.mp ((h k).mpr (List.mem_cons_of_mem _ hk)) with e | e
      · have := p2 k hk; omega
      · exact e
/-- a rising list is its own -/
theorem sortU_id {l : List Int} (h : l.Pairwise (· < ·)) : sortU l = l := up_ext sortU_up h fun _ => sortU_mem
theorem ints_all {K : PySem.W.Frag} {F : Hp} : ∀ ns : List Int, DaAll K F (ns.map V.int) (ns.map PyData.int)
  | [] => .nil
  | n :: r => .cons (.int n) (ints_all r)
section
variable {X : Cx} {g : Gc} {W : WX} {x : Str} {a : Expr} {p pos : Pos} {t : TD (List Val)}
theorem pd_sortSet {y : Str} {p2 q : Pos} (hK : g.K = X.K) (hc : X.calm = true) (hg : Gl X x) (hm : X.mg x = none) (hv : bootBuiltins x = some (.builtin "sorted")) (hn : x ≠ "__name__") (hdb : (x == ("__debug__" : Str)) = false)
    (hg2 : Gl X y) (hm2 : X.mg y = none) (hv2 : bootBuiltins y = some (.type "set")) (hn2 : y ≠ "__name__") (hdb2 : (y == ("__debug__" : Str)) = false) (ha : PA X [a] (rdA g W t)) (hs : nstar a = true) :
    PE X (.Call (.Name x p) [.Call (.Name y p2) [a] [] q] [] pos) (rd g W (dN (biV .sortSet) t)) := by
  refine ⟨fun pins s σ H Q I ⟨F, f, R, ρ, S, sm, e, h⟩ => ?_⟩
  have h2 : rdA g W t σ H fun vs H1 => ∃ (l : Addr) (ns : List Int), vs = [.ref l] ∧ SqT X.K H1 l (ns.map V.int) ∧ ns.length < 64 ∧ ∀ p, H1 p = none → Q (.ref p) (upd H1 p (.lst ((sortU ns).map V.int))) :=
    rd_bind sm e h fun vs F1 f1 S1 H1 xs e1 s1 en1 r1 h1 => by
      unfold biV at h1
      split at h1 <;> first | (rename_i z; cases z; done) | skip
      · obtain ⟨x, rfl, r⟩ := vrs1 r1
        cases r with
        | tup h3 t3 =>
          split at h1
          · rename_i e3
            obtain ⟨hz, h1⟩ := okIf_pos h1
            have q2 := ints_da t3 e3
            subst q2
            refine ⟨_, _, rfl, hK ▸ SqT.sub s1.le h3, hz, fun p hp => sat_lst h1 s1 (ints_all _) hp⟩
          · exact h1.elim
      all_goals exact h1.elim
  refine Call_ (ld_blt I hg hm hv ?_ hn hdb)
  refine PyProof.Rows.callWith_builtin1 (PyProof.Rows.args_cons ?_ rfl) rfl rfl
  refine Call_ (ld_blt I hg2 hm2 hv2 ?_ hn2 hdb2)
  refine PyProof.Rows.callWith_type1 (thn (ha.run q pins s σ H _ I h2) fun us s1 ⟨vs, H1, I1, r1, l, ns, ev, hq, hz, q1⟩ => ?_) (star_cons hs) rfl
  subst ev
  cases r1 with
  | cons r rr =>
    cases rr
    cases r
    obtain ⟨its, rv, pt, hz2⟩ := I1.tuple hq
    have hi : IntsAre its.toArray.toList ns := ints_of_vals rv
    have hd := I1.ok.hd hc
    refine call_set_tupI ns hd (show s1.heap.IsTuple l its.toArray from pt) hi (by unfold scanBound; omega) fun h' tk c R1 hcn k => ?_
    refine PyProof.Rows.args_nil ?_
    have I2 : Inv X pins σ H1 { s1 with heap := h', toks := tk } := I1.kept k
    have fin : ∀ (s2 : Shared) (a : Addr), Inv X pins σ H1 s2 → SetR X.w s2.heap a (fun j => decide (j ∈ ns)) c → wpAny (model X.prog X.w) X.A (call (.builtin "sorted") [.ref a]) (EP X pins σ Q) X.xe s2 := fun s2 a I3 R3 => by
      refine sorted_set R3 (I3.ok.hd hc) (by omega) fun s' p out c' ms kk gg oo hp hg' hi' hs' hm' hl' => ?_
      have em : ms = sortU ns := up_ext hs' sortU_up fun j => by rw [hm' j, sortU_mem]; simp
      have hlen : (ms.map V.int).length ≤ sizeLine := by rw [List.length_map, hl', sizeLine_eq]; omega
      have hnn : H1 p = none := I3.hok.fresh hp
      have J : Inv X pins σ (upd H1 p (.lst (ms.map V.int))) { s2 with heap := s'.heap, gens := s'.gens, drawn := s'.drawn, toks := s'.toks } :=
        I3.call (ch := []) (Un.laid kk hp hnn) (I3.hok.laid kk hp ⟨hlen, out.toList, c', vals_of_ints hi', hg'⟩) (by rw [gg]; exact I3.bare) (fun _ z => nomatch z)
      have es : s' = { s2 with heap := s'.heap, gens := s'.gens, drawn := s'.drawn, toks := s'.toks } := by
        cases s'
        cases s2
        cases oo
        rfl
      rw [es]
      subst em
      exact ⟨.ref p, _, J, rfl, q1 p hnn⟩
    exact fin { s1 with heap := h', toks := tk } _ I2 R1
end
end Ev
end

section
set_option Elab.async false
set_option linter.all false
set_option maxRecDepth 100000
set_option maxHeartbeats 4000000
/-! E8: iterators, targets, comprehensions -/
namespace Ev
open PySem PySem.Spec PyProof.Rows L2

/-! ### iterators -/
def rdI (g : Gc) (W : WX) (t : TD Itm) : TI := fun σ H R => ∃ F f Rs ρ S, Sm g F f Rs S H ∧ En g F f ρ σ ∧
  Sat g F f Rs (fun C d H' => W C d σ H') (t ρ S) fun w F' f' S' H' => ∀ J, ItR g F' f' J w → R J H'
section
variable {X : Cx} {g : Gc} {W : WX} {a b c tg : Expr} {ta tb tc : TD Val} {pos p tpos : Pos} {elts : List Expr} {kk : Nat}
theorem pi_seqD (hK : g.K = X.K) (ha : PE X a (rd g W ta)) : PI X tg a (rdI g W fun ρ S => (ta ρ S).bind seqI) := by
  refine ⟨fun pins s σ H R I ⟨F, f, Rs, ρ, S, sm, e, h⟩ => ?_⟩
  dsimp only at h
  cases eq : ta ρ S with
  | err x S1 =>
    rw [eq] at h
    exact (pi_list ha).run pins s σ H R I ⟨F, f, Rs, ρ, S, sm, e, by rw [eq]; exact h⟩
  | stuck => rw [eq] at h; exact h.elim
  | ok v S1 =>
    rw [eq] at h
    have h : Sat g F f Rs (fun C d H' => W C d σ H') (seqI v S1) fun w F' f' S' H' => ∀ J, ItR g F' f' J w → R J H' := h
    unfold seqI at h
    split at h
    · refine (pi_list ha).run pins s σ H R I ⟨F, f, Rs, ρ, S, sm, e, ?_⟩
      rw [eq]
      intro F' f' H' ex sm' x r
      cases r with
      | lst h1 h2 => exact ⟨_, rfl, ⟨_, .inl (Rd.sub sm'.le h1)⟩, hK ▸ h F' f' H' ex sm' _ (itr_list h1 h2)⟩
    · refine (pi_tup ha).run pins s σ H R I ⟨F, f, Rs, ρ, S, sm, e, ?_⟩
      rw [eq]
      intro F' f' H' ex sm' x r
      cases r with
      | tup h1 h2 => exact ⟨_, rfl, ⟨_, hK ▸ SqT.sub sm'.le h1⟩, hK ▸ h F' f' H' ex sm' _ (itr_tup h1 h2)⟩
    · refine (pi_str ha).run pins s σ H R I ⟨F, f, Rs, ρ, S, sm, e, ?_⟩
      rw [eq]
      intro F' f' H' ex sm' x r
      cases r with
      | str z => exact ⟨_, rfl, h F' f' H' ex sm' _ itr_str⟩
    · split at h
      · rename_i ds hS
        refine (pi_list ha).run pins s σ H R I ⟨F, f, Rs, ρ, S, sm, e, ?_⟩
        rw [eq]
        intro F' f' H' ex sm' x r
        obtain ⟨a', q1, rfl⟩ := r
        obtain ⟨a2, ys, z1, z2, z3⟩ := sm'.getL hS
        rw [q1] at z1; cases z1
        exact ⟨_, rfl, ⟨ys, .inl (.inl z2)⟩, hK ▸ h F' f' H' ex sm' _ (itr_loc q1)⟩
      · exact h.elim
    · exact h.elim
theorem pi_rng1 (hg : Gl X "range") (hm : X.mg "range" = none) (ha : PE X a (rd g W ta)) (hs : nstar a = true) : PI X tg (.Call (.Name "range" p) [a] [] pos) (rdI g W fun ρ S => (ta ρ S).bind rng1I) := by
  refine ⟨fun pins s σ H R I ⟨F, f, Rs, ρ, S, sm, e, h⟩ => ?_⟩
  refine (pi_range1 hg hm (pa_cons ha pa_nil (star_cons hs)) (star_cons hs)).run pins s σ H R I (rd_bind sm e h fun v F1 f1 S1 H1 x e1 s1 en1 r1 h1 => ?_)
  unfold rng1I at h1
  split at h1
  · split at h1
    · rename_i hb
      cases r1
      exact ⟨_, rfl, hb.1, hb.2, h1.ok s1 _ itr_rng⟩
    · exact h1.elim
  · exact h1.elim
theorem pi_rng2 (hg : Gl X "range") (hm : X.mg "range" = none) (ha : PE X a (rd g W ta)) (hb : PE X b (rd g W tb)) (hs : nstar a = true) (hs2 : nstar b = true) : PI X tg (.Call (.Name "range" p) [a, b] [] pos) (rdI g W fun ρ S => (ta ρ S).bind fun v S1 => (tb ρ S1).bind fun u S2 => rng2I v u S2) := by
  refine ⟨fun pins s σ H R I ⟨F, f, Rs, ρ, S, sm, e, h⟩ => ?_⟩
  refine (pi_range2 hg hm (pa_cons ha (pa_cons hb pa_nil (star_cons hs2)) (star_cons hs)) ((star_cons hs).trans (by rw [star_cons hs2] <;> rfl)) (star_cons hs2)).run pins s σ H R I
    (rd_bind sm e h fun v F1 f1 S1 H1 x e1 s1 en1 r1 h1 => rd_bind s1 en1 h1 fun u F2 f2 S2 H2 y e2 s2 en2 r2 h2 => ?_)
  unfold rng2I at h2
  split at h2
  · split at h2
    · rename_i hb
      cases r1
      cases r2
      exact ⟨_, _, rfl, hb, h2.ok s2 _ itr_rng⟩
    · exact h2.elim
  · exact h2.elim
theorem pi_rng3 (hg : Gl X "range") (hm : X.mg "range" = none) (ha : PE X a (rd g W ta)) (hb : PE X b (rd g W tb)) (hc : PE X c (rd g W tc)) (hs : nstar a = true) (hs2 : nstar b = true) (hs3 : nstar c = true) :
    PI X tg (.Call (.Name "range" p) [a, b, c] [] pos) (rdI g W fun ρ S => (ta ρ S).bind fun v S1 => (tb ρ S1).bind fun u S2 => (tc ρ S2).bind fun w S3 => rng3I v u w S3) := by
  refine ⟨fun pins s σ H R I ⟨F, f, Rs, ρ, S, sm, e, h⟩ => ?_⟩
  refine (pi_range3 hg hm (pa_cons ha (pa_cons hb (pa_cons hc pa_nil (star_cons hs3)) (star_cons hs2)) (star_cons hs)) (star_cons hs) (star_any (by simp [hs2, hs3]))).run pins s σ H R I
    (rd_bind sm e h fun v F1 f1 S1 H1 x e1 s1 en1 r1 h1 => rd_bind s1 en1 h1 fun u F2 f2 S2 H2 y e2 s2 en2 r2 h2 => rd_bind s2 en2 h2 fun w F3 f3 S3 H3 z e3 s3 en3 r3 h3 => ?_)
  unfold rng3I at h3
  split at h3
  · split at h3
    · rename_i hb
      cases r1
      cases r2
      cases r3
      obtain ⟨rfl, b1, b2, b3, b4⟩ := hb
      exact ⟨_, _, _, _, rfl, RgC.neg b1 b2 b3 b4, h3.ok s3 _ itr_down⟩
    · exact h3.elim
  · exact h3.elim
theorem pi_zipD (hK : g.K = X.K) (hg : Gl X "zip") (hm : X.mg "zip" = none) (ha : PE X a (rd g W ta)) (hb : PE X b (rd g W tb)) (hs : nstar a = true) (hs2 : nstar b = true) :
    PI X (.Tuple elts kk tpos) (.Call (.Name "zip" p) [a, b] [] pos) (rdI g W fun ρ S => (ta ρ S).bind fun v S1 => (tb ρ S1).bind fun u S2 => zipI v u S2) := by
  refine ⟨fun pins s σ H R I ⟨F, f, Rs, ρ, S, sm, e, h⟩ => ?_⟩
  refine (RZ.pi_zipA hg hm (pa_cons ha (pa_cons hb pa_nil (star_cons hs2)) (star_cons hs)) (star_cons hs) (star_any (by simp [hs2]))).run pins s σ H R I
    (rd_bind sm e h fun v F1 f1 S1 H1 x e1 s1 en1 r1 h1 => rd_bind s1 en1 h1 fun u F2 f2 S2 H2 y e2 s2 en2 r2 h2 => ?_)
  unfold zipI at h2
  split at h2
  · have r1 := r1.sub e2
    cases r1 with
    | lst h1 t1 =>
      cases r2 with
      | lst h3 t3 => exact ⟨_, _, _, _, rfl, .inl ⟨.inl (Rd.sub s2.le h1), .inl (Rd.sub s2.le h3), hK ▸ h2.ok s2 _ (itr_zipL h1 t1 h3 t3)⟩⟩
  · have r1 := r1.sub e2
    cases r1 with
    | tup h1 t1 =>
      cases r2 with
      | tup h3 t3 => exact ⟨_, _, _, _, rfl, .inr ⟨hK ▸ SqT.sub s2.le h1, hK ▸ SqT.sub s2.le h3, hK ▸ h2.ok s2 _ (itr_zipT h1 t1 h3 t3)⟩⟩
  · exact h2.elim
theorem pi_enumD (hK : g.K = X.K) (hg : Gl X "enumerate") (hm : X.mg "enumerate" = none) (ha : PE X a (rd g W ta)) (hs : nstar a = true) :
    PI X (.Tuple elts kk tpos) (.Call (.Name "enumerate" p) [a] [] pos) (rdI g W fun ρ S => (ta ρ S).bind enumI) := by
  refine ⟨fun pins s σ H R I ⟨F, f, Rs, ρ, S, sm, e, h⟩ => ?_⟩
  refine (pi_enumT hg hm (pa_cons ha pa_nil (star_cons hs)) (star_cons hs)).run pins s σ H R I (rd_bind sm e h fun v F1 f1 S1 H1 x e1 s1 en1 r1 h1 => ?_)
  unfold enumI at h1
  split at h1
  · cases r1 with
    | lst h2 t2 => exact ⟨_, _, rfl, .inl ⟨Rd.sub s1.le h2, hK ▸ h1.ok s1 _ (itr_enumL h2 t2)⟩⟩
  · cases r1 with
    | tup h2 t2 => exact ⟨_, _, rfl, .inr ⟨hK ▸ SqT.sub s1.le h2, hK ▸ h1.ok s1 _ (itr_enumT h2 t2)⟩⟩
  · exact h1.elim
end

/-! ### targets -/
def Tg.ix : Tg → List Nat
  | .nm i => [i]
  | .tup is => is
  | .nest i is => i :: is
theorem wipe_set {σ : L2.St} {i : Nat} {x : Option V} : ∀ {vs : List Nat}, i ∈ vs → wipe (σ.set i x) vs = wipe σ vs
  | v :: vs, h => by
    by_cases hv : v = i
    · subst hv
      by_cases hm : v ∈ vs
      · unfold wipe
        rw [wipe_set hm]
      · unfold wipe
        have : ∀ ws : List Nat, v ∉ ws → wipe (σ.set v x) ws = (wipe σ ws).set v x := by
          intro ws
          induction ws with
          | nil => intro _; rfl
          | cons w ws ih =>
            intro hw
            unfold wipe
            rw [ih (fun z => hw (List.mem_cons_of_mem _ z)), List.set_comm _ _ (fun z => hw (by rw [z]; exact List.mem_cons_self))]
        rw [this vs hm, List.set_set]
    · unfold wipe
      rw [wipe_set ((List.mem_cons.mp h).resolve_left (Ne.symm hv))]
theorem wipe_wipe {σ : L2.St} : ∀ (ws vs : List Nat), (∀ w ∈ ws, w ∈ vs) → wipe (wipe σ ws) vs = wipe σ vs
  | [], vs, _ => rfl
  | w :: ws, vs, h => by
    show wipe ((wipe σ ws).set w none) vs = wipe σ vs
    rw [wipe_set (h w List.mem_cons_self)]
    exact wipe_wipe ws vs fun x hx => h x (List.mem_cons_of_mem _ hx)
theorem En.wipes {g : Gc} {F : Hp} {f : List Addr} {ρ : EnvD} {σ : L2.St} (h : En g F f ρ σ) : ∀ vs : List Nat, En g F f (wipeD ρ vs) (L2.wipe σ vs)
  | [] => h
  | v :: vs => (En.wipes h vs).wipe v
/-- a target's reading serves its meaning -/
def TgR (g : Gc) (tg : Tg) (G : TG) : Prop := ∀ (F : Hp) (f : List Addr) (R : Rs) (S : Store) (H : Hp) (σ : L2.St) (ρ ρ1 : EnvD) (x : V) (v : Val) (Q : L2.St → Hp → Prop), Sm g F f R S H → En g F f ρ σ → VR g F f x v → tgt tg v ρ = some ρ1 →
  (∀ σ1, En g F f ρ1 σ1 → (∀ vs : List Nat, (∀ i ∈ tg.ix, i ∈ vs) → wipe σ1 vs = wipe σ vs) → Q σ1 H) → G x σ H Q
theorem tgr_nm {g : Gc} {i : Nat} : TgR g (.nm i) (gName i) := fun F f R S H σ ρ ρ1 x v Q s e r h q => by
  cases h
  exact q _ (e.set i r) fun vs hv => wipe_set (hv i (by simp [Tg.ix]))
def gNames : List Nat → TGs
  | [] => gNil
  | i :: is => gCons (gName i) (gNames is)
theorem names_set {g : Gc} {F : Hp} {f : List Addr} : ∀ {is : List Nat} {xs : List V} {ds : List PyData} {ρ : EnvD} {σ : L2.St} {H : Hp} {Q : L2.St → Hp → Prop}, xs.length = is.length → DaAll g.K F xs ds → En g F f ρ σ →
    (∀ σ1, En g F f (setAll is ds ρ) σ1 → (∀ vs : List Nat, (∀ i ∈ is, i ∈ vs) → wipe σ1 vs = wipe σ vs) → Q σ1 H) → gNames is xs σ H Q
  | [], [], _, ρ, σ, H, Q, _, t, e, q => ⟨rfl, q σ (by cases t; exact e) fun _ _ => rfl⟩
  | i :: is, x :: xs, _, ρ, σ, H, Q, hl, .cons h t, e, q => ⟨x, xs, rfl, names_set (is := is) (by simpa using hl) t (e.set i (v := .d _) h) fun σ1 e1 w1 => q σ1 e1 fun vs hv => by
      rw [w1 vs fun j hj => hv j (List.mem_cons_of_mem _ hj)]
      exact wipe_set (hv i List.mem_cons_self)⟩
theorem els_set {g : Gc} {F : Hp} {f : List Addr} : ∀ {is : List Nat} {xs : List V} {ds : List El} {ρ : EnvD} {σ : L2.St} {H : Hp} {Q : L2.St → Hp → Prop}, xs.length = is.length → ElRs g F f xs ds → En g F f ρ σ →
    (∀ σ1, En g F f (setEls is ds ρ) σ1 → (∀ vs : List Nat, (∀ i ∈ is, i ∈ vs) → wipe σ1 vs = wipe σ vs) → Q σ1 H) → gNames is xs σ H Q
  | [], [], _, ρ, σ, H, Q, _, t, e, q => ⟨rfl, q σ (by cases t; exact e) fun _ _ => rfl⟩
  | i :: is, x :: xs, _, ρ, σ, H, Q, hl, .cons h t, e, q => ⟨x, xs, rfl, els_set (is := is) (by simpa using hl) t (e.set i h.vr) fun σ1 e1 w1 => q σ1 e1 fun vs hv => by
      rw [w1 vs fun j hj => hv j (List.mem_cons_of_mem _ hj)]
      exact wipe_set (hv i List.mem_cons_self)⟩
theorem tgr_tup {g : Gc} {is : List Nat} : TgR g (.tup is) (gTup g.K is.length (gNames is)) := fun F f R S H σ ρ ρ1 x v Q s e r h q => by
  cases v with
  | d y =>
    cases y with
    | tuple ds =>
      dsimp only [tgt] at h
      split at h
      · rename_i hl
        cases h
        cases r with
        | tup h1 t => exact ⟨_, _, rfl, SqT.sub s.le h1, by rw [t.len]; exact hl, names_set (by rw [t.len]; exact hl) t e q⟩
      · cases h
    | _ => cases h
  | tp es =>
    dsimp only [tgt] at h
    split at h
    · rename_i hl
      cases h
      obtain ⟨a, xs, rfl, h1, t⟩ := r
      exact ⟨_, _, rfl, SqT.sub s.le h1, by rw [t.len]; exact hl, els_set (by rw [t.len]; exact hl) t e q⟩
    · cases h
  | _ => cases h
theorem tgr_nest {g : Gc} {i : Nat} {is : List Nat} : TgR g (.nest i is) (gTup g.K 2 (gCons (gName i) (gCons (gTup g.K is.length (gNames is)) gNil))) := fun F f R S H σ ρ ρ1 x v Q s e r h q => by
  unfold tgt at h
  split at h
  · first | (rename_i e1; cases e1; done) | (rename_i e1 _; cases e1; done) | (rename_i e1 _ _; cases e1; done)
  · first | (rename_i e1; cases e1; done) | (rename_i e1 _; cases e1; done) | (rename_i e1 _ _; cases e1; done)
  · first | (rename_i e1; cases e1; done) | (rename_i e1 _; cases e1; done) | (rename_i e1 _ _; cases e1; done)
  · rename_i i' is' y ds e1
    cases e1
    split at h
    · rename_i hl
      cases h
      cases r with
      | tup h1 t =>
        cases t with
        | cons ha t2 =>
          cases t2 with
          | cons hb t3 =>
            cases t3
            cases hb with
            | tup h2 t4 =>
              refine ⟨_, _, rfl, SqT.sub s.le h1, rfl, _, _, rfl, _, _, rfl, _, _, rfl, SqT.sub s.le h2, by rw [t4.len]; exact hl, ?_⟩
              refine names_set (by rw [t4.len]; exact hl) t4 (e.set i (v := .d _) ha) fun σ1 e1 w1 => ⟨rfl, q σ1 e1 fun vs hv => ?_⟩
              rw [w1 vs fun j hj => hv j (List.mem_cons_of_mem _ hj)]
              exact wipe_set (hv i List.mem_cons_self)
    · cases h
  · cases h
section
variable {X : Cx}
theorem hn_names : ∀ {es : List Expr} {env : Env}, es.all nstar = true → (assignEach es env).length = es.length ∧ (assignEach es env).findIdx? (·.1) = none
  | [], _, _ => ⟨rfl, rfl⟩
  | e :: es, env, h => by
    rw [List.all_cons, Bool.and_eq_true] at h
    obtain ⟨h1, h2⟩ := hn_names (es := es) (env := env) h.2
    rw [asg_cons h.1]
    refine ⟨by simp [h1], ?_⟩
    rw [List.findIdx?_cons]
    simp [h2]
end

/-! ### comprehensions -/
/-- the held object becomes a mutable one of the store -/
theorem Sm.loosen {g : Gc} {F : Hp} {f : List Addr} {R : Rs} {S : Store} {H : Hp} {p : Addr} {o : HO} {ob : Ob} (s : Sm g F f ((p, o) :: R) S H) (hR : ∀ q ∈ R, q.1 ≠ p) (ho : ObR g F ob (some o)) :
    Sm g F (f ++ [p]) R (S ++ [ob]) H ∧ Ext F f F (f ++ [p]) ∧ (f ++ [p])[S.length]? = some p := by
  obtain ⟨h1, n2, n1⟩ := s.res (p, o) List.mem_cons_self
  have pre : ∀ (n : Nat) (a : Addr), f[n]? = some a → (f ++ [p])[n]? = some a := fun n a e => by
    rw [List.getElem?_append_left (List.getElem?_eq_some_iff.mp e).1]; exact e
  refine ⟨⟨s.le, fun a ha => ?_, ?_, by simp [s.len], fun n ob' a q1 q2 => ?_, fun q hq => ?_⟩, ⟨fun _ _ h => h, pre⟩, by rw [s.len]; simp⟩
  · rcases List.mem_append.mp ha with h | h
    · exact s.nof a h
    · rw [List.mem_singleton.mp h]; exact n2
  · exact List.nodup_append.mpr ⟨s.nd, by simp, fun a ha b hb => by rw [List.mem_singleton.mp hb]; exact fun z => n1 (z ▸ ha)⟩
  · by_cases hn : n < S.length
    · rw [List.getElem?_append_left hn] at q1
      rw [List.getElem?_append_left (by rw [← s.len]; exact hn)] at q2
      exact s.st n ob' a q1 q2
    · have hn' : n = S.length := by
        have := (List.getElem?_eq_some_iff.mp q1).1
        simp at this; omega
      subst hn'
      rw [List.getElem?_append_right (Nat.le_refl _)] at q1
      rw [s.len, List.getElem?_append_right (Nat.le_refl _)] at q2
      simp at q1 q2
      subst q1 q2
      rw [h1]; exact ho
  · obtain ⟨e1, e2, e3⟩ := s.res q (List.mem_cons_of_mem _ hq)
    exact ⟨e1, e2, fun z => (List.mem_append.mp z).elim e3 fun z => hR q hq (List.mem_singleton.mp z)⟩
abbrev W0 : WX := fun _ _ _ _ => False
theorem lc_rd {g : Gc} {W : WX} {m : Bool} {it : TD Itm} {own : List Nat} {tg : Tg} {G : TG} {cond : TD Bool} {elt : TD Val} {σ : L2.St} {H : Hp} {Q : VK} (hG : TgR g tg G) (hix : ∀ i ∈ tg.ix, i ∈ own)
    (h : rd g W (dLc m it own tg cond elt) σ H Q) : tLc (rdI g W it) G (rdT g W0 cond) (rd g W0 elt) own σ H Q := by
  obtain ⟨F, f, R, ρ, S, sm, e, h⟩ := h
  unfold dLc at h
  cases eq : it ρ S with
  | err x S1 => rw [eq] at h; exact h.elim
  | stuck => rw [eq] at h; exact h.elim
  | ok w S1 =>
    rw [eq] at h
    dsimp only at h
    cases eq2 : lcD w tg cond elt (wipeD ρ own) w.vs [] S1 with
    | err x S1 => rw [eq2] at h; exact h.elim
    | stuck => rw [eq2] at h; exact h.elim
    | ok xs Sf =>
      rw [eq2] at h
      dsimp only at h
      refine ⟨F, f, R, ρ, S, sm, e, ?_⟩
      rw [eq]
      intro F1 f1 H1 x1 sm1 J hJ D hD
      have hR : ∀ q ∈ R, q.1 ≠ D := fun q hq => ne_of_none (sm1.res q hq).1 hD
      refine ⟨fun i k H => k = w.vs.length - i ∧ i ≤ w.vs.length ∧ ∃ F2 f2 S2 acc accD, Ext F1 f1 F2 f2 ∧ Sm g F2 f2 ((D, .lst acc) :: R) S2 H ∧ DaAll g.K F2 acc accD ∧
          lcD w tg cond elt (wipeD ρ own) (w.vs.drop i) accD S2 = .ok xs Sf, ⟨w.vs.length, by simp, Nat.zero_le _, F1, f1, S1, [], [], Ext.refl _ _, sm1.hold hD, .nil, by simpa using eq2⟩, ?_⟩
      rintro i k H2 ⟨rfl, hi, F2, f2, S2, acc, accD, x2, sm2, t2, q2⟩
      by_cases hlt : i < w.vs.length
      · refine .inr ?_
        rw [List.drop_eq_getElem_cons hlt] at q2
        unfold lcD at q2
        split at q2
        · rename_i hck
          obtain ⟨j1, j2⟩ := hJ ((D, .lst acc) :: R) i F2 f2 S2 H2 x2 sm2 hck
          obtain ⟨go, yl⟩ := j1 w.vs[i] (List.getElem?_eq_getElem hlt)
          split at q2
          · rename_i ρ1 ht
            refine ⟨go, _, fun H' n' => ⟨w.vs.length - (i + 1), by omega, n'⟩, fun x H3 y3 => ?_⟩
            obtain ⟨F3, x3, sm3, r3⟩ := yl x H3 y3
            have e3 : En g F3 f2 (wipeD ρ own) (wipe σ own) := ((e.sub x1).sub (x2.trans x3)).wipes own
            refine hG F3 f2 _ S2 H3 _ _ ρ1 x _ _ sm3 e3 r3 ht fun σ1 e4 w4 => ⟨?_, ?_⟩
            · rw [w4 own hix]
              exact wipe_wipe own own fun _ h => h
            · cases eqc : cond ρ1 S2 with
              | err _ _ => rw [eqc] at q2; cases q2
              | stuck => rw [eqc] at q2; cases q2
              | ok b S4 =>
                rw [eqc] at q2
                refine ⟨F3, f2, _, ρ1, S2, sm3, e4, ?_⟩
                rw [eqc]
                rintro F4 f4 H4 x4 sm4 b' rfl
                cases b' with
                | false =>
                  dsimp only at q2
                  rw [if_neg (by decide)]
                  exact ⟨rfl, hlt, F4, f4, S4, acc, accD, x2.trans (x3.trans x4), sm4, DaAll.sub (x3.trans x4).le t2, q2⟩
                | true =>
                  dsimp only at q2
                  rw [if_pos rfl]
                  cases eqe : elt ρ1 S4 with
                  | err _ _ => rw [eqe] at q2; cases q2
                  | stuck => rw [eqe] at q2; cases q2
                  | ok v5 S5 =>
                    rw [eqe] at q2
                    cases v5 with
                    | loc _ => cases q2
                    | fn _ => cases q2
                    | tp _ => cases q2
                    | ls _ => cases q2
                    | d y5 =>
                      dsimp only at q2
                      split at q2
                      · rename_i hz
                        refine ⟨F4, f4, _, ρ1, S4, sm4, e4.sub x4, ?_⟩
                        rw [eqe]
                        intro F5 f5 H5 x5 sm5 y ry
                        have t5 : DaAll g.K F5 acc accD := DaAll.sub ((x3.trans x4).trans x5).le t2
                        refine ⟨acc, (sm5.res _ List.mem_cons_self).1, by rw [t5.len]; exact hz, ?_⟩
                        exact ⟨rfl, hlt, F5, f5, S5, acc ++ [y], accD ++ [y5], x2.trans ((x3.trans x4).trans x5), sm5.rehold hR, t5.append (.one ry), q2⟩
                      · cases q2
          · cases q2
        · cases q2
      · have ei : i = w.vs.length := by omega
        subst ei
        rw [List.drop_length] at q2
        unfold lcD at q2
        split at q2
        · rename_i hck
          obtain ⟨_, j2⟩ := hJ ((D, .lst acc) :: R) w.vs.length F2 f2 S2 H2 x2 sm2 hck
          cases q2
          refine .inl ⟨j2 (Nat.le_refl _), ?_⟩
          split at h
          · obtain ⟨sm3, x3, g3⟩ := sm2.loosen (ob := .lst xs) hR ⟨acc, rfl, t2⟩
            exact h F2 _ H2 ((x1.trans x2).trans x3) sm3 _ ⟨D, g3, rfl⟩
          · obtain ⟨sm3, x3⟩ := sm2.freeze hR
            exact h _ f2 H2 ((x1.trans x2).trans x3) sm3 _ (Da.lst (.inl upd_same) (DaAll.sub x3.le t2))
        · cases q2
section
variable {X : Cx} {g : Gc} {W : WX} {m : Bool} {it : TD Itm} {tgd : Tg} {G : TG} {cond : TD Bool} {td : TD Val} {elt tg iter : Expr} {ifs : List Expr} {scope : Scope} {own : List (Str × Nat)} {pos : Pos}
theorem pd_lc (hc : X.calm = true) (hN : X.N.Nodup) (hi : PI X tg iter (rdI g W it)) (ok : BlkOk X.N X.env.scope scope own) (hG : TgR g tgd G) (hix : ∀ i ∈ tgd.ix, i ∈ own.map (·.2))
    (hg : ∀ (s : Shared) (H : Hp) (C : Addr) (cl : List (Str × Addr)) (fp : List Addr), PG (X.blk s H scope (compEnvC scope cl C X.env) fp) tg G) (ht : ∀ (s : Shared) (H : Hp) (C : Addr) (cl : List (Str × Addr)) (fp : List Addr), PTs (X.blk s H scope (compEnvC scope cl C X.env) fp) ifs (rdT g W0 cond))
    (he : ∀ (s : Shared) (H : Hp) (C : Addr) (cl : List (Str × Addr)) (fp : List Addr), PE (X.blk s H scope (compEnvC scope cl C X.env) fp) elt (rd g W0 td)) (hs : ∀ x, foldedSetIterable iter X.env x = pure x) :
    PE X (.ListComp elt [⟨tg, iter, ifs, 0⟩] scope pos) (rd g W (dLc m it (own.map (·.2)) tgd cond td)) := (pe_lc hc hN hi ok hg ht he hs).imp fun σ H Q h => lc_rd hG hix h
theorem pts_nilD : PTs X [] (rdT g W fun _ S => .ok true S) := ⟨fun pins s σ H Q I ⟨F, f, R, ρ, S, sm, e, h⟩ => pts_nil.run pins s σ H Q I (h.ok sm true rfl)⟩
end
end Ev
end

section
set_option Elab.async false
set_option linter.all false
set_option maxRecDepth 100000
set_option maxHeartbeats 4000000
/-! E9: statements, keyword calls, defs -/
namespace Ev
open PySem PySem.Spec PyProof.Rows L2

def SatS (g : Gc) (F : Hp) (f : List Addr) (R : Rs) (W : WX) (o : SOut) (D : Ends) : Prop := match o with
  | .next ρ S => ∀ F' f' σ' H', Ext F f F' f' → Sm g F' f' R S H' → En g F' f' ρ σ' → D.nx σ' H'
  | .brk ρ S => ∀ F' f' σ' H', Ext F f F' f' → Sm g F' f' R S H' → En g F' f' ρ σ' → D.bk σ' H'
  | .cont ρ S => ∀ F' f' σ' H', Ext F f F' f' → Sm g F' f' R S H' → En g F' f' ρ σ' → D.ct σ' H'
  | .ret v S => ∀ F' f' H' x, Ext F f F' f' → Sm g F' f' R S H' → VR g F' f' x v → D.rt x H'
  | .err e ρ S => ∀ F' f' σ' H' C d, Ext F f F' f' → Sm g F' f' R S H' → En g F' f' ρ σ' → ErrR g F' e C d H' → W C d σ' H'
  | .stuck => False
section
variable {g : Gc} {F F' : Hp} {f f' : List Addr} {R : Rs} {W : WX} {D D' : Ends} {o : SOut}
theorem SatS.step (h : SatS g F f R W o D) (e : Ext F f F' f') : SatS g F' f' R W o D := by
  cases o with
  | next ρ S => exact fun F2 f2 σ2 H2 e2 s => h F2 f2 σ2 H2 (e.trans e2) s
  | brk ρ S => exact fun F2 f2 σ2 H2 e2 s => h F2 f2 σ2 H2 (e.trans e2) s
  | cont ρ S => exact fun F2 f2 σ2 H2 e2 s => h F2 f2 σ2 H2 (e.trans e2) s
  | ret v S => exact fun F2 f2 H2 x e2 s => h F2 f2 H2 x (e.trans e2) s
  | err x ρ S => exact fun F2 f2 σ2 H2 C d e2 s => h F2 f2 σ2 H2 C d (e.trans e2) s
  | stuck => exact h
theorem S_of {α : Type} {o : Out α} {ρ : EnvD} {σ : L2.St} {k : α → Store → SOut} (h : SatS g F f R W (o.s ρ k) D) (e : En g F f ρ σ) :
    Sat g F f R (fun C d H' => W C d σ H') o (fun a F' f' S' H' => SatS g F' f' R W (k a S') D) := by
  cases o with
  | ok a S => exact fun F2 f2 H2 e2 s => SatS.step h e2
  | err x S => exact fun F2 f2 H2 C d e2 s r => h F2 f2 σ H2 C d e2 s (e.sub e2) r
  | stuck => exact h
theorem SatS.nx {ρ : EnvD} {S : Store} {σ : L2.St} {H : Hp} (h : SatS g F f R W (.next ρ S) D) (s : Sm g F f R S H) (e : En g F f ρ σ) : D.nx σ H := h F f σ H (Ext.refl _ _) s e
end
def rdS (g : Gc) (W : WX) (t : SD) : TS := fun D σ H => ∃ F f R ρ S, Sm g F f R S H ∧ En g F f ρ σ ∧ SatS g F f R W (t ρ S) D
theorem rS {g : Gc} {W : WX} {α β : Type} {rel : Hp → List Addr → β → α → Prop} {t : TD α} {Q : β → Hp → Prop} {F : Hp} {f : List Addr} {R : Rs} {S : Store} {H : Hp} {ρ : EnvD} {σ : L2.St} {k : α → Store → SOut} {D : Ends}
    (s : Sm g F f R S H) (e : En g F f ρ σ) (h : SatS g F f R W ((t ρ S).s ρ k) D)
    (hk : ∀ v F' f' S' H' x, Ext F f F' f' → Sm g F' f' R S' H' → En g F' f' ρ σ → rel F' f' x v → SatS g F' f' R W (k v S') D → Q x H') : rdG g W rel t σ H Q := rd_of s e (S_of h e) hk
section
variable {X : Cx} {g : Gc} {W : WX} {e a b c : Expr} {te ta tb : TD Val} {tc : TD Bool} {pos : Pos} {st : Stmt} {rest sa sb : List Stmt} {t u : SD}
theorem ss_nil : PSs X [] (rdS g W fun ρ S => .next ρ S) := pss_nil.imp fun D σ H ⟨F, f, R, ρ, S, s, e, h⟩ => h.nx s e
theorem ss_cons (h1 : PS X st (rdS g W t)) (h2 : PSs X rest (rdS g W u)) : PSs X (st :: rest) (rdS g W fun ρ S => (t ρ S).seq u) := (pss_cons h1 h2).imp fun D σ H ⟨F, f, R, ρ, S, s, e, h⟩ => by
  refine ⟨F, f, R, ρ, S, s, e, ?_⟩
  dsimp only at h
  cases eq : t ρ S with
  | next ρ1 S1 =>
    rw [eq] at h
    exact fun F2 f2 σ2 H2 e2 s2 en2 => ⟨F2, f2, R, ρ1, S1, s2, en2, SatS.step (o := u ρ1 S1) h e2⟩
  | brk ρ1 S1 => rw [eq] at h; exact h
  | cont ρ1 S1 => rw [eq] at h; exact h
  | ret v S1 => rw [eq] at h; exact h
  | err x ρ1 S1 => rw [eq] at h; exact h
  | stuck => rw [eq] at h; exact h
theorem sd_ret (he : PE X e (rd g W te)) : PS X (.Return (some e) pos) (rdS g W fun ρ S => (te ρ S).s ρ fun v S1 => .ret v S1) := (ps_ret he).imp fun D σ H ⟨F, f, R, ρ, S, s, e, h⟩ =>
  rS s e h fun v F1 f1 S1 H1 x e1 s1 en1 r1 h1 => h1 F1 f1 H1 x (Ext.refl _ _) s1 r1
theorem sd_retN : PS X (.Return none pos) (rdS g W fun _ S => .ret (.d .none) S) := ps_retN.imp fun D σ H ⟨F, f, R, ρ, S, s, e, h⟩ => h F f H .non (Ext.refl _ _) s .non
theorem sd_if (hc : PT X c (rdT g W tc)) (ha : PSs X sa (rdS g W t)) (hb : PSs X sb (rdS g W u)) : PS X (.If c sa sb pos) (rdS g W fun ρ S => (tc ρ S).s ρ fun k S1 => if k = true then t ρ S1 else u ρ S1) :=
  (ps_if hc ha hb).imp fun D σ H ⟨F, f, R, ρ, S, s, e, h⟩ => rS s e h fun k F1 f1 S1 H1 x e1 s1 en1 r1 h1 => by
    subst r1
    by_cases hk : x = true
    · rw [if_pos hk] at h1 ⊢
      exact ⟨F1, f1, R, ρ, S1, s1, en1, h1⟩
    · rw [if_neg hk] at h1 ⊢
      exact ⟨F1, f1, R, ρ, S1, s1, en1, h1⟩
theorem sd_pass : PS X (.Pass pos) (rdS g W fun ρ S => .next ρ S) := ps_pass.imp fun D σ H ⟨F, f, R, ρ, S, s, e, h⟩ => h.nx s e
theorem sd_brk : PS X (.Break pos) (rdS g W fun ρ S => .brk ρ S) := ps_break.imp fun D σ H ⟨F, f, R, ρ, S, s, e, h⟩ => h F f σ H (Ext.refl _ _) s e
theorem sd_cnt : PS X (.Continue pos) (rdS g W fun ρ S => .cont ρ S) := ps_continue.imp fun D σ H ⟨F, f, R, ρ, S, s, e, h⟩ => h F f σ H (Ext.refl _ _) s e
theorem sd_never : PS X st (rdS g W fun _ _ => .stuck) := ps_never.imp fun D σ H ⟨F, f, R, ρ, S, s, e, h⟩ => h
theorem sd_expr (he : PE X e (rd g W te)) (hs : swapsWith e none pos.line X.env = pure false) : PS X (.Expr e pos) (rdS g W fun ρ S => (te ρ S).s ρ fun _ S1 => .next ρ S1) :=
  (ps_expr he hs).imp fun D σ H ⟨F, f, R, ρ, S, s, e, h⟩ => rS s e h fun v F1 f1 S1 H1 x e1 s1 en1 r1 h1 => h1.nx s1 en1
theorem sd_doc {x : Str} {j : Nat} {pos' : Pos} : PS X (.Expr (.Constant (.str x) j pos) pos') (rdS g W fun ρ S => .next ρ S) := ps_doc.imp fun D σ H ⟨F, f, R, ρ, S, s, e, h⟩ => h.nx s e
def asgD (t : Tg) (te : TD Val) : SD := fun ρ S => (te ρ S).s ρ fun v S1 => match tgt t v ρ with
  | some ρ1 => .next ρ1 S1
  | none => .stuck
theorem asg_rd {tg : Tg} {G : TG} (hG : TgR g tg G) {D : Ends} {σ : L2.St} {H : Hp} (h : rdS g W (asgD tg te) D σ H) : tAsg (rd g W te) G D σ H := by
  obtain ⟨F, f, R, ρ, S, s, e, h⟩ := h
  refine rS s e h fun v F1 f1 S1 H1 x e1 s1 en1 r1 h1 => ?_
  cases q : tgt tg v ρ with
  | none => rw [q] at h1; exact h1.elim
  | some ρ1 =>
    rw [q] at h1
    exact hG F1 f1 R S1 H1 σ ρ ρ1 x v _ s1 en1 r1 q fun σ1 e2 _ => h1.nx s1 e2
theorem sd_asg {tg : Expr} {tgd : Tg} {G : TG} (hG : TgR g tgd G) (he : PE X e (rd g W te)) (hg : PG X tg G) (hs : swapsWithSole [tg] e pos.line X.env = pure false) (hw : swappedStores [tg] e X.env = pure none) (hn : nstar tg = true) :
    PS X (.Assign [tg] e pos) (rdS g W (asgD tgd te)) := (ps_asg he hg hs hw (by rw [asg_cons hn]; rfl)).imp fun D σ H h => asg_rd hG h
theorem sd_set {i : Nat} {x : Str} {p' : Pos} (hN : X.N.Nodup) (hi : X.N[i]? = some x) (hx : Loc X.env.scope x) (he : PE X e (rd g W te)) (hs : swapsWith e (some (.Name x p')) pos.line X.env = pure false) (hf : X.fn x = true ∨ X.env.scope.names.lookup x = some .local) :
    PS X (.Assign [.Name x p'] e pos) (rdS g W (asgD (.nm i) te)) := (ps_set hN hi hx he hs hf).imp fun D σ H h => asg_rd tgr_nm h
theorem sd_setLc {i : Nat} {y : Str} {py spos : Pos} {m : Bool} {it : TD Itm} {tgd : Tg} {G : TG} {cond : TD Bool} {td : TD Val} {elt tg iter : Expr} {ifs : List Expr} {scope : Scope} {own : List (Str × Nat)}
    (hc : X.calm = true) (hN : X.N.Nodup) (hy : X.N[i]? = some y) (hyl : X.env.scope.names.lookup y = some .local)
    (hsw : swapsWith (.ListComp elt [⟨tg, iter, ifs, 0⟩] scope pos) (some (.Name y py)) spos.line X.env = pure true) (hi : PI X tg iter (rdI g W it)) (ok : BlkOk X.N X.env.scope scope own) (hG : TgR g tgd G) (hix : ∀ i ∈ tgd.ix, i ∈ own.map (·.2))
    (hg : ∀ (s : Shared) (H : Hp) (C : Addr) (cl : List (Str × Addr)) (fp : List Addr), PG (X.blk s H scope (compEnvC scope cl C X.env) fp) tg G) (ht : ∀ (s : Shared) (H : Hp) (C : Addr) (cl : List (Str × Addr)) (fp : List Addr), PTs (X.blk s H scope (compEnvC scope cl C X.env) fp) ifs (rdT g W0 cond))
    (he : ∀ (s : Shared) (H : Hp) (C : Addr) (cl : List (Str × Addr)) (fp : List Addr), PE (X.blk s H scope (compEnvC scope cl C X.env) fp) elt (rd g W0 td)) (hs : ∀ x, foldedSetIterable iter X.env x = pure x) :
    PS X (.Assign [.Name y py] (.ListComp elt [⟨tg, iter, ifs, 0⟩] scope pos) spos) (rdS g W (asgD (.nm i) (dLc m it (own.map (·.2)) tgd cond td))) :=
  (ps_setLc hc hN hy hyl hsw hi ok hg ht he hs).imp fun D σ H ⟨F, f, R, ρ, S, s, e, h⟩ => by
    have h2 := asg_rd (W := W) tgr_nm ⟨F, f, R, ρ, S, s, e, h⟩
    exact lc_rd hG hix h2
/-- a, b = x, y -/
def parS (is : List Nat) (t : TD (List Val)) : SD := fun ρ S => (t ρ S).s ρ fun vs S1 => if vs.length = is.length then .next (parD is vs ρ) S1 else .stuck
theorem sd_par {i j : Nat} {x y : Str} {t : TD (List Val)} {px py pt : Pos} {kt k2 pt2} (hc : X.calm = true) (hN : X.N.Nodup) (hi : X.N[i]? = some x) (hj : X.N[j]? = some y) (hij : i ≠ j)
    (hx : X.env.scope.names.lookup x = some .local) (hy : X.env.scope.names.lookup y = some .local) (ha : PA X [a, b] (rdA g W t))
    (hw : swappedStores [.Tuple [.Name x px, .Name y py] kt pt] (.Tuple [a, b] k2 pt2) X.env = pure (some [x, y])) :
    PS X (.Assign [.Tuple [.Name x px, .Name y py] kt pt] (.Tuple [a, b] k2 pt2) pos) (rdS g W (parS [i, j] t)) := (ps_par hc hN hi hj hij hx hy ha hw).imp fun D σ H ⟨F, f, R, ρ, S, s, e, h⟩ =>
  rS s e h fun vs F1 f1 S1 H1 xs e1 s1 en1 r1 h1 => by
    split at h1
    · cases r1 with
      | nil => rename_i hl; cases hl
      | cons p1 q1 => cases q1 with
        | nil => rename_i hl; cases hl
        | cons p2 q2 => cases q2 with
          | nil => exact ⟨_, _, rfl, h1.nx s1 ((en1.set i p1).set j p2)⟩
          | cons p3 q3 => rename_i hl; simp at hl
    · exact h1.elim
theorem sd_par3 {i j l : Nat} {x y z : Str} {t : TD (List Val)} {px py pz pt : Pos} {kt k2 pt2} (hc : X.calm = true) (hN : X.N.Nodup) (hi : X.N[i]? = some x) (hj : X.N[j]? = some y) (hl : X.N[l]? = some z) (hij : i ≠ j) (hil : i ≠ l) (hjl : j ≠ l)
    (hx : X.env.scope.names.lookup x = some .local) (hy : X.env.scope.names.lookup y = some .local) (hz : X.env.scope.names.lookup z = some .local) (ha : PA X [a, b, c] (rdA g W t))
    (hw : swappedStores [.Tuple [.Name x px, .Name y py, .Name z pz] kt pt] (.Tuple [a, b, c] k2 pt2) X.env = pure (some [x, y, z])) :
    PS X (.Assign [.Tuple [.Name x px, .Name y py, .Name z pz] kt pt] (.Tuple [a, b, c] k2 pt2) pos) (rdS g W (parS [i, j, l] t)) := (ps_par3 hc hN hi hj hl hij hil hjl hx hy hz ha hw).imp fun D σ H ⟨F, f, R, ρ, S, s, e, h⟩ =>
  rS s e h fun vs F1 f1 S1 H1 xs e1 s1 en1 r1 h1 => by
    split at h1
    · cases r1 with
      | nil => rename_i hl; cases hl
      | cons p1 q1 => cases q1 with
        | nil => rename_i hl; cases hl
        | cons p2 q2 => cases q2 with
          | nil => rename_i hl; cases hl
          | cons p3 q3 => cases q3 with
            | nil => exact ⟨_, _, _, rfl, h1.nx s1 (((en1.set i p1).set j p2).set l p3)⟩
            | cons p4 q4 => rename_i hl; simp at hl
    · exact h1.elim
/-- o[i] = e -/
def setS (te to ti : TD Val) : SD := fun ρ S => ((te ρ S).bind fun w S1 => (to ρ S1).bind fun v S2 => (ti ρ S2).bind fun u S3 => setV v u w S3).s ρ fun _ S4 => .next ρ S4
theorem Sat.sbind {α β : Type} {F : Hp} {f : List Addr} {R : Rs} {S : Store} {o : Out α} {φ : α → Store → Out β} {k : β → Store → SOut} {ρ : EnvD} {D : Ends} : SatS g F f R W ((o.bind φ).s ρ k) D → SatS g F f R W (o.s ρ fun a S => (φ a S).s ρ k) D := by
  intro h
  cases o with
  | ok a S => exact h
  | err x S => exact h
  | stuck => exact h
theorem sd_seti {o i : Expr} {to ti : TD Val} {p : Pos} (ho : PE X o (rd g W to)) (hi : PE X i (rd g W ti)) (he : PE X e (rd g W te)) (hs : swapsWithSole [.Subscript o i p] e pos.line X.env = pure false) (hw : swappedStores [.Subscript o i p] e X.env = pure none)
    (ha : ∀ v, assign (.Subscript o i p) X.env v = (do
      let ov ← holding [v] (eval o X.env)
      let iv ← holding [v, ov] (eval i X.env)
      standAt p
      holding [v, ov, iv] (setItem ov iv v)
      release [v, ov, iv] [])) : PS X (.Assign [.Subscript o i p] e pos) (rdS g W (setS te to ti)) :=
  (ps_asg he (pg_sub ho hi set_list ha) hs hw rfl).imp fun D σ H ⟨F, f, R, ρ, S, s, e, h⟩ => by
    refine rS s e (Sat.sbind (S := S) h) fun w F1 f1 S1 H1 z e1 s1 en1 r1 h1 => ?_
    refine rS s1 en1 (Sat.sbind (S := S) h1) fun v F2 f2 S2 H2 x e2 s2 en2 r2 h2 => ?_
    refine rS s2 en2 (Sat.sbind (S := S) h2) fun u F3 f3 S3 H3 y e3 s3 en3 r3 h3 => ?_
    exact real_set s3 (r2.sub e3) r3 ((r1.sub e2).sub e3) ((S_of h3 en3).imp fun _ F4 f4 S4 H4 e4 s4 _ h4 => h4.nx s4 (en3.sub e4))
/-! ### loops -/
theorem sd_for {tg iter : Expr} {tgd : Tg} {G : TG} {it : TD Itm} (hp : PassesOwn (model X.prog X.w) X.A X.env X.xe) (hc : X.calm = true) (hG : TgR g tgd G) (hi : PI X tg iter (rdI g W it)) (hg : PG X tg G) (hb : PSs X sa (rdS g W t))
    (hs : ∀ x, foldedSetIterable iter X.env x = pure x) : PS X (.For tg iter sa [] pos) (rdS g W fun ρ S => (it ρ S).s ρ fun w S1 => forD w tgd t w.vs ρ S1) :=
  (ps_for hp hc hi hg hb hs).imp fun D σ H ⟨F, f, R, ρ, S, s, e, h⟩ => by
    refine ⟨F, f, R, ρ, S, s, e, (S_of h e).imp fun w F1 f1 S1 H1 x1 s1 _ h1 J hJ => ?_⟩
    refine ⟨fun i k σ H => k = w.vs.length - i ∧ i ≤ w.vs.length ∧ ∃ F2 f2 S2 ρ2, Ext F1 f1 F2 f2 ∧ Sm g F2 f2 R S2 H ∧ En g F2 f2 ρ2 σ ∧ SatS g F2 f2 R W (forD w tgd t (w.vs.drop i) ρ2 S2) D,
      ⟨w.vs.length, by simp, Nat.zero_le _, F1, f1, S1, ρ, Ext.refl _ _, s1, e.sub x1, by simpa using h1⟩, ?_⟩
    rintro i k σ2 H2 ⟨rfl, hi', F2, f2, S2, ρ2, x2, s2, e2, q2⟩
    by_cases hlt : i < w.vs.length
    · refine .inr ?_
      rw [List.drop_eq_getElem_cons hlt] at q2
      unfold forD at q2
      split at q2
      · rename_i hck
        obtain ⟨j1, j2⟩ := hJ R i F2 f2 S2 H2 x2 s2 hck
        obtain ⟨go, yl⟩ := j1 w.vs[i] (List.getElem?_eq_getElem hlt)
        split at q2
        · rename_i ρ1 ht
          refine ⟨go, _, fun σ' H' n' => ⟨w.vs.length - (i + 1), by omega, n'⟩, fun x H3 y3 => ?_⟩
          obtain ⟨F3, x3, s3, r3⟩ := yl x H3 y3
          refine hG F3 f2 R S2 H3 _ _ ρ1 x _ _ s3 (e2.sub x3) r3 ht fun σ1 e4 _ => ⟨F3, f2, R, ρ1, S2, s3, e4, ?_⟩
          have nx : ∀ {ρ5 : EnvD} {S5 : Store}, SatS g F2 f2 R W (forD w tgd t (w.vs.drop (i + 1)) ρ5 S5) D → ∀ F' f' σ' H', Ext F3 f2 F' f' → Sm g F' f' R S5 H' → En g F' f' ρ5 σ' →
              w.vs.length - (i + 1) = w.vs.length - (i + 1) ∧ i + 1 ≤ w.vs.length ∧ ∃ F2 f2 S2 ρ2, Ext F1 f1 F2 f2 ∧ Sm g F2 f2 R S2 H' ∧ En g F2 f2 ρ2 σ' ∧ SatS g F2 f2 R W (forD w tgd t (w.vs.drop (i + 1)) ρ2 S2) D :=
            fun {ρ5 S5} q F' f' σ' H' x5 s5 e5 => ⟨rfl, hlt, F', f', S5, ρ5, x2.trans (x3.trans x5), s5, e5, q.step (x3.trans x5)⟩
          cases eqb : t ρ1 S2 with
          | next ρ5 S5 => rw [eqb] at q2; exact nx q2
          | cont ρ5 S5 => rw [eqb] at q2; exact nx q2
          | brk ρ5 S5 => rw [eqb] at q2; exact fun F' f' σ' H' x5 s5 e5 => q2 F' f' σ' H' (x3.trans x5) s5 e5
          | ret v S5 => rw [eqb] at q2; exact fun F' f' H' x x5 s5 r5 => q2 F' f' H' x (x3.trans x5) s5 r5
          | err v ρ5 S5 => rw [eqb] at q2; exact fun F' f' σ' H' C d x5 s5 e5 r5 => q2 F' f' σ' H' C d (x3.trans x5) s5 e5 r5
          | stuck => rw [eqb] at q2; exact q2
        · exact q2.elim
      · exact q2.elim
    · have ei : i = w.vs.length := by omega
      subst ei
      rw [List.drop_length] at q2
      unfold forD at q2
      split at q2
      · rename_i hck
        obtain ⟨_, j2⟩ := hJ R w.vs.length F2 f2 S2 H2 x2 s2 hck
        exact .inl ⟨j2 (Nat.le_refl _), q2.nx s2 e2⟩
      · exact q2.elim
theorem sd_whl {n : Nat} (hp : PassesOwn (model X.prog X.w) X.A X.env X.xe) (hc : PT X c (rdT g W tc)) (hb : PSs X sa (rdS g W t)) : PS X (.While c sa [] pos) (rdS g W fun ρ S => whlD tc t n ρ S) :=
  (ps_while hp hc hb).imp fun D σ H ⟨F, f, R, ρ, S, s, e, h⟩ => by
    refine ⟨fun m σ H => ∃ F f R ρ S, Sm g F f R S H ∧ En g F f ρ σ ∧ SatS g F f R W (whlD tc t m ρ S) D, ⟨n, F, f, R, ρ, S, s, e, h⟩, ?_⟩
    rintro m σ2 H2 ⟨F2, f2, R2, ρ2, S2, s2, e2, q2⟩
    cases m with
    | zero => exact q2.elim
    | succ m =>
      refine rS s2 e2 q2 fun k F3 f3 S3 H3 x e3 s3 en3 r3 h3 => ?_
      subst r3
      by_cases hk : x = true
      · rw [if_pos hk] at h3 ⊢
        refine ⟨_, fun σ' H' n' => ⟨m, Nat.lt_succ_self m, n'⟩, F3, f3, R2, ρ2, S3, s3, en3, ?_⟩
        cases eqb : t ρ2 S3 with
        | next ρ5 S5 => rw [eqb] at h3; exact fun F' f' σ' H' x5 s5 e5 => ⟨F', f', R2, ρ5, S5, s5, e5, SatS.step (o := whlD tc t m ρ5 S5) h3 x5⟩
        | cont ρ5 S5 => rw [eqb] at h3; exact fun F' f' σ' H' x5 s5 e5 => ⟨F', f', R2, ρ5, S5, s5, e5, SatS.step (o := whlD tc t m ρ5 S5) h3 x5⟩
        | brk ρ5 S5 => rw [eqb] at h3; exact h3
        | ret v S5 => rw [eqb] at h3; exact h3
        | err v ρ5 S5 => rw [eqb] at h3; exact h3
        | stuck => rw [eqb] at h3; exact h3
      · rw [if_neg hk] at h3 ⊢
        exact h3.nx s3 en3
end
/-! ### keyword calls -/
/-- how n positional values and keywords named ks are bound -/
def pickG {α : Type} (gs : List Nat) (l : List α) : Option (List α) := gs.mapM fun i => l[i]?
def KwB (K : PySem.W.Frag) (fd : FuncData) (ps : List Str) (n : Nat) (ks : List Str) (gs : List Nat) : Prop := ∀ (s : Shared) (us ws : List Value), K.In s.heap → us.length = n → ws.length = ks.length →
  ∃ zs, pickG gs (us ++ ws) = some zs ∧ BindsTo s fd ⟨us, ks.zip ws⟩ (ps.zip zs)
theorem pick_nil {α : Type} (l : List α) : pickG [] l = some [] := rfl
theorem pick_cons {α : Type} (i : Nat) (gs : List Nat) (l : List α) : pickG (i :: gs) l = (l[i]?).bind fun x => (pickG gs l).map (x :: ·) := by
  show List.mapM _ (i :: gs) = _
  rw [List.mapM_cons]
  cases l[i]? with
  | none => rfl
  | some x =>
    show (do let r ← List.mapM (fun i => l[i]?) gs; pure (x :: r)) = _
    cases h : List.mapM (fun i => l[i]?) gs with
    | none => simp [pickG, h]
    | some r => simp [pickG, h]
theorem pick_vrs {g : Gc} {F : Hp} {f : List Addr} {xs : List V} {vs : List Val} (r : VRs g F f xs vs) : ∀ {gs : List Nat} {ws : List Val}, pickG gs vs = some ws → ∃ ys, pickG gs xs = some ys ∧ VRs g F f ys ws
  | [], _, h => by cases h; exact ⟨[], rfl, .nil⟩
  | i :: gs, ws, h => by
    rw [pick_cons] at h
    cases e : vs[i]? with
    | none => rw [e] at h; cases h
    | some v =>
      rw [e] at h
      cases e2 : pickG gs vs with
      | none => rw [e2] at h; cases h
      | some l =>
        rw [e2] at h
        cases h
        obtain ⟨x, q1, q2⟩ := r.get e
        obtain ⟨ys, q3, q4⟩ := pick_vrs r e2
        exact ⟨x :: ys, by rw [pick_cons, q1, q3]; rfl, .cons q2 q4⟩
theorem pick_vals {xs : List V} {us : List Value} (r : Vals xs us) : ∀ {gs : List Nat} {ys : List V} {zs : List Value}, pickG gs xs = some ys → pickG gs us = some zs → Vals ys zs
  | [], _, _, h, h2 => by cases h; cases h2; exact .nil
  | i :: gs, ys, zs, h, h2 => by
    rw [pick_cons] at h h2
    cases e : xs[i]? with
    | none => rw [e] at h; cases h
    | some v =>
      obtain ⟨u, q1, q2⟩ := r.get e
      rw [e] at h; rw [q1] at h2
      cases e2 : pickG gs xs with
      | none => rw [e2] at h; cases h
      | some l =>
        cases e3 : pickG gs us with
        | none => rw [e3] at h2; cases h2
        | some l2 =>
          rw [e2] at h; rw [e3] at h2
          cases h; cases h2
          exact .cons q2 (pick_vals r e2 e3)
section
variable {X : Cx} {g : Gc} {W : WX} {a : Expr} {es : List Expr} {kws : List Keyword} {t tk : TD (List Val)} {pos p : Pos} {x : Str}
theorem pk_nilD : PK X [] (rdA g W fun _ S => .ok [] S) := ⟨fun pos pins s σ H Q I ⟨F, f, R, ρ, S, sm, e, h⟩ => pk_nil.run pos pins s σ H Q I (h.ok sm [] .nil)⟩
theorem pk_consD {ta : TD Val} {nm : Option Str} {kpos : Pos} (ha : PE X a (rd g W ta)) (hr : PK X kws (rdA g W t)) : PK X (⟨nm, a, kpos⟩ :: kws) (rdA g W (consD ta t)) :=
  ⟨fun pos pins s σ H Q I ⟨F, f, R, ρ, S, sm, e, h⟩ => (pk_cons ha hr).run pos pins s σ H Q I (rd_bind sm e h fun v F1 f1 S1 H1 x e1 s1 en1 r1 h1 => rd_bind s1 en1 h1 fun vs F2 f2 S2 H2 xs e2 s2 en2 r2 h2 => h2.ok s2 _ (.cons (r1.sub e2) r2))⟩
def kwNm : List Keyword → Option (List Str)
  | [] => some []
  | ⟨some n, _, _⟩ :: r => (kwNm r).map (n :: ·)
  | _ => none
theorem kw_facts {pos : Pos} {env : Env} : ∀ {kws : List Keyword} {ks : List Str}, kwNm kws = some ks → (backToKw pos (keywordEach kws env)).all (·.1.isSome) = true ∧ (backToKw pos (keywordEach kws env)).filterMap (·.1) = ks ∧
    (backToKw pos (keywordEach kws env)).any (·.1.isNone) = false
  | [], _, h => by cases h; exact ⟨rfl, rfl, rfl⟩
  | ⟨none, _, _⟩ :: r, _, h => by cases h
  | ⟨some n, v, q⟩ :: r, ks, h => by
    unfold kwNm at h
    cases e : kwNm r with
    | none => rw [e] at h; cases h
    | some l =>
      rw [e] at h
      cases h
      obtain ⟨h1, h2, h3⟩ := kw_facts (pos := pos) (env := env) e
      refine ⟨h1, ?_, h3⟩
      show List.filterMap _ (_ :: _) = _
      rw [List.filterMap_cons]
      show n :: _ = _
      exact congrArg _ h2
theorem run_fnGK {k n : Nat} {fa : Addr} {fd : FuncData} {ps ks : List Str} {gs : List Nat} {sp : Sp} {E : L2.St → XK} {pins : List (Addr × Obj)} {σ : L2.St} {H : Hp} {s : Shared} {Q : VK} {us ws : List Value} {vs zs ys : List V} (Fn : FnG X.prog X.w X.K X.mg X.base k fa fd ps sp)
    (hr : Room k X.A) (hgd : X.A.guards = some []) (hb : KwB X.K fd ps n ks gs) (hx : PassesAt (L2.CX X.prog X.w) X σ (E σ)) (l1 : us.length = n) (l2 : ws.length = ks.length)
    (I : Inv X pins σ H s) (r : Vals vs us) (rz : Vals zs ws) (hy : pickG gs (vs ++ zs) = some ys) (h : sp ys H Q (E σ)) : wpAny (model X.prog X.w) X.A (call (.ref fa) us (ks.zip ws)) (EP X pins σ Q) X.xe s := by
  obtain ⟨qs, q1, b⟩ := hb s us ws I.kIn l1 l2
  have r2 : Vals ys qs := pick_vals (r.append rz) hy q1
  refine wpAny_call (codeAny_mono (Fn.run X.A X.stack s H ⟨us, ks.zip ws⟩ qs ys Q (E σ) hr hgd I.env0 b r2 h) fun r s' hq => ?_)
  cases r with
  | error e => exact hx pins H s e s' I hq
  | ok fl =>
    cases fl with
    | ret u => exact I.after hq
    | next => exact False.elim hq
    | brk => exact False.elim hq
    | cont => exact False.elim hq
variable {C : Calls} {k n m : Nat} {fa : Addr} {fd : FuncData} {ps ks : List Str} {gs : List Nat}
theorem kall_rd {ρ : EnvD} {S : Store} {σ : L2.St} {H : Hp} {Q : VK} {F : Hp} {f : List Addr} {R : Rs} (hl : gs.length = ps.length) (ht : ∀ ρ S vs S', t ρ S = .ok vs S' → vs.length = m) (htk : ∀ ρ S vs S', tk ρ S = .ok vs S' → vs.length = ks.length)
    (sm : Sm g F f R S H) (e : En g F f ρ σ) (h : Sat g F f R (fun C d H' => W C d σ H') (dKall C k gs t tk ρ S) fun v F' f' S' H' => ∀ x, VR g F' f' x v → Q x H') :
    rdA g W t σ H fun vs H1 => vs.length = m ∧ rdA g W tk σ H1 fun zs H2 => zs.length = ks.length ∧ ∃ ys, pickG gs (vs ++ zs) = some ys ∧ spD g C k ps.length ys H2 Q (WE W σ) := by
  refine ⟨F, f, R, ρ, S, sm, e, h.bind.imp fun vs F1 f1 S1 H1 e1 s1 h1 q xs rx => ⟨by rw [rx.len]; exact ht _ _ _ _ h1, F1, f1, R, ρ, S1, s1, e.sub e1, q.bind.imp fun us F2 f2 S2 H2 e2 s2 h2 q2 zs rz => ⟨by rw [rz.len]; exact htk _ _ _ _ h2, ?_⟩⟩⟩
  cases hp : pick gs (vs ++ us) with
  | none => rw [hp] at q2; exact q2.elim
  | some ws =>
    rw [hp] at q2
    obtain ⟨ys, q3, q4⟩ := pick_vrs ((rx.sub e2).append rz) hp
    have pl : ∀ {gs : List Nat} {ws : List Val}, pickG gs (vs ++ us) = some ws → ws.length = gs.length := by
      intro gs
      induction gs with
      | nil => intro ws h; cases h; rfl
      | cons i gs ih =>
        intro ws h
        rw [pick_cons] at h
        cases e : (vs ++ us)[i]? with
        | none => rw [e] at h; cases h
        | some v =>
          rw [e] at h
          cases e2 : pickG gs (vs ++ us) with
          | none => rw [e2] at h; cases h
          | some l => rw [e2] at h; cases h; simp [ih e2]
    exact ⟨ys, q3, F2, f2, R, S2, ws, s2, q4, (pl hp).trans hl, q2⟩
theorem pd_kall (Fn : FnG X.prog X.w X.K X.mg X.base n fa fd ps (spD g C k ps.length)) (hr : Room n X.A) (hgd : X.A.guards = some []) (hg : Gl X x) (hm : X.mg x = some (.ref fa))
    (hk : PySem.W.keepIn X.K (.ref fa) = true) (hb : KwB X.K fd ps m ks gs) (tke : Takes X W) (ha : PA X (a :: es) (rdA g W t)) (hkw : PK X kws (rdA g W tk)) (hl : gs.length = ps.length) (ht : ∀ ρ S vs S', t ρ S = .ok vs S' → vs.length = m) (htk : ∀ ρ S vs S', tk ρ S = .ok vs S' → vs.length = ks.length)
    (hn : kwNm kws = some ks) (hdb : (x == ("__debug__" : Str)) = false) (hs : (a :: es).all nstar = true) : PE X (.Call (.Name x p) (a :: es) kws pos) (rd g W (dKall C k gs t tk)) := by
  have hs0 := hs
  rw [List.all_cons, Bool.and_eq_true] at hs
  obtain ⟨k1, k2, k3⟩ := kw_facts (pos := pos) (env := X.env) hn
  refine ⟨fun pins s σ H Q I ⟨F, f, R, ρ, S, sm, e, h⟩ => ?_⟩
  have h2 := kall_rd hl ht htk sm e h
  refine wpAny_Call_Name_kw (ld_glob I hg hm ?_ hdb)
  refine PySem.W.callWith_KW (h₀ := X.base) I.ok.mod.kin hk k1 (thn (ha.run pos pins s σ H _ I h2) fun us s1 ⟨vs, H1, I1, r, l1, q⟩ => ?_) (by rw [star_any hs0, k3] <;> rfl) (star_cons hs.1)
  refine thn (hkw.run pos pins s1 σ H1 _ I1 q) fun ws s2 ⟨zs, H2, I2, rz, l2, ys, hy, q2⟩ => ⟨I2.kIn, ?_⟩
  rw [k2]
  exact run_fnGK (E := WE W) Fn hr hgd hb (passAt tke σ) (r.length.symm.trans l1) (rz.length.symm.trans l2) I2 r rz hy q2
theorem pd_kall0 (Fn : FnG X.prog X.w X.K X.mg X.base n fa fd ps (spD g C k ps.length)) (hr : Room n X.A) (hgd : X.A.guards = some []) (hg : Gl X x) (hm : X.mg x = some (.ref fa))
    (hk : PySem.W.keepIn X.K (.ref fa) = true) (hb : KwB X.K fd ps 0 ks gs) (tke : Takes X W) (hkw : PK X kws (rdA g W tk)) (hl : gs.length = ps.length) (htk : ∀ ρ S vs S', tk ρ S = .ok vs S' → vs.length = ks.length)
    (hn : kwNm kws = some ks) (hdb : (x == ("__debug__" : Str)) = false) : PE X (.Call (.Name x p) [] kws pos) (rd g W (dKall C k gs (fun _ S => .ok [] S) tk)) := by
  obtain ⟨k1, k2, k3⟩ := kw_facts (pos := pos) (env := X.env) hn
  refine ⟨fun pins s σ H Q I ⟨F, f, R, ρ, S, sm, e, h⟩ => ?_⟩
  have h2 := kall_rd (m := 0) hl (fun _ _ vs _ q => by cases q; rfl) htk sm e h
  refine wpAny_Call_Name_kw (ld_glob I hg hm ?_ hdb)
  refine PySem.W.callWith_KW0 (h₀ := X.base) I.ok.mod.kin hk k1 ?_ (by rw [k3] <;> rfl)
  have h3 : rdA g W tk σ H fun zs H2 => zs.length = ks.length ∧ ∃ ys, pickG gs ([] ++ zs) = some ys ∧ spD g C k ps.length ys H2 Q (WE W σ) := by
    obtain ⟨F2, f2, R2, ρ2, S2, sm2, e2, q⟩ := h2
    exact (q.ok sm2 [] .nil).2
  refine thn (hkw.run pos pins s σ H _ I h3) fun ws s2 ⟨zs, H2, I2, rz, l2, ys, hy, q2⟩ => ⟨I2.kIn, ?_⟩
  rw [k2]
  exact run_fnGK (E := WE W) (us := []) Fn hr hgd hb (passAt tke σ) rfl (rz.length.symm.trans l2) I2 .nil rz hy q2
end
/-! ### a def's body -/
theorem Sm.cut {g : Gc} {F : Hp} {f : List Addr} {R : Rs} {S : Store} {H : Hp} (s : Sm g F f R S H) (n : Nat) : Sm g F (f.take n) R (S.take n) H := by
  refine ⟨s.le, fun a ha => s.nof a (List.mem_of_mem_take ha), s.nd.sublist (List.take_sublist _ _), by simp [s.len], fun m ob a h1 h2 => ?_, fun q hq => let ⟨e1, e2, e3⟩ := s.res q hq; ⟨e1, e2, fun z => e3 (List.mem_of_mem_take z)⟩⟩
  rw [List.getElem?_take] at h1 h2
  split at h1
  · rename_i hm
    rw [if_pos hm] at h2
    exact s.st m ob a h1 h2
  · cases h1
theorem Ext.cut {F F' : Hp} {f f' : List Addr} (e : Ext F f F' f') : f'.take f.length = f := by
  refine List.ext_getElem? fun i => ?_
  rw [List.getElem?_take]
  split
  · rename_i h
    rw [e.pre i f[i] (List.getElem?_eq_getElem h), List.getElem?_eq_getElem h]
  · rename_i h
    rw [List.getElem?_eq_none (by omega)]
/-- all that was made since is frozen -/
theorem Sm.settle {g : Gc} {F : Hp} {f f0 : List Addr} {R : Rs} {S : Store} {H : Hp} (s : Sm g F f R S H) (n : Nat) (hf : f.take n = f0) (hn : n = f0.length) : ∃ F', (∀ b u, F b = some u → F' b = some u) ∧ Sm g F' f0 R (S.take n) H ∧
    ∀ m xs a, n ≤ m → S[m]? = some (.lst xs) → f[m]? = some a → Da g.K F' (.ref a) (.list xs) := by
  classical
  let F' : Hp := fun b => if b ∈ f.drop n then H b else F b
  have nin : ∀ b, b ∈ f.drop n → F b = none := fun b hb => s.nof b (List.mem_of_mem_drop hb)
  have ext : ∀ b u, F b = some u → F' b = some u := fun b u e => by
    show (if b ∈ f.drop n then H b else F b) = some u
    rw [if_neg fun z => by rw [nin b z] at e; cases e]
    exact e
  have dis : ∀ b ∈ f0, b ∉ f.drop n := fun b hb hd => by
    have nd := s.nd
    rw [← List.take_append_drop n f, hf] at nd
    exact (List.nodup_append.mp nd).2.2 b hb b hd rfl
  refine ⟨F', ext, ⟨fun a u e => ?_, fun a ha => ?_, ?_, ?_, fun m ob a h1 h2 => ?_, fun q hq => ?_⟩, fun m xs a hm h1 h2 => ?_⟩
  · have e : (if a ∈ f.drop n then H a else F a) = some u := e
    split at e
    · exact e
    · exact s.le a u e
  · show (if a ∈ f.drop n then H a else F a) = none
    rw [if_neg (dis a ha)]
    exact s.nof a (by rw [← hf] at ha; exact List.mem_of_mem_take ha)
  · rw [← hf]; exact s.nd.sublist (List.take_sublist _ _)
  · rw [← hf, List.length_take, List.length_take, s.len]
  · have q := (s.cut n).st m ob a h1 (by rw [hf]; exact h2)
    cases ob with
    | lst ds => obtain ⟨xs, q1, q2⟩ := q; exact ⟨xs, q1, DaAll.sub ext q2⟩
  · obtain ⟨e1, e2, e3⟩ := s.res q hq
    refine ⟨e1, ?_, fun z => e3 (by rw [← hf] at z; exact List.mem_of_mem_take z)⟩
    show (if q.1 ∈ f.drop n then H q.1 else F q.1) = none
    rw [if_neg fun z => e3 (List.mem_of_mem_drop z)]
    exact e2
  · obtain ⟨ys, q1, q2⟩ := s.st m _ a h1 h2
    refine .lst (.inl ?_) (DaAll.sub ext q2)
    show (if a ∈ f.drop n then H a else F a) = some _
    have hd : a ∈ f.drop n := by
      have : (f.drop n)[m - n]? = some a := by
        rw [List.getElem?_drop]
        rw [show n + (m - n) = m by omega]
        exact h2
      exact List.mem_of_getElem? this
    rw [if_pos hd]
    exact q1
theorem els_settle {g : Gc} {F F' : Hp} {f : List Addr} {S : Store} {n : Nat} (hF : ∀ b u, F b = some u → F' b = some u) (hd : ∀ m xs a, n ≤ m → S[m]? = some (.lst xs) → f[m]? = some a → Da g.K F' (.ref a) (.list xs)) :
    ∀ {es : List El} {xs : List V} {ds : List PyData}, ElRs g F f xs es → es.all (newEl n) = true → elsD S es = some ds → DaAll g.K F' xs ds
  | [], _, _, .nil, _, e => by cases e; exact .nil
  | .d x :: es, _, _, .cons r t, ha, e => by
    rw [List.all_cons, Bool.and_eq_true] at ha
    unfold elsD at e
    cases q : elsD S es with
    | none => rw [q] at e; cases e
    | some l => rw [q] at e; cases e; exact .cons (Da.sub hF r) (els_settle hF hd t ha.2 q)
  | .loc m :: es, _, _, .cons r t, ha, e => by
    rw [List.all_cons, Bool.and_eq_true] at ha
    unfold elsD at e
    split at e
    · rename_i zs hS
      cases q : elsD S es with
      | none => rw [q] at e; cases e
      | some l =>
        rw [q] at e; cases e
        obtain ⟨a, h1, rfl⟩ := r
        exact .cons (hd m _ a (of_decide_eq_true ha.1) hS h1) (els_settle hF hd t ha.2 q)
    · cases e
theorem old_loc {g : Gc} {F : Hp} {f : List Addr} {n m : Nat} : ∀ {es es' : List El} {xs : List V}, ElRs g F f xs es → es.all (newEl n) = true → oldLoc n es = some (m, es') → n ≤ m ∧ ∃ a, f[m]? = some a ∧ ∀ F' f', (∀ b u, F b = some u → F' b = some u) → f'[n]? = some a → ElRs g F' f' xs es'
  | [], _, _, _, _, e => by cases e
  | .d x :: es, _, _, .cons r t, ha, e => by
    rw [List.all_cons, Bool.and_eq_true] at ha
    unfold oldLoc at e
    cases q : oldLoc n es with
    | none => rw [q] at e; cases e
    | some p =>
      rw [q] at e
      cases e
      obtain ⟨h1, a, h2, h3⟩ := old_loc (m := p.1) (es' := p.2) t ha.2 q
      exact ⟨h1, a, h2, fun F' f' e1 e2 => .cons (v := .d x) (Da.sub e1 r) (h3 F' f' e1 e2)⟩
  | .loc k :: es, _, _, .cons r t, ha, e => by
    rw [List.all_cons, Bool.and_eq_true] at ha
    unfold oldLoc at e
    split at e
    · rename_i hz
      cases e
      obtain ⟨a, h1, rfl⟩ := r
      refine ⟨of_decide_eq_true ha.1, a, h1, fun F' f' e1 e2 => .cons (v := .loc n) ⟨a, e2, rfl⟩ (all_d t hz e1)⟩
    · cases e
  where all_d {F' : Hp} {f' : List Addr} : ∀ {es : List El} {xs : List V}, ElRs g F f xs es → allD es = true → (∀ b u, F b = some u → F' b = some u) → ElRs g F' f' xs es
    | [], _, .nil, _, _ => .nil
    | .d x :: es, _, .cons r t, h, e => .cons (v := .d x) (Da.sub e r) (all_d t (by simpa [allD] using h) e)
    | .loc _ :: _, _, _, h, _ => by simp [allD] at h
/-- one of the new ones stays, at the place behind the old ones -/
theorem Sm.keep1 {g : Gc} {F : Hp} {f f0 : List Addr} {R : Rs} {S : Store} {H : Hp} {m n : Nat} {a : Addr} {ob : Ob} (s : Sm g F f R S H) (hf : f.take n = f0) (hn : n = f0.length) (hm : n ≤ m) (hS : S[m]? = some ob) (ha : f[m]? = some a) :
    Sm g F (f0 ++ [a]) R (S.take n ++ [ob]) H ∧ (f0 ++ [a])[n]? = some a := by
  have s2 := s.cut n
  rw [hf] at s2
  have am : a ∈ f := List.mem_of_getElem? ha
  have an : a ∉ f0 := fun z => by
    rw [← hf] at z
    obtain ⟨j, hj, e⟩ := List.getElem_of_mem z
    rw [List.getElem_take] at e
    have hj2 : j < f.length := by simp at hj; omega
    have hj3 : j < n := by simp at hj; omega
    obtain ⟨h3, e3⟩ := List.getElem?_eq_some_iff.mp ha
    have := (List.getElem_inj s.nd).mp (e.trans e3.symm)
    omega
  refine ⟨⟨s.le, fun b hb => ?_, ?_, ?_, fun i ob' b z1 z2 => ?_, fun q hq => ?_⟩, by rw [hn]; simp⟩
  · rcases List.mem_append.mp hb with z | z
    · exact s2.nof b z
    · rw [List.mem_singleton.mp z]; exact s.nof a am
  · exact List.nodup_append.mpr ⟨s2.nd, by simp, fun b hb c hc => by rw [List.mem_singleton.mp hc]; exact fun z => an (z ▸ hb)⟩
  · rw [List.length_append, List.length_append, s2.len]; rfl
  · by_cases hi : i < f0.length
    · rw [List.getElem?_append_left (by rw [s2.len]; exact hi)] at z1
      rw [List.getElem?_append_left hi] at z2
      exact s2.st i ob' b z1 z2
    · rw [List.getElem?_append_right (by rw [s2.len]; omega), s2.len] at z1
      rw [List.getElem?_append_right (by omega)] at z2
      have hi0 : i - f0.length = 0 := by
        have := (List.getElem?_eq_some_iff.mp z2).1
        simp at this; omega
      rw [hi0] at z1 z2
      simp at z1 z2
      subst z1 z2
      exact s.st m _ _ hS ha
  · obtain ⟨e1, e2, e3⟩ := s.res q hq
    exact ⟨e1, e2, fun z => (List.mem_append.mp z).elim (fun z => by rw [← hf] at z; exact e3 (List.mem_of_mem_take z)) fun z => e3 (by rw [List.mem_singleton.mp z]; exact am)⟩
/-- the store behind a call -/
theorem back_of {mu : Bool} {g : Gc} {F F' : Hp} {f f' : List Addr} {R : Rs} {S S' : Store} {H' : Hp} {v : Val} {x : V} {W : WH} {Q : VK} (hl : S.length = f.length) (x1 : Ext F f F' f') (s : Sm g F' f' R S' H') (r : VR g F' f' x v)
    (h : Sat g F f R W (back mu S.length v S') fun v F' f' S' H' => ∀ x, VR g F' f' x v → Q x H') : Q x H' := by
  have s2 : Sm g F' f R (S'.take S.length) H' := by
    have := s.cut S.length
    rw [hl, x1.cut] at this
    rw [hl]; exact this
  have x2 : Ext F f F' f := ⟨x1.le, fun _ _ h => h⟩
  cases v with
  | d y => exact h F' f H' x2 s2 x r
  | fn k => exact h F' f H' x2 s2 x r
  | ls es => exact h.elim
  | tp es =>
    obtain ⟨a, xs, rfl, r1, r2⟩ := r
    unfold back at h
    dsimp only at h
    have fl : f'.take S.length = f := by rw [hl]; exact x1.cut
    split at h
    · rename_i hall
      split at h
      · split at h
        · rename_i m es' ho
          split at h
          · rename_i ob hS
            obtain ⟨hm, b, hb, hr⟩ := old_loc r2 hall ho
            obtain ⟨s3, e3⟩ := s.keep1 fl hl hm hS hb
            have x3 : Ext F f F' (f ++ [b]) := ⟨x1.le, fun n b e => by rw [List.getElem?_append_left (List.getElem?_eq_some_iff.mp e).1]; exact e⟩
            exact h F' (f ++ [b]) H' x3 s3 _ ⟨a, xs, rfl, r1, hr F' _ (fun _ _ z => z) e3⟩
          · exact h.elim
        · exact h.elim
      · split at h
        · rename_i ds hds
          obtain ⟨F2, q1, q2, q3⟩ := s.settle S.length fl hl
          exact h F2 f H' ⟨fun b u e => q1 b u (x1.le b u e), fun _ _ h => h⟩ q2 _ (Da.tup (SqT.sub q1 r1) (els_settle q1 q3 r2 hall hds))
        · exact h.elim
    · exact h.elim
  | loc m =>
    unfold back at h
    obtain ⟨a, q1, rfl⟩ := r
    dsimp only at h
    split at h
    · rename_i hm
      refine h F' f H' x2 s2 _ ⟨a, ?_, rfl⟩
      rw [← x1.cut, List.getElem?_take, if_pos (by omega)]
      exact q1
    · rename_i hm
      split at h
      · rename_i xs hS
        have fl : f'.take S.length = f := by rw [hl]; exact x1.cut
        have an : a ∉ f := fun ha => by
          rw [← fl] at ha
          obtain ⟨j, hj, e⟩ := List.getElem_of_mem ha
          rw [List.getElem_take] at e
          have hj2 : j < f'.length := by simp at hj; omega
          have hj3 : j < S.length := by simp at hj; omega
          obtain ⟨h3, e3⟩ := List.getElem?_eq_some_iff.mp q1
          have := (List.getElem_inj s.nd).mp (e.trans e3.symm)
          omega
        have am : a ∈ f' := List.mem_of_getElem? q1
        split at h
        rotate_left
        · obtain ⟨ys, hy1, hy2⟩ := s.st m _ a hS q1
          have fa : F' a = none := s.nof a am
          have x5 : ∀ b u, F' b = some u → upd F' a (.lst ys) b = some u := fun b u e => by rw [upd_ne (ne_of_none e fa)]; exact e
          have s5 : Sm g (upd F' a (.lst ys)) f R (S'.take S.length) H' := by
            refine ⟨fun b u e => ?_, fun b hb => ?_, s2.nd, s2.len, fun i ob b z1 z2 => ?_, fun q hq => ?_⟩
            · by_cases e2 : b = a
              · subst e2; rw [upd_same] at e; cases e; exact hy1
              · rw [upd_ne e2] at e; exact s.le b u e
            · rw [upd_ne (fun z => an (by rw [← z]; exact hb))]; exact s2.nof b hb
            · have z := s2.st i ob b z1 z2
              cases ob with
              | lst ds => obtain ⟨zs, w1, w2⟩ := z; exact ⟨zs, w1, DaAll.sub x5 w2⟩
            · obtain ⟨e1, e2, e3⟩ := s2.res q hq
              obtain ⟨_, _, e4⟩ := s.res q hq
              rw [upd_ne (fun z => e4 (by rw [z]; exact am))]
              exact ⟨e1, e2, e3⟩
          exact h _ f H' ⟨fun b u e => x5 b u (x1.le b u e), fun _ _ h => h⟩ s5 _ (Da.lst (.inl upd_same) (DaAll.sub x5 hy2))
        have s3 : Sm g F' (f ++ [a]) R (S'.take S.length ++ [.lst xs]) H' := by
          refine ⟨s.le, fun b hb => ?_, ?_, ?_, fun i ob' b z1 z2 => ?_, fun q hq => ?_⟩
          · rcases List.mem_append.mp hb with z | z
            · exact s2.nof b z
            · rw [List.mem_singleton.mp z]; exact s.nof a am
          · exact List.nodup_append.mpr ⟨s2.nd, by simp, fun b hb c hc => by rw [List.mem_singleton.mp hc]; exact fun z => an (z ▸ hb)⟩
          · rw [List.length_append, List.length_append, s2.len]; rfl
          · by_cases hi : i < f.length
            · rw [List.getElem?_append_left (by rw [s2.len]; exact hi)] at z1
              rw [List.getElem?_append_left hi] at z2
              exact s2.st i ob' b z1 z2
            · rw [List.getElem?_append_right (by rw [s2.len]; omega), s2.len] at z1
              rw [List.getElem?_append_right (by omega)] at z2
              have hi0 : i - f.length = 0 := by
                have := (List.getElem?_eq_some_iff.mp z2).1
                simp at this; omega
              rw [hi0] at z1 z2
              simp at z1 z2
              subst z1 z2
              exact s.st m (.lst xs) a hS q1
          · obtain ⟨e1, e2, e3⟩ := s.res q hq
            exact ⟨e1, e2, fun z => (List.mem_append.mp z).elim (fun z => by rw [← fl] at z; exact e3 (List.mem_of_mem_take z)) fun z => e3 (by rw [List.mem_singleton.mp z]; exact am)⟩
        have x3 : Ext F f F' (f ++ [a]) := ⟨x1.le, fun n b e => by rw [List.getElem?_append_left (List.getElem?_eq_some_iff.mp e).1]; exact e⟩
        exact h F' (f ++ [a]) H' x3 s3 _ ⟨a, by rw [hl]; simp, rfl⟩
      · exact h.elim
theorem body_of {mu : Bool} {g : Gc} {F : Hp} {f : List Addr} {R : Rs} {S : Store} {E : XK} {Q : VK} {o : SOut} (hl : S.length = f.length)
    (h : Sat g F f R (fun C d H' => E C d H') (ofS mu S.length o) fun v F' f' S' H' => ∀ x, VR g F' f' x v → Q x H') : SatS g F f R (fun c d _ H => E c d H) o { nx := fun _ H' => Q .non H', rt := Q } := by
  have s2 : ∀ {F' : Hp} {f' : List Addr} {S' : Store} {H' : Hp}, Ext F f F' f' → Sm g F' f' R S' H' → Sm g F' f R (S'.take S.length) H' := fun x1 s => by
    have := s.cut S.length
    rw [hl, x1.cut] at this
    rw [hl]; exact this
  cases o with
  | next ρ S' => exact fun F' f' σ' H' x1 s1 _ => h F' f H' ⟨x1.le, fun _ _ h => h⟩ (s2 x1 s1) .non .non
  | ret v S' => exact fun F' f' H' x x1 s1 r => back_of hl x1 s1 r h
  | brk ρ S' => exact h.elim
  | cont ρ S' => exact h.elim
  | err e ρ S' => exact fun F' f' σ' H' C d x1 s1 _ r => h F' f H' C d ⟨x1.le, fun _ _ h => h⟩ (s2 x1 s1) r
  | stuck => exact h.elim
theorem entry_en {g : Gc} {F : Hp} {f : List Addr} {N : List Str} {xs : List V} {vs : List Val} {np nn : Nat} (hN : N.length = nn) (r : VRs g F f xs vs) : En g F f (entry np nn vs) (L2.start N xs) := by
  unfold entry L2.start
  have hl := r.len
  refine ⟨by simp [hN, hl], fun i v q => ?_⟩
  by_cases hi : i < vs.length
  · rw [List.getElem?_append_left (by simpa using hi), List.getElem?_map] at q
    cases e : vs[i]? with
    | none => rw [e] at q; cases q
    | some w =>
      rw [e] at q
      cases q
      obtain ⟨x, q1, q2⟩ := r.get e
      exact ⟨x, by rw [List.getElem?_append_left (by simpa [hl] using hi), List.getElem?_map, q1]; rfl, q2⟩
  · rw [List.getElem?_append_right (by simpa using hi), List.getElem?_replicate] at q
    split at q <;> cases q
end Ev
end

section
set_option Elab.async false
set_option linter.all false
set_option maxRecDepth 100000
set_option maxHeartbeats 4000000
/-! E10: the checker of expressions and its soundness -/
namespace Ev
open PySem PySem.Spec PyProof.Rows L2

structure Dd where
  name : Str
  ps : List Str
structure Pg where
  defs : List Dd
  gl : List Str
  bl : List Str
  kws : List (Nat × Nat × List Str × List Nat)
/-- what stands around every body -/
structure Wo (P : Program) (w : World) (K : PySem.W.Frag) (mg : Str → Option Value) (base : Heap) (A : Around) (g : Gc) (pr : Pg) (Gl : List PyData) (C : Calls) (n : Nat) : Prop where
  hK : g.K = K
  sy : SysK K
  rm : Room n A
  gd : A.guards = some []
  gl : ∀ (k : Nat) (x : Str), pr.gl[k]? = some x → ∃ d v u, Gl[k]? = some d ∧ mg x = some u ∧ RelV v u ∧ ∀ F, Da g.K F v d
  bl : ∀ x ∈ pr.bl, mg x = none
  fn : ∀ (k : Nat) (dd : Dd), pr.defs[k]? = some dd → mg dd.name = some (.ref (g.ad k)) ∧ PySem.W.keepIn K (.ref (g.ad k)) = true ∧
    ∃ fd, FnG P w K mg base n (g.ad k) fd dd.ps (spD g C k dd.ps.length) ∧ L2.Binds K fd dd.ps [] ∧ ∀ q ∈ pr.kws, q.1 = k → KwB K fd dd.ps q.2.1 q.2.2.1 q.2.2.2
/-- the context of a body or of a block -/
structure Cok (X : Cx) (g : Gc) (W : WX) (pr : Pg) (Gl : List PyData) (C : Calls) (n : Nat) (N : List Str) (sc : Scope) (cf : Str → Bool) : Prop where
  wo : Wo X.prog X.w X.K X.mg X.base X.A g pr Gl C n
  hN : X.N = N
  nd : N.Nodup
  hsc : X.env.scope = sc
  kd : sc.kind = .function
  calm : X.calm = true
  tk : Takes X W
  fn : ∀ x, cf x = true → X.fn x = true
def cfB (scope : Scope) (x : Str) : Bool := scope.names.lookup x == some .cell
theorem Cok.blk {X : Cx} {g : Gc} {W : WX} {pr : Pg} {Gl : List PyData} {C : Calls} {n : Nat} {N : List Str} {sc : Scope} {cf : Str → Bool} (c : Cok X g W pr Gl C n N sc cf) {scope : Scope} (hk : scope.kind = .function) (s : Shared) (H : Hp) (C' : Addr) (cl : List (Str × Addr)) (fp : List Addr) :
    Cok (X.blk s H scope (compEnvC scope cl C' X.env) fp) g W0 pr Gl C n N (relS scope sc) (cfB scope) :=
  ⟨c.wo, c.hN, c.nd, by rw [← c.hsc]; rfl, hk, c.calm, takes0, fun x h => h⟩

/-! ### the checker -/
def visB (sc : Scope) (x : Str) : Bool := match sc.names.lookup x with
  | some .local => true
  | some .cell => true
  | some .free => true
  | _ => false
def glB (sc : Scope) (x : Str) : Bool := decide (sc.names.lookup x = some .globalImplicit)
def okNm (x : Str) : Bool := !(x == ("__debug__" : Str)) && !(x == ("__classdict__" : Str)) && !decide (x = ("__name__" : Str))
def cstB : PyData → Const → Bool
  | .none, .none => true
  | .bool b, .bool c => b == c
  | .int i, .int j => decide (i = j)
  | .str x, .str y => decide (x = y)
  | _, _ => false
/-- a built-in function, or a type, by its name -/
def bltB (pr : Pg) (sc : Scope) (x : Str) (v : String) (ty : Bool) : Bool := glB sc x && okNm x && decide (x ∈ pr.bl) && (match bootBuiltins x with
  | some (.builtin y) => !ty && y == v
  | some (.type y) => ty && y == v
  | _ => false)
def BI.nm : BI → String
  | .len => "len" | .all => "all" | .any => "any" | .tuple => "tuple" | .list => "list" | .sum => "sum" | .abs => "abs" | .max2 => "max" | .min2 => "min" | .int => "int" | .strI => "str" | .divmod => "divmod" | .repr => "repr" | .ord => "ord" | .lenSet => "len" | .listM => "list" | .sortSet => "sorted"
def BI.ty : BI → Bool
  | .tuple => true | .list => true | .int => true | .strI => true | .listM => true | _ => false
def tgB (sc : Scope) (cf : Str → Bool) (N : List Str) (i : Nat) (e : Expr) : Bool := match e with
  | .Name x _ => decide (N[i]? = some x) && (decide (sc.names.lookup x = some .local) || (decide (sc.names.lookup x = some .cell) && cf x))
  | _ => false
def tgsB (sc : Scope) (cf : Str → Bool) (N : List Str) : List Nat → List Expr → Bool
  | [], [] => true
  | i :: is, e :: es => tgB sc cf N i e && tgsB sc cf N is es
  | _, _ => false
def ckTg (sc : Scope) (cf : Str → Bool) (N : List Str) (t : Tg) (e : Expr) : Bool := match t, e with
  | .nm i, e => tgB sc cf N i e
  | .tup is, .Tuple es _ _ => tgsB sc cf N is es
  | .nest i is, .Tuple [a, .Tuple es _ _] _ _ => tgB sc cf N i a && tgsB sc cf N is es
  | _, _ => false
def isTup : Expr → Bool
  | .Tuple _ _ _ => true
  | _ => false
def nset : Expr → Bool
  | .Set _ _ _ => false
  | _ => true
def nBI : BI → CEs → Bool
  | .lenSet, _ => false
  | .sortSet, _ => false
  | _, .nil => false
  | _, _ => true
def lenEs : CEs → Nat
  | .nil => 0
  | .cons _ r => lenEs r + 1
def nilEs : CEs → Bool
  | .nil => true
  | _ => false
/-- o.append's o is no call of super -/
def nsup : Expr → Bool
  | .Call (.Name _ _) [] [] _ => false
  | _ => true
def Me.nm : Me → Str
  | .append => "append" | .extend => "extend"
section
variable (pr : Pg)
mutual
def ckE (sc : Scope) (cf : Str → Bool) (N : List Str) : CE → Expr → Bool
  | .var i, e => match e with
    | .Name x _ => decide (N[i]? = some x) && visB sc x && okNm x
    | _ => false
  | .cst d, e => match e with
    | .Constant c _ _ => cstB d c
    | .UnaryOp .USub (.Constant (.int j) _ _) _ => match d with
      | .int i => decide (i = -j)
      | _ => false
    | .Dict [] [] _ => match d with
      | .dict [] => true
      | _ => false
    | _ => false
  | .glb k, e => match e with
    | .Name x _ => decide (pr.gl[k]? = some x) && glB sc x && okNm x
    | _ => false
  | .fnv k, e => match e with
    | .Name x _ => (match pr.defs[k]? with | some dd => decide (dd.name = x) | none => false) && glB sc x && okNm x
    | _ => false
  | .bin op a b, e => match e with
    | .BinOp a' op' b' _ => decide (op = op') && opOk op && ckE sc cf N a a' && ckE sc cf N b b'
    | _ => false
  | .cmp op a b, e => match e with
    | .Compare a' [op'] [b'] _ => decide (op = op') && nmark b' && ckE sc cf N a a' && ckE sc cf N b b'
    | _ => false
  | .chn o1 o2 a b c, e => match e with
    | .Compare a' [p1, p2] [b', c'] _ => decide (o1 = p1) && decide (o2 = p2) && nmark c' && ckE sc cf N a a' && ckE sc cf N b b' && ckE sc cf N c c'
    | _ => false
  | .and es, e => match e with
    | .BoolOp .And es' _ => !nilEs es && ckEs sc cf N es es'
    | _ => false
  | .or es, e => match e with
    | .BoolOp .Or es' _ => !nilEs es && ckEs sc cf N es es'
    | _ => false
  | .not a, e => match e with
    | .UnaryOp .Not a' _ => ckE sc cf N a a'
    | _ => false
  | .ife c a b, e => match e with
    | .IfExp c' a' b' _ => ckT sc cf N c c' && ckE sc cf N a a' && ckE sc cf N b b'
    | _ => false
  | .tup es, e => match e with
    | .Tuple es' _ _ => ckEs sc cf N es es'
    | _ => false
  | .lst _ es, e => match e with
    | .List es' _ => ckEs sc cf N es es'
    | _ => false
  | .idx a i, e => match e with
    | .Subscript a' i' _ => nslice i' && ckE sc cf N a a' && ckE sc cf N i i'
    | _ => false
  | .sli a lo hi, e => match e with
    | .Subscript a' (.Slice lo' hi' none _) _ => ckE sc cf N a a' && ckO sc cf N lo lo' && ckO sc cf N hi hi'
    | _ => false
  | .rev z a, e => match e with
    | .Subscript a' (.Slice none none (some (.UnaryOp .USub (.Constant (.int 1) _ _) _)) _) _ => !z && ckE sc cf N a a'
    | .Subscript a' (.Slice none (some (.Constant (.int 0) _ _)) (some (.UnaryOp .USub (.Constant (.int 1) _ _) _)) _) _ => z && ckE sc cf N a a'
    | _ => false
  | .call k es, e => match e with
    | .Call (.Name x _) es' [] _ => (match pr.defs[k]? with | some dd => decide (dd.name = x) && decide (dd.ps.length = lenEs es) | none => false) && glB sc x && okNm x && ckEs sc cf N es es'
    | _ => false
  | .kall k gs es ks, e => match e with
    | .Call (.Name x _) es' kws' _ => (match pr.defs[k]? with | some dd => decide (dd.name = x) && decide (dd.ps.length = gs.length) | none => false) && glB sc x && okNm x && ckEs sc cf N es es' && ckK sc cf N ks kws' &&
      (match kwNm kws' with | some nms => decide ((k, lenEs es, nms, gs) ∈ pr.kws) && decide (nms.length = lenEs ks) | none => false)
    | _ => false
  | .isi a t, e => match e with
    | .Call (.Name x _) [a', .Name y _] [] _ => bltB pr sc x "isinstance" false && bltB pr sc y t.name true && ckE sc cf N a a'
    | _ => false
  | .isi2 a ts, e => match e with
    | .Call (.Name x _) [a', .Tuple ys _ _] [] _ => bltB pr sc x "isinstance" false && tysB (fun y n => bltB pr sc y n true) ts ys && decide (ts ≠ [] ∧ ts.length ≤ 9) && ckE sc cf N a a'
    | _ => false
  | .sme m a es, e => match e with
    | .Call (.Attribute a' m' p) (b' :: es') [] q => decide (m' = m.nm) && nsup a' && (p.endLine == q.line) && decide (es'.length ≤ 3) && ckE sc cf N a a' && ckEs sc cf N es (b' :: es')
    | _ => false
  | .fst es, e => match e with
    | .JoinedStr (v1 :: v2 :: vs) _ => ckF sc cf N es (v1 :: v2 :: vs)
    | _ => false
  | .bi b es, e => match e with
    | .Call (.Name x _) [.Call (.Name y p2) [a'] [] q2] [] _ => (nBI b es && bltB pr sc x b.nm b.ty && ckEs sc cf N es [.Call (.Name y p2) [a'] [] q2]) || (decide (b = .lenSet ∨ b = .sortSet) && bltB pr sc x b.nm false && bltB pr sc y "set" true && ckEs sc cf N es [a'])
    | .Call (.Name x _) es' [] _ => nBI b es && bltB pr sc x b.nm b.ty && ckEs sc cf N es es'
    | _ => false
  | .meth m a es, e => match e with
    | .Call (.Attribute a' m' p) [b'] [] q => decide (m' = m.nm) && nsup a' && (p.endLine == q.line) && ckE sc cf N a a' && ckEs sc cf N es [b']
    | _ => false
  | .lc _ elt own tg it cond, e => match e with
    | .ListComp elt' [⟨tg', iter', ifs', 0⟩] scope _ => blkC N sc scope own && nset iter' && ckTg (relS scope sc) (cfB scope) N tg tg' && tg.ix.all (fun i => decide (i ∈ own.map (·.2))) && ckI sc cf N (isTup tg') it iter' && ckC (relS scope sc) (cfB scope) N cond ifs' && ckE (relS scope sc) (cfB scope) N elt elt'
    | _ => false
def ckEs (sc : Scope) (cf : Str → Bool) (N : List Str) : CEs → List Expr → Bool
  | .nil, es => es.isEmpty
  | .cons a r, es => match es with
    | e :: es => ckE sc cf N a e && ckEs sc cf N r es
    | [] => false
/-- the fields of an f-string -/
def ckF (sc : Scope) (cf : Str → Bool) (N : List Str) : CEs → List Expr → Bool
  | .nil, es => es.isEmpty
  | .cons a r, es => match es with
    | .FormattedValue e' cv none _ :: es => decide (cv = -1) && ckE sc cf N a e' && ckF sc cf N r es
    | .Constant (.str z) _ _ :: es => (match a with
      | .cst (.str y) => decide (y = z)
      | _ => false) && ckF sc cf N r es
    | _ => false
/-- the values of keywords -/
def ckK (sc : Scope) (cf : Str → Bool) (N : List Str) : CEs → List Keyword → Bool
  | .nil, es => es.isEmpty
  | .cons a r, es => match es with
    | ⟨_, e, _⟩ :: es => ckE sc cf N a e && ckK sc cf N r es
    | [] => false
def ckO (sc : Scope) (cf : Str → Bool) (N : List Str) : CO → Option Expr → Bool
  | .none, e => e.isNone
  | .some a, e => match e with
    | some e => ckE sc cf N a e
    | none => false
def ckC (sc : Scope) (cf : Str → Bool) (N : List Str) : CO → List Expr → Bool
  | .none, es => es.isEmpty
  | .some a, es => match es with
    | [e] => ckT sc cf N a e
    | _ => false
def ckI (sc : Scope) (cf : Str → Bool) (N : List Str) (tp : Bool) : CI → Expr → Bool
  | .seq a, e => ckE sc cf N a e
  | .rng1 a, e => match e with
    | .Call (.Name x _) [a'] [] _ => decide (x = ("range" : Str)) && bltB pr sc x "range" true && ckE sc cf N a a'
    | _ => false
  | .rng2 a b, e => match e with
    | .Call (.Name x _) [a', b'] [] _ => decide (x = ("range" : Str)) && bltB pr sc x "range" true && ckE sc cf N a a' && ckE sc cf N b b'
    | _ => false
  | .rng3 a b c, e => match e with
    | .Call (.Name x _) [a', b', c'] [] _ => decide (x = ("range" : Str)) && bltB pr sc x "range" true && ckE sc cf N a a' && ckE sc cf N b b' && ckE sc cf N c c'
    | _ => false
  | .zip a b, e => match e with
    | .Call (.Name x _) [a', b'] [] _ => tp && decide (x = ("zip" : Str)) && bltB pr sc x "zip" true && ckE sc cf N a a' && ckE sc cf N b b'
    | _ => false
  | .enum a, e => match e with
    | .Call (.Name x _) [a'] [] _ => tp && decide (x = ("enumerate" : Str)) && bltB pr sc x "enumerate" true && ckE sc cf N a a'
    | _ => false
def ckT (sc : Scope) (cf : Str → Bool) (N : List Str) : CE → Expr → Bool
  | .and es, e => match e with
    | .BoolOp .And es' _ => !nilEs es && ckTs sc cf N es es'
    | _ => false
  | .or es, e => match e with
    | .BoolOp .Or es' _ => !nilEs es && ckTs sc cf N es es'
    | _ => false
  | .not a, e => match e with
    | .UnaryOp .Not a' _ => ckT sc cf N a a'
    | _ => false
  | .cmp op a b, e => match e with
    | .Compare a' [op'] [b'] _ => decide (op = op') && nmark b' && ckE sc cf N a a' && ckE sc cf N b b'
    | _ => false
  | .chn o1 o2 a b c, e => match e with
    | .Compare a' [p1, p2] [b', c'] _ => decide (o1 = p1) && decide (o2 = p2) && nmark c' && ckE sc cf N a a' && ckE sc cf N b b' && ckE sc cf N c c'
    | _ => false
  | .var i, e => match e with
    | .Name x _ => decide (N[i]? = some x) && visB sc x && okNm x
    | _ => false
  | .idx a i, e => match e with
    | .Subscript a' i' _ => nslice i' && ckE sc cf N a a' && ckE sc cf N i i'
    | _ => false
  | .call k es, e => match e with
    | .Call (.Name x _) es' [] _ => (match pr.defs[k]? with | some dd => decide (dd.name = x) && decide (dd.ps.length = lenEs es) | none => false) && glB sc x && okNm x && ckEs sc cf N es es'
    | _ => false
  | .isi a t, e => match e with
    | .Call (.Name x _) [a', .Name y _] [] _ => bltB pr sc x "isinstance" false && bltB pr sc y t.name true && ckE sc cf N a a'
    | _ => false
  | .isi2 a ts, e => match e with
    | .Call (.Name x _) [a', .Tuple ys _ _] [] _ => bltB pr sc x "isinstance" false && tysB (fun y n => bltB pr sc y n true) ts ys && decide (ts ≠ [] ∧ ts.length ≤ 9) && ckE sc cf N a a'
    | _ => false
  | .bi b es, e => match e with
    | .Call (.Name x _) es' [] _ => nBI b es && bltB pr sc x b.nm b.ty && ckEs sc cf N es es'
    | _ => false
  | .cst d, e => match e with
    | .Constant c _ _ => cstB d c
    | _ => false
  | _, _ => false
def ckTs (sc : Scope) (cf : Str → Bool) (N : List Str) : CEs → List Expr → Bool
  | .nil, es => es.isEmpty
  | .cons a r, es => match es with
    | e :: es => ckT sc cf N a e && ckTs sc cf N r es
    | [] => false
end
end
end Ev
end

section
set_option Elab.async false
set_option linter.all false
set_option maxRecDepth 100000
set_option maxHeartbeats 8000000
/-! E11: the checker of expressions is sound -/
namespace Ev
open PySem PySem.Spec PyProof.Rows L2

theorem ck_star {pr : Pg} {sc : Scope} {cf : Str → Bool} {N : List Str} (ce : CE) {e : Expr} (h : ckE pr sc cf N ce e = true) : nstar e = true := by
  cases e <;> first
    | rfl
    | (cases ce <;> exact (Bool.false_ne_true h).elim)
theorem ck_stars {pr : Pg} {sc : Scope} {cf : Str → Bool} {N : List Str} : ∀ (es : CEs) {es' : List Expr}, ckEs pr sc cf N es es' = true → es'.all nstar = true ∧ es'.length = lenEs es
  | .nil, es', h => by
    unfold ckEs at h
    cases es' with
    | nil => exact ⟨rfl, rfl⟩
    | cons e r => cases h
  | .cons a r, es', h => by
    unfold ckEs at h
    cases es' with
    | nil => cases h
    | cons e es =>
      dsimp only at h
      rw [Bool.and_eq_true] at h
      obtain ⟨h1, h2⟩ := ck_stars r h.2
      exact ⟨by rw [List.all_cons, ck_star a h.1, h1] <;> rfl, by show es.length + 1 = lenEs r + 1; rw [h2]⟩
theorem dEs_len {Gd : List PyData} {C : Calls} : ∀ (es : CEs) (ρ : EnvD) (S : Store) (vs : List Val) (S' : Store), dEs Gd C es ρ S = .ok vs S' → vs.length = lenEs es
  | .nil, ρ, S, vs, S', h => by
    unfold dEs at h
    cases h; rfl
  | .cons a r, ρ, S, vs, S', h => by
    unfold dEs at h
    cases e1 : dE Gd C a ρ S with
    | err _ _ => rw [e1] at h; cases h
    | stuck => rw [e1] at h; cases h
    | ok v S1 =>
      rw [e1, Out.bind_ok] at h
      cases e2 : dEs Gd C r ρ S1 with
      | err _ _ => rw [e2] at h; cases h
      | stuck => rw [e2] at h; cases h
      | ok us S2 =>
        rw [e2, Out.bind_ok] at h
        cases h
        show us.length + 1 = _
        rw [dEs_len r _ _ _ _ e2]
        rfl
section
variable {X : Cx} {g : Gc} {W : WX} {pr : Pg} {Gd : List PyData} {C : Calls} {n : Nat} {N : List Str} {sc : Scope} {cf : Str → Bool}
theorem gl_of (c : Cok X g W pr Gd C n N sc cf) {x : Str} (h : glB sc x = true) : L2.Gl X x := by
  show X.env.scope.names.lookup x = _
  rw [c.hsc]
  exact of_decide_eq_true h
theorem nm_of {x : Str} (h : okNm x = true) : (x == ("__debug__" : Str)) = false ∧ (x == ("__classdict__" : Str)) = false ∧ x ≠ ("__name__" : Str) := by
  unfold okNm at h
  simp only [Bool.and_eq_true, Bool.not_eq_true', decide_eq_false_iff_not] at h
  exact ⟨h.1.1, h.1.2, h.2⟩
theorem blt_of (c : Cok X g W pr Gd C n N sc cf) {x : Str} {v : String} {ty : Bool} (h : bltB pr sc x v ty = true) :
    L2.Gl X x ∧ X.mg x = none ∧ bootBuiltins x = some (if ty = true then .type v else .builtin v) ∧ x ≠ ("__name__" : Str) ∧ (x == ("__debug__" : Str)) = false := by
  unfold bltB at h
  simp only [Bool.and_eq_true, decide_eq_true_eq] at h
  obtain ⟨⟨⟨h1, h2⟩, h3⟩, h4⟩ := h
  obtain ⟨n1, n2, n3⟩ := nm_of h2
  refine ⟨gl_of c h1, c.wo.bl x h3, ?_, n3, n1⟩
  split at h4
  · rename_i y e
    rw [e]
    cases ty with
    | false => simp at h4; rw [h4]; rfl
    | true => simp at h4
  · rename_i y e
    rw [e]
    cases ty with
    | true => simp at h4; rw [h4]; rfl
    | false => simp at h4
  · cases h4
theorem Cok.units (c : Cok X g W pr Gd C n N sc cf) : X.A.units + 200 < cLine := by
  have := c.wo.rm.un
  omega
theorem bi_real (c : Cok X g W pr Gd C n N sc cf) (b : BI) (hb : b ≠ .lenSet) (hb2 : b ≠ .sortSet) : ∃ r, CallR X (if b.ty = true then .type b.nm else .builtin b.nm) r ∧ RealN g r (biV b) := by
  have hK := c.wo.hK
  have hc := c.calm
  have hu := c.units
  cases b with
  | len => exact ⟨_, call_len, hK ▸ real_len⟩
  | all => exact ⟨_, cr_all hc, hK ▸ real_all⟩
  | any => exact ⟨_, cr_any hc, hK ▸ real_any⟩
  | tuple => exact ⟨_, call_tuple_of, hK ▸ real_tuple⟩
  | list => exact ⟨_, call_list_of, hK ▸ real_list⟩
  | listM => exact ⟨_, call_list_of, hK ▸ real_listM⟩
  | sum => exact ⟨_, cr_sum hc, hK ▸ real_sum⟩
  | abs => exact ⟨_, call_abs, real_abs⟩
  | max2 => exact ⟨_, call_max2 hc, real_max2⟩
  | min2 => exact ⟨_, call_min2 hc, real_min2⟩
  | int => exact ⟨_, call_int1, real_int⟩
  | strI => exact ⟨_, call_str_int, real_strI⟩
  | divmod => exact ⟨_, call_divmod, real_divmod⟩
  | ord => exact ⟨_, call_ord, real_ord⟩
  | repr => exact ⟨_, call_repr c.wo.sy (by omega) c.wo.gd, hK ▸ real_repr⟩
  | lenSet => exact absurd rfl hb
  | sortSet => exact absurd rfl hb2
theorem vis_of (c : Cok X g W pr Gd C n N sc cf) {x : Str} (h : visB sc x = true) : Vis X.env.scope x := by
  rw [c.hsc]
  unfold visB at h
  split at h
  · exact .inl (by assumption)
  · exact .inr (.inl (by assumption))
  · exact .inr (.inr (by assumption))
  · cases h
theorem var_of (c : Cok X g W pr Gd C n N sc cf) {i : Nat} {x : Str} {p : Pos} (h : (decide (N[i]? = some x) && visB sc x && okNm x) = true) : PE X (.Name x p) (rd g W (dVar i)) := by
  simp only [Bool.and_eq_true, decide_eq_true_eq] at h
  obtain ⟨⟨h1, h2⟩, h3⟩ := h
  obtain ⟨n1, n2, n3⟩ := nm_of h3
  exact pd_var (by rw [c.hN]; exact h1) (vis_of c h2) n1 n2
theorem cst_of (c : Cok X g W pr Gd C n N sc cf) {d : PyData} {k : Const} {j : Nat} {p : Pos} (h : cstB d k = true) : PE X (.Constant k j p) (rd g W (dCst d)) := by
  unfold cstB at h
  split at h
  · exact pd_cst pe_non fun _ => .non
  · cases (beq_iff_eq.mp h); exact pd_cst pe_bl fun _ => .bl _
  · cases (of_decide_eq_true h); exact pd_cst pe_int fun _ => .int _
  · cases (of_decide_eq_true h); exact pd_cst pe_str fun _ => .str _
  · cases h
theorem neg_of (c : Cok X g W pr Gd C n N sc cf) {i j : Int} {k : Nat} {p q : Pos} (h : i = -j) : PE X (.UnaryOp .USub (.Constant (.int j) k p) q) (rd g W (dCst (.int i))) :=
  (pe_un un_neg pe_int).imp fun σ H Q ⟨F, f, R, ρ, S, s, e, z⟩ => ⟨j, rfl, z.ok s _ (by rw [h]; exact .int _)⟩
theorem dict_of {p : Pos} : PE X (.Dict [] [] p) (rd g W (dCst (.dict []))) :=
  pe_dnewK.imp fun σ H Q ⟨F, f, R, ρ, S, s, e, z⟩ p hp => by
    obtain ⟨s2, x2⟩ := s.new (o := .dK []) hp
    exact z _ f _ x2 s2 _ (Da.dct upd_same)
theorem glb_of (c : Cok X g W pr Gd C n N sc cf) {k : Nat} {x : Str} {p : Pos} (h1 : pr.gl[k]? = some x) (h2 : glB sc x = true) (h3 : okNm x = true) : PE X (.Name x p) (rd g W (dE Gd C (.glb k))) := by
  obtain ⟨n1, n2, n3⟩ := nm_of h3
  obtain ⟨d, v, u, q1, q2, q3, q4⟩ := c.wo.gl k x h1
  have : dE Gd C (.glb k) = dCst d := by
    unfold dE
    rw [q1]
  rw [this]
  exact pd_cst (pe_glob (gl_of c h2) q2 q3 n1) q4
theorem fnv_of (c : Cok X g W pr Gd C n N sc cf) {k : Nat} {x : Str} {p : Pos} {dd : Dd} (h1 : pr.defs[k]? = some dd) (e : dd.name = x) (h2 : glB sc x = true) (h3 : okNm x = true) : PE X (.Name x p) (rd g W fun _ S => .ok (.fn k) S) := by
  obtain ⟨n1, n2, n3⟩ := nm_of h3
  obtain ⟨q1, q2, q3⟩ := c.wo.fn k dd h1
  rw [e] at q1
  exact pd_fnv (pe_glob (gl_of c h2) q1 rfl n1)
theorem call_of (c : Cok X g W pr Gd C n N sc cf) {k : Nat} {x : Str} {p pos : Pos} {es : CEs} {es' : List Expr} (h1 : (match pr.defs[k]? with | some dd => decide (dd.name = x) && decide (dd.ps.length = lenEs es) | none => false) = true)
    (h2 : glB sc x = true) (h3 : okNm x = true) (h4 : ckEs pr sc cf N es es' = true) (ih : PA X es' (rdA g W (dEs Gd C es))) : PE X (.Call (.Name x p) es' [] pos) (rd g W (dCall C k (dEs Gd C es))) := by
  split at h1
  · rename_i dd hd
    simp only [Bool.and_eq_true, decide_eq_true_eq] at h1
    obtain ⟨e1, e2⟩ := h1
    obtain ⟨n1, n2, n3⟩ := nm_of h3
    obtain ⟨q1, q2, fd, q3, q4, _⟩ := c.wo.fn k dd hd
    rw [e1] at q1
    obtain ⟨s1, s2⟩ := ck_stars es h4
    cases es with
    | nil =>
      cases es' with
      | nil => exact pd_call0 q3 c.wo.rm c.wo.gd (gl_of c h2) q1 q2 q4 c.tk e2 n1
      | cons e r => simp [lenEs] at s2
    | cons a r =>
      cases es' with
      | nil => simp [lenEs] at s2
      | cons e r' => exact pd_call q3 c.wo.rm c.wo.gd (gl_of c h2) q1 q2 q4 c.tk ih (fun ρ S vs S' z => by rw [dEs_len _ _ _ _ _ z, e2]) n1 s1
  · cases h1
theorem kall_of (c : Cok X g W pr Gd C n N sc cf) {k : Nat} {x : Str} {p pos : Pos} {gs : List Nat} {es ks : CEs} {es' : List Expr} {kws' : List Keyword} (h1 : (match pr.defs[k]? with | some dd => decide (dd.name = x) && decide (dd.ps.length = gs.length) | none => false) = true)
    (h2 : glB sc x = true) (h3 : okNm x = true) (h4 : ckEs pr sc cf N es es' = true) (h5 : (match kwNm kws' with | some nms => decide ((k, lenEs es, nms, gs) ∈ pr.kws) && decide (nms.length = lenEs ks) | none => false) = true)
    (ih : PA X es' (rdA g W (dEs Gd C es))) (ihk : PK X kws' (rdA g W (dEs Gd C ks))) : PE X (.Call (.Name x p) es' kws' pos) (rd g W (dKall C k gs (dEs Gd C es) (dEs Gd C ks))) := by
  split at h1
  · rename_i dd hd
    simp only [Bool.and_eq_true, decide_eq_true_eq] at h1
    obtain ⟨e1, e2⟩ := h1
    split at h5
    · rename_i nms hn
      simp only [Bool.and_eq_true, decide_eq_true_eq] at h5
      obtain ⟨k1, k2⟩ := h5
      obtain ⟨n1, n2, n3⟩ := nm_of h3
      obtain ⟨q1, q2, fd, q3, q4, q5⟩ := c.wo.fn k dd hd
      rw [e1] at q1
      obtain ⟨s1, s2⟩ := ck_stars es h4
      have kb := q5 _ k1 rfl
      have hk2 : ∀ ρ S vs S', dEs Gd C ks ρ S = .ok vs S' → vs.length = nms.length := fun ρ S vs S' z => by rw [dEs_len _ _ _ _ _ z, k2]
      cases es with
      | nil =>
        cases es' with
        | nil => exact pd_kall0 q3 c.wo.rm c.wo.gd (gl_of c h2) q1 q2 kb c.tk ihk e2.symm hk2 hn n1
        | cons e r => simp [lenEs] at s2
      | cons a r =>
        cases es' with
        | nil => simp [lenEs] at s2
        | cons e r' => exact pd_kall q3 c.wo.rm c.wo.gd (gl_of c h2) q1 q2 kb c.tk ih ihk e2.symm (fun ρ S vs S' z => dEs_len _ _ _ _ _ z) hk2 hn n1 s1
    · cases h5
  · cases h1
theorem bi_of (c : Cok X g W pr Gd C n N sc cf) {b : BI} {x : Str} {p pos : Pos} {es : CEs} {es' : List Expr} (h1 : nBI b es = true) (h2 : bltB pr sc x b.nm b.ty = true) (h4 : ckEs pr sc cf N es es' = true) (ih : PA X es' (rdA g W (dEs Gd C es))) :
    PE X (.Call (.Name x p) es' [] pos) (rd g W (dN (biV b) (dEs Gd C es))) := by
  have hb : b ≠ .lenSet := fun z => by
    subst z
    exact (Bool.false_ne_true h1).elim
  have hb2 : b ≠ .sortSet := fun z => by
    subst z
    exact (Bool.false_ne_true h1).elim
  obtain ⟨s1, s2⟩ := ck_stars es h4
  obtain ⟨b1, b2, b3, b4, b5⟩ := blt_of c h2
  obtain ⟨r, r1, r2⟩ := bi_real c b hb hb2
  cases es' with
  | nil =>
    cases es with
    | nil => cases b <;> exact (Bool.false_ne_true h1).elim
    | cons a r => simp [lenEs] at s2
  | cons e r' =>
    cases ht : b.ty with
    | true =>
      rw [ht] at r1 b3
      exact pd_ty r1 r2 b1 b2 b3 ih b4 b5 s1
    | false =>
      rw [ht] at r1 b3
      exact pd_bi r1 r2 b1 b2 b3 ih b4 b5 s1
theorem set_of (c : Cok X g W pr Gd C n N sc cf) {b : BI} {x y : Str} {p p2 q pos : Pos} {a' : Expr} {es : CEs} (hb : b = .lenSet ∨ b = .sortSet) (h1 : bltB pr sc x b.nm false = true) (h2 : bltB pr sc y "set" true = true) (h4 : ckEs pr sc cf N es [a'] = true) (ih : PA X [a'] (rdA g W (dEs Gd C es))) :
    PE X (.Call (.Name x p) [.Call (.Name y p2) [a'] [] q] [] pos) (rd g W (dN (biV b) (dEs Gd C es))) := by
  obtain ⟨d1, d2, d3, d4, d5⟩ := blt_of c h2
  obtain ⟨s1, _⟩ := ck_stars es h4
  rw [List.all_cons, Bool.and_eq_true] at s1
  rcases hb with rfl | rfl
  · obtain ⟨b1, b2, b3, b4, b5⟩ := blt_of c h1
    exact pd_lenSet c.wo.hK c.calm b1 b2 b3 b4 b5 d1 d2 d3 d4 d5 ih s1.1
  · obtain ⟨b1, b2, b3, b4, b5⟩ := blt_of c h1
    exact pd_sortSet c.wo.hK c.calm b1 b2 b3 b4 b5 d1 d2 d3 d4 d5 ih s1.1
theorem isi_of (c : Cok X g W pr Gd C n N sc cf) {t : Ty} {x y : Str} {p p2 pos : Pos} {a' : Expr} {ta : TD Val} (h1 : bltB pr sc x "isinstance" false = true) (h2 : bltB pr sc y t.name true = true) (ih : PE X a' (rd g W ta)) (hs : nstar a' = true) :
    PE X (.Call (.Name x p) [a', .Name y p2] [] pos) (rd g W (dU (isiV t) ta)) := by
  obtain ⟨b1, b2, b3, b4, b5⟩ := blt_of c h1
  obtain ⟨d1, d2, d3, d4, d5⟩ := blt_of c h2
  exact pd_isi c.wo.hK b1 b2 b3 b4 b5 d1 d2 d3 d4 d5 ih hs
theorem isi2_of (c : Cok X g W pr Gd C n N sc cf) {ts : List Ty} {x : Str} {p tpos pos : Pos} {a' : Expr} {ys : List Expr} {k : Nat} {ta : TD Val} (h1 : bltB pr sc x "isinstance" false = true) (h2 : tysB (fun y n => bltB pr sc y n true) ts ys = true)
    (h3 : ts ≠ [] ∧ ts.length ≤ 9) (ih : PE X a' (rd g W ta)) (hs : nstar a' = true) : PE X (.Call (.Name x p) [a', .Tuple ys k tpos] [] pos) (rd g W (dU (isiV2 ts) ta)) := by
  obtain ⟨b1, b2, b3, b4, b5⟩ := blt_of c h1
  exact pd_isi2 c.wo.hK b1 b2 b3 b4 b5 (fun y n h => blt_of c h) h2 h3.2 h3.1 ih hs
theorem sup_of {a : Expr} {m : Str} {env : Env} {w : Sem Value} (h : nsup a = true) : attributeBase a m env w = w := by
  cases a with
  | Call f args kws pos => cases f <;> first | rfl | (cases args <;> cases kws <;> first | rfl | exact (Bool.false_ne_true h).elim)
  | _ => rfl
theorem fold_of {e : Expr} {env : Env} (h : nset e = true) : ∀ x, foldedSetIterable e env x = pure x := by
  intro x
  cases e <;> first | rfl | exact (Bool.false_ne_true h).elim
/-! ### targets -/
theorem tg_of (c : Cok X g W pr Gd C n N sc cf) {i : Nat} {e : Expr} (h : tgB sc cf N i e = true) : PG X e (gName i) ∧ nstar e = true := by
  unfold tgB at h
  split at h
  · rename_i x p
    simp only [Bool.and_eq_true, decide_eq_true_eq, Bool.or_eq_true] at h
    obtain ⟨h1, h2⟩ := h
    refine ⟨?_, rfl⟩
    have hN : X.N[i]? = some x := by rw [c.hN]; exact h1
    have nd : X.N.Nodup := by rw [c.hN]; exact c.nd
    rcases h2 with h2 | ⟨h2, h3⟩
    · exact pg_name nd hN (.inl (by rw [c.hsc]; exact h2)) (.inr (by rw [c.hsc]; exact h2))
    · exact pg_name nd hN (.inr (by rw [c.hsc]; exact h2)) (.inl (c.fn x h3))
  · cases h
theorem tgs_of (c : Cok X g W pr Gd C n N sc cf) : ∀ {is : List Nat} {es : List Expr}, tgsB sc cf N is es = true → PGs X es (gNames is) ∧ es.all nstar = true ∧ es.length = is.length
  | [], [], _ => ⟨pgs_nil, rfl, rfl⟩
  | [], _ :: _, h => by cases h
  | _ :: _, [], h => by cases h
  | i :: is, e :: es, h => by
    unfold tgsB at h
    rw [Bool.and_eq_true] at h
    obtain ⟨h1, h2⟩ := tg_of c h.1
    obtain ⟨h3, h4, h5⟩ := tgs_of c h.2
    refine ⟨pgs_cons h1 h3 (by rw [asg_cons h2]; rfl), by rw [List.all_cons, h2, h4] <;> rfl, by rw [List.length_cons, List.length_cons, h5]⟩
def tgG (g : Gc) : Tg → TG
  | .nm i => gName i
  | .tup is => gTup g.K is.length (gNames is)
  | .nest i is => gTup g.K 2 (gCons (gName i) (gCons (gTup g.K is.length (gNames is)) gNil))
theorem tgG_r (g : Gc) (t : Tg) : TgR g t (tgG g t) := by
  cases t with
  | nm i => exact tgr_nm
  | tup is => exact tgr_tup
  | nest i is => exact tgr_nest
theorem ckTg_of (c : Cok X g W pr Gd C n N sc cf) {t : Tg} {e : Expr} (h : ckTg sc cf N t e = true) : PG X e (tgG g t) ∧ nstar e = true := by
  unfold ckTg at h
  split at h
  · obtain ⟨h1, h2⟩ := tg_of c h
    exact ⟨h1, h2⟩
  · obtain ⟨h1, h2, h3⟩ := tgs_of c h
    obtain ⟨n1, n2⟩ := hn_names (env := X.env) h2
    refine ⟨?_, rfl⟩
    unfold tgG
    rw [c.wo.hK]
    exact pg_tup c.calm h1 (n1.trans h3) n2
  · rename_i i is a es k1 p1 k2 p2
    rw [Bool.and_eq_true] at h
    obtain ⟨a1, a2⟩ := tg_of c h.1
    obtain ⟨h1, h2, h3⟩ := tgs_of c h.2
    obtain ⟨n1, n2⟩ := hn_names (env := X.env) h2
    refine ⟨?_, rfl⟩
    unfold tgG
    rw [c.wo.hK]
    have q := pg_tup (k := k1) (pos := p1) c.calm h1 (n1.trans h3) n2
    have hz : [a, Expr.Tuple es k1 p1].all nstar = true := by rw [List.all_cons, a2] <;> rfl
    obtain ⟨m1, m2⟩ := hn_names (env := X.env) hz
    exact pg_tup c.calm (pgs_cons a1 (pgs_cons q pgs_nil (by rw [asg_cons rfl] <;> rfl)) (by rw [asg_cons a2] <;> rfl)) m1 m2
  · cases h
end
end Ev
end

section
set_option Elab.async false
set_option linter.all false
set_option maxRecDepth 100000
set_option maxHeartbeats 16000000
/-! E12: soundness of the checker, expressions -/
namespace Ev
open PySem PySem.Spec PyProof.Rows L2
variable {g : Gc} {pr : Pg} {Gd : List PyData} {C : Calls} {n : Nat} {N : List Str}
mutual
theorem sE : ∀ (ce : CE) {X : Cx} {W : WX} {sc : Scope} {cf : Str → Bool} (c : Cok X g W pr Gd C n N sc cf) {e : Expr}, ckE pr sc cf N ce e = true → PE X e (rd g W (dE Gd C ce))
  | .var i, X, W, sc, cf, c, e, h => by
    unfold ckE at h
    split at h
    · exact var_of c h
    · cases h
  | .cst d, X, W, sc, cf, c, e, h => by
    unfold ckE at h
    split at h
    · exact cst_of c h
    · split at h
      · exact neg_of c (of_decide_eq_true h)
      · cases h
    · split at h
      · exact dict_of
      · cases h
    · cases h
  | .glb k, X, W, sc, cf, c, e, h => by
    unfold ckE at h
    split at h
    · simp only [Bool.and_eq_true, decide_eq_true_eq] at h
      exact glb_of c h.1.1 h.1.2 h.2
    · cases h
  | .fnv k, X, W, sc, cf, c, e, h => by
    unfold ckE at h
    split at h
    · rw [Bool.and_eq_true, Bool.and_eq_true] at h
      obtain ⟨⟨h1, h2⟩, h3⟩ := h
      split at h1
      · rename_i dd hd
        exact fnv_of c hd (of_decide_eq_true h1) h2 h3
      · cases h1
    · cases h
  | .bin op a b, X, W, sc, cf, c, e, h => by
    unfold ckE at h
    split at h
    · simp only [Bool.and_eq_true, decide_eq_true_eq] at h
      obtain ⟨⟨⟨h1, h2⟩, h3⟩, h4⟩ := h
      subst h1
      obtain ⟨r, ho, hr⟩ := bin_real c.wo.hK op h2
      exact pd_bin ho hr (sE a c h3) (sE b c h4)
    · cases h
  | .cmp op a b, X, W, sc, cf, c, e, h => by
    unfold ckE at h
    split at h
    · simp only [Bool.and_eq_true, decide_eq_true_eq] at h
      obtain ⟨⟨⟨h1, h2⟩, h3⟩, h4⟩ := h
      subst h1
      obtain ⟨r, ho, hr⟩ := cmp_real c.wo.hK (by have := c.units; omega) op
      exact pd_cmp ho hr (sE a c h3) (sE b c h4) h2
    · cases h
  | .chn o1 o2 a b d, X, W, sc, cf, c, e, h => by
    unfold ckE at h
    split at h
    · simp only [Bool.and_eq_true, decide_eq_true_eq] at h
      obtain ⟨⟨⟨⟨⟨h1, h2⟩, h3⟩, h4⟩, h5⟩, h6⟩ := h
      subst h1 h2
      obtain ⟨r, ho, hr⟩ := cmp_real c.wo.hK (by have := c.units; omega) o1
      obtain ⟨r', ho', hr'⟩ := cmp_real c.wo.hK (by have := c.units; omega) o2
      exact pd_chn ho ho' hr hr' (sE a c h4) (sE b c h5) (sE d c h6) h3
    · cases h
  | .and es, X, W, sc, cf, c, e, h => by
    unfold ckE at h
    split at h
    · rw [Bool.and_eq_true] at h
      exact sAnd es c h.1 h.2
    · cases h
  | .or es, X, W, sc, cf, c, e, h => by
    unfold ckE at h
    split at h
    · rw [Bool.and_eq_true] at h
      exact sOr es c h.1 h.2
    · cases h
  | .not a, X, W, sc, cf, c, e, h => by
    unfold ckE at h
    split at h
    · exact pd_not (sE a c h)
    · cases h
  | .ife t a b, X, W, sc, cf, c, e, h => by
    unfold ckE at h
    split at h
    · simp only [Bool.and_eq_true] at h
      exact pd_ife (sT t c h.1.1) (sE a c h.1.2) (sE b c h.2)
    · cases h
  | .tup es, X, W, sc, cf, c, e, h => by
    unfold ckE at h
    split at h
    · exact pd_tup (sEs es c h)
    · cases h
  | .lst m es, X, W, sc, cf, c, e, h => by
    unfold ckE at h
    split at h
    · exact pd_lst (sEs es c h)
    · cases h
  | .idx a i, X, W, sc, cf, c, e, h => by
    unfold ckE at h
    split at h
    · simp only [Bool.and_eq_true] at h
      exact pd_idx c.wo.hK (sE a c h.1.2) (sE i c h.2) h.1.1
    · cases h
  | .sli a lo hi, X, W, sc, cf, c, e, h => by
    unfold ckE at h
    split at h
    · simp only [Bool.and_eq_true] at h
      exact pd_sli c.wo.hK (sE a c h.1.1) (sO lo c h.1.2) (sO hi c h.2)
    · cases h
  | .rev z a, X, W, sc, cf, c, e, h => by
    unfold ckE at h
    split at h
    · rw [Bool.and_eq_true] at h
      cases z with
      | true => exact absurd h.1 (by decide)
      | false => exact pd_rev c.wo.hK (sE a c h.2)
    · rw [Bool.and_eq_true] at h
      cases z with
      | false => exact absurd h.1 (by decide)
      | true => exact pd_rev0 c.wo.hK (sE a c h.2)
    · cases h
  | .call k es, X, W, sc, cf, c, e, h => by
    unfold ckE at h
    split at h
    · rw [Bool.and_eq_true, Bool.and_eq_true, Bool.and_eq_true] at h
      exact call_of c h.1.1.1 h.1.1.2 h.1.2 h.2 (sEs es c h.2)
    · cases h
  | .kall k gs es ks, X, W, sc, cf, c, e, h => by
    unfold ckE at h
    split at h
    · rw [Bool.and_eq_true, Bool.and_eq_true, Bool.and_eq_true, Bool.and_eq_true, Bool.and_eq_true] at h
      obtain ⟨⟨⟨⟨⟨h1, h2⟩, h3⟩, h4⟩, h5⟩, h6⟩ := h
      exact kall_of c h1 h2 h3 h4 h6 (sEs es c h4) (sK ks c h5)
    · cases h
  | .isi a t, X, W, sc, cf, c, e, h => by
    unfold ckE at h
    split at h
    · rw [Bool.and_eq_true, Bool.and_eq_true] at h
      exact isi_of c h.1.1 h.1.2 (sE a c h.2) (ck_star a h.2)
    · cases h
  | .isi2 a ts, X, W, sc, cf, c, e, h => by
    unfold ckE at h
    split at h
    · rw [Bool.and_eq_true, Bool.and_eq_true, Bool.and_eq_true] at h
      exact isi2_of c h.1.1.1 h.1.1.2 (of_decide_eq_true h.1.2) (sE a c h.2) (ck_star a h.2)
    · cases h
  | .sme m a es, X, W, sc, cf, c, e, h => by
    unfold ckE at h
    split at h
    · simp only [Bool.and_eq_true, decide_eq_true_eq] at h
      obtain ⟨⟨⟨⟨⟨h1, h2⟩, h3⟩, h4⟩, h5⟩, h6⟩ := h
      subst h1
      exact pd_sme c.wo.hK (sE a c h5) (sEs es c h6) (sup_of h2) (ck_stars es h6).1 h4 h3
    · cases h
  | .fst es, X, W, sc, cf, c, e, h => by
    unfold ckE at h
    split at h
    · obtain ⟨ts, q1, q2⟩ := sF es c (W := W) h
      exact (pe_joined q1).imp fun σ H Q z => q2 Str.empty σ H Q z
    · cases h
  | .bi b es, X, W, sc, cf, c, e, h => by
    unfold ckE at h
    split at h
    · rw [Bool.or_eq_true] at h
      rcases h with h | h
      · rw [Bool.and_eq_true, Bool.and_eq_true] at h
        exact bi_of c h.1.1 h.1.2 h.2 (sEs es c h.2)
      · rw [Bool.and_eq_true, Bool.and_eq_true, Bool.and_eq_true] at h
        exact set_of c (of_decide_eq_true h.1.1.1) h.1.1.2 h.1.2 h.2 (sEs es c h.2)
    · rw [Bool.and_eq_true, Bool.and_eq_true] at h
      exact bi_of c h.1.1 h.1.2 h.2 (sEs es c h.2)
    · cases h
  | .meth m a es, X, W, sc, cf, c, e, h => by
    unfold ckE at h
    split at h
    · simp only [Bool.and_eq_true, decide_eq_true_eq] at h
      obtain ⟨⟨⟨⟨h1, h2⟩, h3⟩, h4⟩, h5⟩ := h
      subst h1
      obtain ⟨s1, s2⟩ := ck_stars es h5
      rw [List.all_cons, Bool.and_eq_true] at s1
      cases m with
      | append => exact pd_app c.wo.hK (sE a c h4) (sEs es c h5) (sup_of h2) s1.1 h3
      | extend => exact pd_ext c.wo.hK (sE a c h4) (sEs es c h5) (sup_of h2) s1.1 h3
    · cases h
  | .lc m elt own tg it cond, X, W, sc, cf, c, e, h => by
    unfold ckE at h
    split at h
    · rename_i elt' tg' iter' ifs' scope p
      simp only [Bool.and_eq_true, List.all_eq_true, decide_eq_true_eq] at h
      obtain ⟨⟨⟨⟨⟨⟨h1, h2⟩, h3⟩, h4⟩, h5⟩, h6⟩, h7⟩ := h
      have ok := blkOk_by h1
      have nd : X.N.Nodup := by rw [c.hN]; exact c.nd
      have ok' : BlkOk X.N X.env.scope scope own := by rw [c.hN, c.hsc]; exact ok
      exact pd_lc c.calm nd (sI it c h5) ok' (tgG_r g tg) h4 (fun s H C' cl fp => (ckTg_of (c.blk ok.kind s H C' cl fp) h3).1) (fun s H C' cl fp => sC cond (c.blk ok.kind s H C' cl fp) h6) (fun s H C' cl fp => sE elt (c.blk ok.kind s H C' cl fp) h7) (fold_of h2)
    · cases h
theorem sEs : ∀ (es : CEs) {X : Cx} {W : WX} {sc : Scope} {cf : Str → Bool} (c : Cok X g W pr Gd C n N sc cf) {es' : List Expr}, ckEs pr sc cf N es es' = true → PA X es' (rdA g W (dEs Gd C es))
  | .nil, X, W, sc, cf, c, es', h => by
    unfold ckEs at h
    cases es' with
    | nil => exact pd_nil
    | cons e r => cases h
  | .cons a r, X, W, sc, cf, c, es', h => by
    unfold ckEs at h
    cases es' with
    | nil => cases h
    | cons e es =>
      dsimp only at h
      rw [Bool.and_eq_true] at h
      exact pd_cons (sE a c h.1) (sEs r c h.2) (ck_star a h.1)
theorem sF : ∀ (es : CEs) {X : Cx} {W : WX} {sc : Scope} {cf : Str → Bool} (c : Cok X g W pr Gd C n N sc cf) {es' : List Expr}, ckF pr sc cf N es es' = true →
    ∃ ts, PJ X es' ts ∧ ∀ acc σ H Q, rd g W (dF Gd C es acc) σ H Q → tJs ts acc σ H fun out H1 => Q (.str out) H1
  | .nil, X, W, sc, cf, c, es', h => by
    unfold ckF at h
    cases es' with
    | nil =>
      refine ⟨[], .nil, fun acc σ H Q ⟨F, f, R, ρ, S, s, e, z⟩ => ?_⟩
      unfold dF at z
      exact z.ok s (.str acc) (.str acc)
    | cons e r => cases h
  | .cons a r, X, W, sc, cf, c, es', h => by
    unfold ckF at h
    split at h
    · simp only [Bool.and_eq_true, decide_eq_true_eq] at h
      obtain ⟨⟨h1, h2⟩, h3⟩ := h
      subst h1
      obtain ⟨ts, q1, q2⟩ := sF r c (W := W) h3
      refine ⟨_, .cons (pe_fmt (sE a c (W := W) h2)) q1, fun acc σ H Q ⟨F, f, R, ρ, S, s, e, z⟩ => ?_⟩
      unfold dF at z
      exact fs_rd (k := dF Gd C r) (fun acc H1 y => q2 acc σ H1 Q y) s e z
    · rw [Bool.and_eq_true] at h
      obtain ⟨h1, h3⟩ := h
      obtain ⟨ts, q1, q2⟩ := sF r c (W := W) h3
      split at h1
      · cases of_decide_eq_true h1
        refine ⟨_, .cons (pd_cst (g := g) (W := W) pe_str fun _ => .str _) q1, fun acc σ H Q ⟨F, f, R, ρ, S, s, e, z⟩ => ?_⟩
        unfold dF dE at z
        exact fs_cst (ta := dCst .none) (k := dF Gd C r) (fun acc H1 y => q2 acc σ H1 Q y) s e z
      · cases h1
    · cases h
theorem sK : ∀ (es : CEs) {X : Cx} {W : WX} {sc : Scope} {cf : Str → Bool} (c : Cok X g W pr Gd C n N sc cf) {es' : List Keyword}, ckK pr sc cf N es es' = true → PK X es' (rdA g W (dEs Gd C es))
  | .nil, X, W, sc, cf, c, es', h => by
    unfold ckK at h
    cases es' with
    | nil => exact pk_nilD
    | cons e r => cases h
  | .cons a r, X, W, sc, cf, c, es', h => by
    unfold ckK at h
    cases es' with
    | nil => cases h
    | cons e es =>
      cases e with
      | mk nm v p =>
        dsimp only at h
        rw [Bool.and_eq_true] at h
        exact pk_consD (sE a c h.1) (sK r c h.2)
theorem sO : ∀ (o : CO) {X : Cx} {W : WX} {sc : Scope} {cf : Str → Bool} (c : Cok X g W pr Gd C n N sc cf) {e : Option Expr}, ckO pr sc cf N o e = true → PO X e (rdO g W (dO Gd C o))
  | .none, X, W, sc, cf, c, e, h => by
    unfold ckO at h
    cases e with
    | none => exact pd_none
    | some e => cases h
  | .some a, X, W, sc, cf, c, e, h => by
    unfold ckO at h
    cases e with
    | none => cases h
    | some e => exact pd_some (sE a c h)
theorem sC : ∀ (o : CO) {X : Cx} {W : WX} {sc : Scope} {cf : Str → Bool} (c : Cok X g W pr Gd C n N sc cf) {es : List Expr}, ckC pr sc cf N o es = true → PTs X es (rdT g W (dC Gd C o))
  | .none, X, W, sc, cf, c, es, h => by
    unfold ckC at h
    cases es with
    | nil => exact pts_nilD
    | cons e r => cases h
  | .some a, X, W, sc, cf, c, es, h => by
    unfold ckC at h
    split at h
    · exact pts_one (sT a c h)
    · cases h
theorem sI : ∀ (it : CI) {X : Cx} {W : WX} {sc : Scope} {cf : Str → Bool} (c : Cok X g W pr Gd C n N sc cf) {tg e : Expr}, ckI pr sc cf N (isTup tg) it e = true → PI X tg e (rdI g W (dI Gd C it))
  | .seq a, X, W, sc, cf, c, tg, e, h => by
    unfold ckI at h
    exact pi_seqD c.wo.hK (sE a c h)
  | .rng1 a, X, W, sc, cf, c, tg, e, h => by
    unfold ckI at h
    split at h
    · simp only [Bool.and_eq_true, decide_eq_true_eq] at h
      obtain ⟨⟨h1, h2⟩, h3⟩ := h
      subst h1
      obtain ⟨b1, b2, _⟩ := blt_of c h2
      exact pi_rng1 b1 b2 (sE a c h3) (ck_star a h3)
    · cases h
  | .rng2 a b, X, W, sc, cf, c, tg, e, h => by
    unfold ckI at h
    split at h
    · simp only [Bool.and_eq_true, decide_eq_true_eq] at h
      obtain ⟨⟨⟨h1, h2⟩, h3⟩, h4⟩ := h
      subst h1
      obtain ⟨b1, b2, _⟩ := blt_of c h2
      exact pi_rng2 b1 b2 (sE a c h3) (sE b c h4) (ck_star a h3) (ck_star b h4)
    · cases h
  | .rng3 a b d, X, W, sc, cf, c, tg, e, h => by
    unfold ckI at h
    split at h
    · simp only [Bool.and_eq_true, decide_eq_true_eq] at h
      obtain ⟨⟨⟨⟨h1, h2⟩, h3⟩, h4⟩, h5⟩ := h
      subst h1
      obtain ⟨b1, b2, _⟩ := blt_of c h2
      exact pi_rng3 b1 b2 (sE a c h3) (sE b c h4) (sE d c h5) (ck_star a h3) (ck_star b h4) (ck_star d h5)
    · cases h
  | .zip a b, X, W, sc, cf, c, tg, e, h => by
    unfold ckI at h
    split at h
    · simp only [Bool.and_eq_true, decide_eq_true_eq] at h
      obtain ⟨⟨⟨⟨h0, h1⟩, h2⟩, h3⟩, h4⟩ := h
      subst h1
      obtain ⟨b1, b2, _⟩ := blt_of c h2
      cases tg <;> first
        | exact (Bool.false_ne_true h0).elim
        | exact pi_zipD c.wo.hK b1 b2 (sE a c h3) (sE b c h4) (ck_star a h3) (ck_star b h4)
    · cases h
  | .enum a, X, W, sc, cf, c, tg, e, h => by
    unfold ckI at h
    split at h
    · simp only [Bool.and_eq_true, decide_eq_true_eq] at h
      obtain ⟨⟨⟨h0, h1⟩, h2⟩, h3⟩ := h
      subst h1
      obtain ⟨b1, b2, _⟩ := blt_of c h2
      cases tg <;> first
        | exact (Bool.false_ne_true h0).elim
        | exact pi_enumD c.wo.hK b1 b2 (sE a c h3) (ck_star a h3)
    · cases h
theorem sAnd : ∀ (es : CEs) {X : Cx} {W : WX} {sc : Scope} {cf : Str → Bool} (c : Cok X g W pr Gd C n N sc cf) {es' : List Expr} {pos : Pos}, (!nilEs es) = true → ckEs pr sc cf N es es' = true → PE X (.BoolOp .And es' pos) (rd g W (dAnd Gd C es))
  | .nil, X, W, sc, cf, c, es', pos, h0, h => (Bool.false_ne_true h0).elim
  | .cons a .nil, X, W, sc, cf, c, es', pos, h0, h => by
    unfold ckEs at h
    cases es' with
    | nil => cases h
    | cons e es =>
      dsimp only at h
      rw [Bool.and_eq_true] at h
      cases es with
      | nil => exact pe_one (sE a c h.1)
      | cons _ _ => exact absurd h.2 (by unfold ckEs; exact Bool.false_ne_true)
  | .cons a (.cons b r), X, W, sc, cf, c, es', pos, h0, h => by
    unfold ckEs at h
    cases es' with
    | nil => cases h
    | cons e es =>
      dsimp only at h
      rw [Bool.and_eq_true] at h
      cases es with
      | nil => exact absurd h.2 (by unfold ckEs; exact Bool.false_ne_true)
      | cons e2 es2 => exact pd_and (sE a c h.1) (sAnd (.cons b r) c rfl h.2)
theorem sOr : ∀ (es : CEs) {X : Cx} {W : WX} {sc : Scope} {cf : Str → Bool} (c : Cok X g W pr Gd C n N sc cf) {es' : List Expr} {pos : Pos}, (!nilEs es) = true → ckEs pr sc cf N es es' = true → PE X (.BoolOp .Or es' pos) (rd g W (dOr Gd C es))
  | .nil, X, W, sc, cf, c, es', pos, h0, h => (Bool.false_ne_true h0).elim
  | .cons a .nil, X, W, sc, cf, c, es', pos, h0, h => by
    unfold ckEs at h
    cases es' with
    | nil => cases h
    | cons e es =>
      dsimp only at h
      rw [Bool.and_eq_true] at h
      cases es with
      | nil => exact pe_one (sE a c h.1)
      | cons _ _ => exact absurd h.2 (by unfold ckEs; exact Bool.false_ne_true)
  | .cons a (.cons b r), X, W, sc, cf, c, es', pos, h0, h => by
    unfold ckEs at h
    cases es' with
    | nil => cases h
    | cons e es =>
      dsimp only at h
      rw [Bool.and_eq_true] at h
      cases es with
      | nil => exact absurd h.2 (by unfold ckEs; exact Bool.false_ne_true)
      | cons e2 es2 => exact pd_or (sE a c h.1) (sOr (.cons b r) c rfl h.2)
theorem sT : ∀ (ce : CE) {X : Cx} {W : WX} {sc : Scope} {cf : Str → Bool} (c : Cok X g W pr Gd C n N sc cf) {e : Expr}, ckT pr sc cf N ce e = true → PT X e (rdT g W (dT Gd C ce))
  | .and es, X, W, sc, cf, c, e, h => by
    unfold ckT at h
    split at h
    · rw [Bool.and_eq_true] at h
      exact (sTAnd es c h.1 h.2).pt
    · cases h
  | .or es, X, W, sc, cf, c, e, h => by
    unfold ckT at h
    split at h
    · rw [Bool.and_eq_true] at h
      exact (sTOr es c h.1 h.2).pt
    · cases h
  | .not a, X, W, sc, cf, c, e, h => by
    unfold ckT at h
    split at h
    · exact pt_notD (sT a c h)
    · cases h
  | .cmp op a b, X, W, sc, cf, c, e, h => by
    unfold ckT at h
    split at h
    · simp only [Bool.and_eq_true, decide_eq_true_eq] at h
      obtain ⟨⟨⟨h1, h2⟩, h3⟩, h4⟩ := h
      subst h1
      obtain ⟨r, ho, hr⟩ := cmp_real c.wo.hK (by have := c.units; omega) op
      exact pt_cmpD ho hr (sE a c h3) (sE b c h4) h2
    · cases h
  | .chn o1 o2 a b d, X, W, sc, cf, c, e, h => by
    unfold ckT at h
    split at h
    · simp only [Bool.and_eq_true, decide_eq_true_eq] at h
      obtain ⟨⟨⟨⟨⟨h1, h2⟩, h3⟩, h4⟩, h5⟩, h6⟩ := h
      subst h1 h2
      obtain ⟨r, ho, hr⟩ := cmp_real c.wo.hK (by have := c.units; omega) o1
      obtain ⟨r', ho', hr'⟩ := cmp_real c.wo.hK (by have := c.units; omega) o2
      exact pt_chnD ho ho' hr hr' (sE a c h4) (sE b c h5) (sE d c h6) h3
    · cases h
  | .var i, X, W, sc, cf, c, e, h => by
    unfold ckT at h
    split at h
    · exact pt_tru c.wo.hK (var_of c h) rfl
    · cases h
  | .idx a i, X, W, sc, cf, c, e, h => by
    unfold ckT at h
    split at h
    · simp only [Bool.and_eq_true] at h
      exact pt_tru c.wo.hK (pd_idx c.wo.hK (sE a c h.1.2) (sE i c h.2) h.1.1) rfl
    · cases h
  | .call k es, X, W, sc, cf, c, e, h => by
    unfold ckT at h
    split at h
    · rw [Bool.and_eq_true, Bool.and_eq_true, Bool.and_eq_true] at h
      exact pt_tru c.wo.hK (call_of c h.1.1.1 h.1.1.2 h.1.2 h.2 (sEs es c h.2)) rfl
    · cases h
  | .isi a t, X, W, sc, cf, c, e, h => by
    unfold ckT at h
    split at h
    · rw [Bool.and_eq_true, Bool.and_eq_true] at h
      exact pt_tru c.wo.hK (isi_of c h.1.1 h.1.2 (sE a c h.2) (ck_star a h.2)) rfl
    · cases h
  | .bi b es, X, W, sc, cf, c, e, h => by
    unfold ckT at h
    split at h
    · rw [Bool.and_eq_true, Bool.and_eq_true] at h
      exact pt_tru c.wo.hK (bi_of c h.1.1 h.1.2 h.2 (sEs es c h.2)) rfl
    · cases h
  | .cst d, X, W, sc, cf, c, e, h => by
    unfold ckT at h
    split at h
    · exact pt_tru c.wo.hK (cst_of c h) rfl
    · cases h
  | .isi2 a ts, X, W, sc, cf, c, e, h => by
    unfold ckT at h
    split at h
    · rw [Bool.and_eq_true, Bool.and_eq_true, Bool.and_eq_true] at h
      exact pt_tru c.wo.hK (isi2_of c h.1.1.1 h.1.1.2 (of_decide_eq_true h.1.2) (sE a c h.2) (ck_star a h.2)) rfl
    · cases h
  | .sme _ _ _, X, W, sc, cf, c, e, h => (Bool.false_ne_true h).elim
  | .fst _, X, W, sc, cf, c, e, h => (Bool.false_ne_true h).elim
  | .glb _, X, W, sc, cf, c, e, h => (Bool.false_ne_true h).elim
  | .fnv _, X, W, sc, cf, c, e, h => (Bool.false_ne_true h).elim
  | .bin _ _ _, X, W, sc, cf, c, e, h => (Bool.false_ne_true h).elim
  | .ife _ _ _, X, W, sc, cf, c, e, h => (Bool.false_ne_true h).elim
  | .tup _, X, W, sc, cf, c, e, h => (Bool.false_ne_true h).elim
  | .lst _ _, X, W, sc, cf, c, e, h => (Bool.false_ne_true h).elim
  | .sli _ _ _, X, W, sc, cf, c, e, h => (Bool.false_ne_true h).elim
  | .rev _ _, X, W, sc, cf, c, e, h => (Bool.false_ne_true h).elim
  | .kall _ _ _ _, X, W, sc, cf, c, e, h => (Bool.false_ne_true h).elim
  | .meth _ _ _, X, W, sc, cf, c, e, h => (Bool.false_ne_true h).elim
  | .lc _ _ _ _ _ _, X, W, sc, cf, c, e, h => (Bool.false_ne_true h).elim
theorem sTAnd : ∀ (es : CEs) {X : Cx} {W : WX} {sc : Scope} {cf : Str → Bool} (c : Cok X g W pr Gd C n N sc cf) {es' : List Expr} {pos : Pos}, (!nilEs es) = true → ckTs pr sc cf N es es' = true → PW X (.BoolOp .And es' pos) (rdT g W (tAnd Gd C es))
  | .nil, X, W, sc, cf, c, es', pos, h0, h => (Bool.false_ne_true h0).elim
  | .cons a .nil, X, W, sc, cf, c, es', pos, h0, h => by
    unfold ckTs at h
    cases es' with
    | nil => cases h
    | cons e es =>
      dsimp only at h
      rw [Bool.and_eq_true] at h
      cases es with
      | nil => exact pw_and1 (sT a c h.1)
      | cons _ _ => exact absurd h.2 (by unfold ckTs; exact Bool.false_ne_true)
  | .cons a (.cons b r), X, W, sc, cf, c, es', pos, h0, h => by
    unfold ckTs at h
    cases es' with
    | nil => cases h
    | cons e es =>
      dsimp only at h
      rw [Bool.and_eq_true] at h
      cases es with
      | nil => exact absurd h.2 (by unfold ckTs; exact Bool.false_ne_true)
      | cons e2 es2 => exact pt_and (sT a c h.1) (sTAnd (.cons b r) c rfl h.2)
theorem sTOr : ∀ (es : CEs) {X : Cx} {W : WX} {sc : Scope} {cf : Str → Bool} (c : Cok X g W pr Gd C n N sc cf) {es' : List Expr} {pos : Pos}, (!nilEs es) = true → ckTs pr sc cf N es es' = true → PW X (.BoolOp .Or es' pos) (rdT g W (tOr Gd C es))
  | .nil, X, W, sc, cf, c, es', pos, h0, h => (Bool.false_ne_true h0).elim
  | .cons a .nil, X, W, sc, cf, c, es', pos, h0, h => by
    unfold ckTs at h
    cases es' with
    | nil => cases h
    | cons e es =>
      dsimp only at h
      rw [Bool.and_eq_true] at h
      cases es with
      | nil => exact pw_or1 (sT a c h.1)
      | cons _ _ => exact absurd h.2 (by unfold ckTs; exact Bool.false_ne_true)
  | .cons a (.cons b r), X, W, sc, cf, c, es', pos, h0, h => by
    unfold ckTs at h
    cases es' with
    | nil => cases h
    | cons e es =>
      dsimp only at h
      rw [Bool.and_eq_true] at h
      cases es with
      | nil => exact absurd h.2 (by unfold ckTs; exact Bool.false_ne_true)
      | cons e2 es2 => exact pt_or (sT a c h.1) (sTOr (.cons b r) c rfl h.2)
end
end Ev
end

section
set_option Elab.async false
set_option linter.all false
set_option maxRecDepth 100000
set_option maxHeartbeats 16000000
/-! E13: statements: the checker, its soundness; the defs of a program -/
namespace Ev
open PySem PySem.Spec PyProof.Rows L2

theorem PGs.imp {X : Cx} {es : List Expr} {t u : TGs} (h : L2.PGs X es t) (i : ∀ vs σ H Q, u vs σ H Q → t vs σ H Q) : L2.PGs X es u := ⟨fun pins s σ H vs us Q I r q => h.run pins s σ H vs us Q I r (i vs σ H Q q)⟩
def nlc : Expr → Bool
  | .ListComp _ _ _ _ => false
  | .SetComp _ _ _ _ => false
  | .DictComp _ _ _ _ _ => false
  | _ => true
theorem sw_nlc {e : Expr} {t : Option Expr} {l : Nat} {env : Env} (h : nlc e = true) : swapsWith e t l env = pure false := by
  cases e <;> first | rfl | exact (Bool.false_ne_true h).elim
theorem sw_tup {e : Expr} {es : List Expr} {k : Nat} {p : Pos} {l : Nat} {env : Env} : swapsWithSole [.Tuple es k p] e l env = pure false := by
  show swapsWith e (some (.Tuple es k p)) l env = pure false
  cases e <;> rfl
theorem sw_sub {e a i : Expr} {p : Pos} {l : Nat} {env : Env} : swapsWithSole [.Subscript a i p] e l env = pure false := by
  show swapsWith e (some (.Subscript a i p)) l env = pure false
  cases e <;> rfl
theorem st_name {x : Str} {p : Pos} {e : Expr} {env : Env} : swappedStores [.Name x p] e env = pure none := by
  cases e <;> rfl
theorem st_sub {a i : Expr} {p : Pos} {e : Expr} {env : Env} : swappedStores [.Subscript a i p] e env = pure none := by
  cases e <;> rfl
def isTupE : Expr → Bool
  | .Tuple _ _ _ => true
  | _ => false
theorem st_ntup {ts : List Expr} {k : Nat} {p : Pos} {e : Expr} {env : Env} (h : isTupE e = false) : swappedStores [.Tuple ts k p] e env = pure none := by
  cases e <;> first | rfl | exact (Bool.false_ne_true h.symm).elim
def isStar : Expr → Bool
  | .Starred _ _ => true
  | _ => false
def swNm (sc : Scope) (line : Nat) : Expr → Option Str
  | .Name id pos => if sc.names.lookup id == some .local && pos.line == line then some id else none
  | _ => none
def swSt (sc : Scope) (ts vs : List Expr) : Option (Option (List Str)) :=
  if !(ts.length == 2 || ts.length == 3) || vs.length != ts.length then some none else
  if vs.any isStar then some none else
  let names := ts.filterMap (swNm sc ((ts.head?.map (·.pos.line)).getD 0))
  if names.length != ts.length || names.eraseDups.length != names.length then some none else
  if vs.all (foldedForSure 8) then some none else
  if vs.all (constantsAlone 8) then none else some (some names)
theorem swSt_of {sc : Scope} {ts vs : List Expr} {k k2 : Nat} {p p2 : Pos} {env : Env} {r : Option (List Str)} (hs : env.scope = sc) (hk : sc.kind = .function) (h : swSt sc ts vs = some r) : swappedStores [.Tuple ts k p] (.Tuple vs k2 p2) env = pure r := by
  subst hs
  have hb : env.blockKind = .function := by unfold Env.blockKind; rw [hk]; rfl
  unfold swappedStores
  rw [hb]
  have hz : (ScopeKind.function != ScopeKind.function) = false := by decide
  rw [hz]
  change (if (!(ts.length == 2 || ts.length == 3) || vs.length != ts.length || false) = true then (pure none : Sem (Option (List Str))) else
    if vs.any isStar = true then pure none else
    if ((ts.filterMap (swNm env.scope ((ts.head?.map (·.pos.line)).getD 0))).length != ts.length || (ts.filterMap (swNm env.scope ((ts.head?.map (·.pos.line)).getD 0))).eraseDups.length != (ts.filterMap (swNm env.scope ((ts.head?.map (·.pos.line)).getD 0))).length) = true then pure none else
    if vs.all (foldedForSure 8) = true then pure none else
    if vs.all (constantsAlone 8) = true then _ else pure (some (ts.filterMap (swNm env.scope ((ts.head?.map (·.pos.line)).getD 0))))) = _
  unfold swSt at h
  dsimp only at h
  rw [Bool.or_false]
  split
  · rename_i h1; rw [if_pos h1] at h; cases h; rfl
  · rename_i h1
    rw [if_neg h1] at h
    split
    · rename_i h2; rw [if_pos h2] at h; cases h; rfl
    · rename_i h2
      rw [if_neg h2] at h
      split
      · rename_i h3; rw [if_pos h3] at h; cases h; rfl
      · rename_i h3
        rw [if_neg h3] at h
        split
        · rename_i h4; rw [if_pos h4] at h; cases h; rfl
        · rename_i h4
          rw [if_neg h4] at h
          split
          · rename_i h5; rw [if_pos h5] at h; cases h
          · rename_i h5; rw [if_neg h5] at h; cases h; rfl
/-! ### unpacking onto names and places -/
def tU (g : Gc) (W : WX) (Gd : List PyData) (C : Calls) (ts : List CT) : TGs := fun xs σ H Q => ∃ F f R ρ S ds D, Sm g F f R S H ∧ En g F f ρ σ ∧ DaAll g.K F xs ds ∧ ds.length = ts.length ∧ (∀ σ' H', D.nx σ' H' → Q σ' H') ∧ SatS g F f R W (unpD Gd C ts ds ρ S) D
section
variable {X : Cx} {g : Gc} {W : WX} {Gd : List PyData} {C : Calls}
theorem pu_nil : PGs X [] (tU g W Gd C []) := PGs.imp pgs_nil fun xs σ H Q ⟨F, f, R, ρ, S, ds, D, s, e, t, hl, hq, h⟩ => by
  cases ds with
  | cons _ _ => cases hl
  | nil =>
    cases t
    exact ⟨rfl, hq _ _ (h.nx s e)⟩
theorem pu_nm {i : Nat} {ts : List CT} {e : Expr} {es : List Expr} (h1 : PG X e (gName i)) (hn : nstar e = true) (h2 : PGs X es (tU g W Gd C ts)) : PGs X (e :: es) (tU g W Gd C (.nm i :: ts)) :=
  PGs.imp (pgs_cons h1 h2 (by rw [asg_cons hn]; rfl)) fun xs σ H Q ⟨F, f, R, ρ, S, ds, D, s, e, t, hl, hq, h⟩ => by
    cases t with
    | nil => cases hl
    | cons t1 t2 => exact ⟨_, _, rfl, F, f, R, _, S, _, D, s, e.set i (v := .d _) t1, t2, by simpa using hl, hq, h⟩
theorem pu_sub {a i : CE} {ts : List CT} {o ix : Expr} {p : Pos} {es : List Expr} (ho : PE X o (rd g W (dE Gd C a))) (hi : PE X ix (rd g W (dE Gd C i))) (hn : nslice ix = true) (h2 : PGs X es (tU g W Gd C ts)) : PGs X (.Subscript o ix p :: es) (tU g W Gd C (.sub a i :: ts)) :=
  PGs.imp (pgs_cons (pg_sub ho hi set_list (by intro v; cases ix <;> first | rfl | exact (Bool.false_ne_true hn).elim)) h2 (by rw [asg_cons rfl]; rfl)) fun xs σ H Q ⟨F, f, R, ρ, S, ds, D, s, e, t, hl, hq, h⟩ => by
    cases t with
    | nil => cases hl
    | cons t1 t2 =>
      refine ⟨_, _, rfl, ?_⟩
      refine rS s e (Sat.sbind (S := S) h) fun v F1 f1 S1 H1 x e1 s1 en1 r1 h1 => ?_
      refine rS s1 en1 (Sat.sbind (S := S) h1) fun u F2 f2 S2 H2 y e2 s2 en2 r2 h2 => ?_
      exact real_set s2 (r1.sub e2) r2 (w := .d _) (Da.sub e2.le (Da.sub e1.le t1)) ((S_of h2 en2).imp fun _ F4 f4 S4 H4 e4 s4 _ h4 =>
        ⟨F4, f4, R, ρ, S4, _, D, s4, en2.sub e4, DaAll.sub e4.le (DaAll.sub e2.le (DaAll.sub e1.le t2)), by simpa using hl, hq, h4⟩)
theorem sd_unp {te : TD Val} {ts : List CT} {es : List Expr} {e : Expr} {k : Nat} {p pos : Pos} (hK : g.K = X.K) (hc : X.calm = true) (he : PE X e (rd g W te)) (hg : PGs X es (tU g W Gd C ts)) (hst : es.all nstar = true) (hl : es.length = ts.length) (hw : swappedStores [.Tuple es k p] e X.env = pure none) :
    PS X (.Assign [.Tuple es k p] e pos) (rdS g W fun ρ S => (te ρ S).s ρ fun v S1 => match v with
      | .d (.tuple xs) => if xs.length = ts.length then unpD Gd C ts xs ρ S1 else .stuck
      | _ => .stuck) := by
  obtain ⟨n1, n2⟩ := hn_names (env := X.env) hst
  refine (ps_asg he (pg_tup hc hg (n1.trans hl) n2) sw_tup hw rfl).imp fun D σ H ⟨F, f, R, ρ, S, s, e, h⟩ => ?_
  refine rS s e h fun v F1 f1 S1 H1 x e1 s1 en1 r1 h1 => ?_
  split at h1
  · split at h1
    · rename_i hlen
      cases r1 with
      | tup h2 t => exact ⟨_, _, rfl, hK ▸ SqT.sub s1.le h2, by rw [t.len]; exact hlen, F1, f1, R, ρ, S1, _, D, s1, en1, t, hlen, fun _ _ h => h, h1⟩
    · exact h1.elim
  · exact h1.elim
end
/-! ### the checker -/
section
variable (pr : Pg)
def ckUn (sc : Scope) (N : List Str) : List CT → List Expr → Bool
  | [], es => es.isEmpty
  | .nm i :: ts, es => match es with
    | e :: es => tgB sc (fun _ => true) N i e && ckUn sc N ts es
    | [] => false
  | .sub a i :: ts, es => match es with
    | .Subscript a' i' _ :: es => nslice i' && ckE pr sc (fun _ => true) N a a' && ckE pr sc (fun _ => true) N i i' && ckUn sc N ts es
    | _ => false
/-- a list comprehension goes to a local name of the same line -/
def ckLc (sc : Scope) (y : Str) (py : Pos) : Expr → Bool
  | .ListComp _ _ scope p => (py.line == p.line) && !(scope.names.any fun (n, k) => n == y && (k == .local || k == .cell))
  | _ => false
def isLc : CE → Bool
  | .lc _ _ _ _ _ _ => true
  | _ => false
def noneB : Option (Option (List Str)) → Bool
  | some none => true
  | _ => false
def ckAsg (sc : Scope) (N : List Str) (t : Tg) (e : CE) (tg e' : Expr) : Bool := match t, tg with
  | .nm i, .Name x p => tgB sc (fun _ => true) N i tg && ckE pr sc (fun _ => true) N e e' && (nlc e' || (decide (sc.names.lookup x = some .cell) && isLc e) || (decide (sc.names.lookup x = some .local) && ckLc sc x p e' && isLc e))
  | .tup is, .Tuple ts _ _ => tgsB sc (fun _ => true) N is ts && ckE pr sc (fun _ => true) N e e' && (match e' with
    | .Tuple vs _ _ => noneB (swSt sc ts vs)
    | _ => true)
  | _, _ => false
def ckPar (sc : Scope) (N : List Str) (is : List Nat) (es : CEs) (ts vs : List Expr) : Bool := match is, ts, vs with
  | [i, j], [.Name x _, .Name y _], [_, _] => decide (N[i]? = some x) && decide (N[j]? = some y) && decide (i ≠ j) && decide (sc.names.lookup x = some .local) && decide (sc.names.lookup y = some .local) && decide (swSt sc ts vs = some (some [x, y])) && ckEs pr sc (fun _ => true) N es vs
  | [i, j, l], [.Name x _, .Name y _, .Name z _], [_, _, _] => decide (N[i]? = some x) && decide (N[j]? = some y) && decide (N[l]? = some z) && decide (i ≠ j ∧ i ≠ l ∧ j ≠ l) && decide (sc.names.lookup x = some .local) && decide (sc.names.lookup y = some .local) && decide (sc.names.lookup z = some .local) &&
    decide (swSt sc ts vs = some (some [x, y, z])) && ckEs pr sc (fun _ => true) N es vs
  | _, _, _ => false
mutual
def ckS (sc : Scope) (N : List Str) : CS → Stmt → Bool
  | .ret a, s => match s with
    | .Return (some e) _ => ckE pr sc (fun _ => true) N a e
    | _ => false
  | .retN, s => match s with
    | .Return none _ => true
    | _ => false
  | .ife c a b, s => match s with
    | .If c' a' b' _ => ckT pr sc (fun _ => true) N c c' && ckSs sc N a a' && ckSs sc N b b'
    | _ => false
  | .asg t e, s => match s with
    | .Assign [tg] e' _ => ckAsg pr sc N t e tg e'
    | _ => false
  | .par is es, s => match s with
    | .Assign [.Tuple ts _ _] (.Tuple vs _ _) _ => ckPar pr sc N is es ts vs
    | _ => false
  | .seti a i e, s => match s with
    | .Assign [.Subscript a' i' _] e' _ => nslice i' && ckE pr sc (fun _ => true) N a a' && ckE pr sc (fun _ => true) N i i' && ckE pr sc (fun _ => true) N e e'
    | _ => false
  | .unp ts e, s => match s with
    | .Assign [.Tuple es' _ _] e' _ => ckUn pr sc N ts es' && es'.all nstar && decide (es'.length = ts.length) && !isTupE e' && ckE pr sc (fun _ => true) N e e'
    | _ => false
  | .for_ tg it b, s => match s with
    | .For tg' it' b' [] _ => nset it' && ckTg sc (fun _ => true) N tg tg' && ckI pr sc (fun _ => true) N (isTup tg') it it' && ckSs sc N b b'
    | _ => false
  | .whl _ c b, s => match s with
    | .While c' b' [] _ => ckT pr sc (fun _ => true) N c c' && ckSs sc N b b'
    | _ => false
  | .expr e, s => match s with
    | .Expr e' _ => nlc e' && ckE pr sc (fun _ => true) N e e'
    | _ => false
  | .pass, s => match s with
    | .Pass _ => true
    | .Expr (.Constant (.str _) _ _) _ => true
    | _ => false
  | .brk, s => match s with
    | .Break _ => true
    | _ => false
  | .cnt, s => match s with
    | .Continue _ => true
    | _ => false
  | .raise _ _, _ => false
  | .never, _ => true
def ckSs (sc : Scope) (N : List Str) : CSs → List Stmt → Bool
  | .nil, ss => ss.isEmpty
  | .cons a r, ss => match ss with
    | s :: ss => ckS sc N a s && ckSs sc N r ss
    | [] => false
end
end
end Ev
end

section
set_option Elab.async false
set_option linter.all false
set_option maxRecDepth 100000
set_option maxHeartbeats 16000000
/-! E14: statements and defs are sound -/
namespace Ev
open PySem PySem.Spec PyProof.Rows L2
section
variable {g : Gc} {pr : Pg} {Gd : List PyData} {C : Calls} {n : Nat} {N : List Str} {sc : Scope} {X : Cx} {W : WX}
theorem un_of (c : Cok X g W pr Gd C n N sc fun _ => true) : ∀ {ts : List CT} {es : List Expr}, ckUn pr sc N ts es = true → PGs X es (tU g W Gd C ts)
  | [], es, h => by
    cases es with
    | nil => exact pu_nil
    | cons _ _ => cases h
  | .nm i :: ts, es, h => by
    unfold ckUn at h
    cases es with
    | nil => cases h
    | cons e es =>
      dsimp only at h
      rw [Bool.and_eq_true] at h
      obtain ⟨h1, h2⟩ := tg_of c h.1
      exact pu_nm h1 h2 (un_of c h.2)
  | .sub a i :: ts, es, h => by
    unfold ckUn at h
    split at h
    · simp only [Bool.and_eq_true] at h
      exact pu_sub (sE a c h.1.1.2) (sE i c h.1.2) h.1.1.1 (un_of c h.2)
    · cases h
theorem lc_asg (c : Cok X g W pr Gd C n N sc fun _ => true) {m : Bool} {elt : CE} {own : List (Str × Nat)} {tg : Tg} {it : CI} {cond : CO} {i : Nat} {y : Str} {py spos : Pos} {e : Expr}
    (h : ckE pr sc (fun _ => true) N (.lc m elt own tg it cond) e = true) (hi : N[i]? = some y) (hy : sc.names.lookup y = some .local) (hl : ckLc sc y py e = true) : PS X (.Assign [.Name y py] e spos) (rdS g W (asgD (.nm i) (dE Gd C (.lc m elt own tg it cond)))) := by
  unfold ckE at h
  split at h
  · rename_i elt' tg' iter' ifs' scope p
    simp only [Bool.and_eq_true, List.all_eq_true, decide_eq_true_eq] at h
    obtain ⟨⟨⟨⟨⟨⟨h1, h2⟩, h3⟩, h4⟩, h5⟩, h6⟩, h7⟩ := h
    have ok := blkOk_by h1
    have nd : X.N.Nodup := by rw [c.hN]; exact c.nd
    have ok' : BlkOk X.N X.env.scope scope own := by rw [c.hN, c.hsc]; exact ok
    unfold ckLc at hl
    rw [Bool.and_eq_true, Bool.not_eq_true'] at hl
    have hk : X.env.scope.kind = .function := by rw [c.hsc]; exact c.kd
    have hy' : X.env.scope.names.lookup y = some .local := by rw [c.hsc]; exact hy
    exact sd_setLc c.calm nd (by rw [c.hN]; exact hi) hy' (sw_true hk hy' hl.1 hl.2) (sI it c h5) ok' (tgG_r g tg) h4 (fun s H C' cl fp => (ckTg_of (c.blk ok.kind s H C' cl fp) h3).1)
      (fun s H C' cl fp => sC cond (c.blk ok.kind s H C' cl fp) h6) (fun s H C' cl fp => sE elt (c.blk ok.kind s H C' cl fp) h7) (fold_of h2)
  · cases h
theorem sw_cell {e : Expr} {y : Str} {p : Pos} {l : Nat} {env : Env} (h : env.scope.names.lookup y = some .cell) : swapsWith e (some (.Name y p)) l env = pure false := by
  have hk : (env.kindOf y == some NameKind.local) = false := by
    show (env.scope.names.lookup y == some NameKind.local) = false
    rw [h]; rfl
  cases e <;> first
    | rfl
    | (unfold swapsWith; simp only [hk, Bool.and_false, Bool.false_and])
theorem asg_of (c : Cok X g W pr Gd C n N sc fun _ => true) {t : Tg} {e : CE} {tg e' : Expr} {pos : Pos} (h : ckAsg pr sc N t e tg e' = true) : PS X (.Assign [tg] e' pos) (rdS g W (asgD t (dE Gd C e))) := by
  unfold ckAsg at h
  split at h
  · rename_i i x p
    rw [Bool.and_eq_true, Bool.and_eq_true, Bool.or_eq_true, Bool.or_eq_true] at h
    obtain ⟨⟨h1, h2⟩, h3⟩ := h
    have q := h1
    unfold tgB at q
    simp only [Bool.and_eq_true, Bool.or_eq_true, decide_eq_true_eq, and_true] at q
    have hN : X.N[i]? = some x := by rw [c.hN]; exact q.1
    have nd : X.N.Nodup := by rw [c.hN]; exact c.nd
    have hloc : Loc X.env.scope x := by rw [c.hsc]; exact q.2
    rcases h3 with (h3 | h3) | h3
    · exact sd_set nd hN hloc (sE e c h2) (sw_nlc h3) (.inl (c.fn x rfl))
    · rw [Bool.and_eq_true] at h3
      exact sd_set nd hN hloc (sE e c h2) (sw_cell (by rw [c.hsc]; exact of_decide_eq_true h3.1)) (.inl (c.fn x rfl))
    · rw [Bool.and_eq_true, Bool.and_eq_true] at h3
      obtain ⟨⟨h4, h5⟩, h6⟩ := h3
      cases e <;> first
        | exact (Bool.false_ne_true h6).elim
        | exact lc_asg c h2 q.1 (of_decide_eq_true h4) h5
  · rename_i is ts k p
    rw [Bool.and_eq_true, Bool.and_eq_true] at h
    obtain ⟨⟨h1, h2⟩, h3⟩ := h
    obtain ⟨g1, g2⟩ := ckTg_of (t := .tup is) (e := .Tuple ts k p) c h1
    refine sd_asg (tgG_r g (.tup is)) (sE e c h2) g1 sw_tup ?_ rfl
    by_cases ht : isTupE e' = true
    · cases e' <;> first
        | exact (Bool.false_ne_true ht).elim
        | (dsimp only at h3
           unfold noneB at h3
           split at h3
           · rename_i hs
             exact swSt_of c.hsc c.kd hs
           · cases h3)
    · exact st_ntup (Bool.eq_false_iff.mpr ht)
  · cases h
theorem par_of (c : Cok X g W pr Gd C n N sc fun _ => true) {is : List Nat} {es : CEs} {ts vs : List Expr} {k k2 : Nat} {p p2 pos : Pos} (h : ckPar pr sc N is es ts vs = true) : PS X (.Assign [.Tuple ts k p] (.Tuple vs k2 p2) pos) (rdS g W (parS is (dEs Gd C es))) := by
  have nd : X.N.Nodup := by rw [c.hN]; exact c.nd
  unfold ckPar at h
  split at h
  · simp only [Bool.and_eq_true, decide_eq_true_eq] at h
    obtain ⟨⟨⟨⟨⟨⟨h1, h2⟩, h3⟩, h4⟩, h5⟩, h6⟩, h7⟩ := h
    exact sd_par c.calm nd (by rw [c.hN]; exact h1) (by rw [c.hN]; exact h2) h3 (by rw [c.hsc]; exact h4) (by rw [c.hsc]; exact h5) (sEs es c h7) (swSt_of c.hsc c.kd h6)
  · simp only [Bool.and_eq_true, decide_eq_true_eq] at h
    obtain ⟨⟨⟨⟨⟨⟨⟨⟨h1, h2⟩, h3⟩, ⟨h4, h5, h6⟩⟩, h7⟩, h8⟩, h9⟩, h10⟩, h11⟩ := h
    exact sd_par3 c.calm nd (by rw [c.hN]; exact h1) (by rw [c.hN]; exact h2) (by rw [c.hN]; exact h3) h4 h5 h6 (by rw [c.hsc]; exact h7) (by rw [c.hsc]; exact h8) (by rw [c.hsc]; exact h9) (sEs es c h11) (swSt_of c.hsc c.kd h10)
  · cases h
end
section
variable {g : Gc} {pr : Pg} {Gd : List PyData} {C : Calls} {n : Nat} {N : List Str} {sc : Scope} {X : Cx} {W : WX}
mutual
theorem sS (c : Cok X g W pr Gd C n N sc fun _ => true) (own : PassesOwn (model X.prog X.w) X.A X.env X.xe) : ∀ (cs : CS) {s : Stmt}, ckS pr sc N cs s = true → PS X s (rdS g W (dS Gd C cs))
  | .ret a, s, h => by
    unfold ckS at h
    split at h
    · exact sd_ret (sE a c h)
    · cases h
  | .retN, s, h => by
    unfold ckS at h
    split at h
    · exact sd_retN
    · cases h
  | .ife t a b, s, h => by
    unfold ckS at h
    split at h
    · simp only [Bool.and_eq_true] at h
      exact sd_if (sT t c h.1.1) (sSs c own a h.1.2) (sSs c own b h.2)
    · cases h
  | .asg t e, s, h => by
    unfold ckS at h
    split at h
    · exact asg_of c h
    · cases h
  | .par is es, s, h => by
    unfold ckS at h
    split at h
    · exact par_of c h
    · cases h
  | .seti a i e, s, h => by
    unfold ckS at h
    split at h
    · rename_i a' i' p e' q
      simp only [Bool.and_eq_true] at h
      exact sd_seti (sE a c h.1.1.2) (sE i c h.1.2) (sE e c h.2) sw_sub st_sub (by have hn := h.1.1.1; intro v; cases i' <;> first | rfl | exact (Bool.false_ne_true hn).elim)
    · cases h
  | .unp ts e, s, h => by
    unfold ckS at h
    split at h
    · simp only [Bool.and_eq_true, decide_eq_true_eq, Bool.not_eq_true'] at h
      obtain ⟨⟨⟨⟨h1, h2⟩, h3⟩, h4⟩, h5⟩ := h
      exact sd_unp c.wo.hK c.calm (sE e c h5) (un_of c h1) h2 h3 (st_ntup h4)
    · cases h
  | .for_ tg it b, s, h => by
    unfold ckS at h
    split at h
    · simp only [Bool.and_eq_true] at h
      obtain ⟨⟨⟨h1, h2⟩, h3⟩, h4⟩ := h
      exact sd_for own c.calm (tgG_r g tg) (sI it c h3) (ckTg_of c h2).1 (sSs c own b h4) (fold_of h1)
    · cases h
  | .whl k t b, s, h => by
    unfold ckS at h
    split at h
    · simp only [Bool.and_eq_true] at h
      exact sd_whl own (sT t c h.1) (sSs c own b h.2)
    · cases h
  | .expr e, s, h => by
    unfold ckS at h
    split at h
    · simp only [Bool.and_eq_true] at h
      exact sd_expr (sE e c h.2) (sw_nlc h.1)
    · cases h
  | .pass, s, h => by
    unfold ckS at h
    split at h
    · exact sd_pass
    · exact sd_doc
    · cases h
  | .brk, s, h => by
    unfold ckS at h
    split at h
    · exact sd_brk
    · cases h
  | .cnt, s, h => by
    unfold ckS at h
    split at h
    · exact sd_cnt
    · cases h
  | .raise k e, s, h => (Bool.false_ne_true h).elim
  | .never, s, h => sd_never
theorem sSs (c : Cok X g W pr Gd C n N sc fun _ => true) (own : PassesOwn (model X.prog X.w) X.A X.env X.xe) : ∀ (cs : CSs) {ss : List Stmt}, ckSs pr sc N cs ss = true → PSs X ss (rdS g W (dSs Gd C cs))
  | .nil, ss, h => by
    unfold ckSs at h
    cases ss with
    | nil => exact ss_nil
    | cons _ _ => cases h
  | .cons a r, ss, h => by
    unfold ckSs at h
    cases ss with
    | nil => cases h
    | cons s ss =>
      dsimp only at h
      rw [Bool.and_eq_true] at h
      exact ss_cons (sS c own a h.1) (sSs c own r h.2)
end
end
/-! ### all defs of a program -/
structure Tx (P : Program) (w : World) (K : PySem.W.Frag) (mg : Str → Option Value) (base : Heap) (g : Gc) (pr : Pg) (Gd : List PyData) (T : List Df) : Prop where
  hK : g.K = K
  sy : SysK K
  gl : ∀ (k : Nat) (x : Str), pr.gl[k]? = some x → ∃ d v u, Gd[k]? = some d ∧ mg x = some u ∧ RelV v u ∧ ∀ F, Da g.K F v d
  bl : ∀ x ∈ pr.bl, mg x = none
  fn : ∀ (k : Nat) (dd : Dd), pr.defs[k]? = some dd → mg dd.name = some (.ref (g.ad k)) ∧ PySem.W.keepIn K (.ref (g.ad k)) = true ∧
    ∃ (x qual : Str) (params : Arguments) (body : List Stmt) (scope : Scope) (dvs : List V) (kws : List (Str × V)) (fd : FuncData) (N : List Str) (df : Df), FunD K x qual params body scope dvs kws (g.ad k) fd ∧ FnScope N dd.ps scope ∧
      T[k]? = some df ∧ df.np = dd.ps.length ∧ df.nn = N.length ∧ ckSs pr scope N df.body body = true ∧ L2.Binds K fd dd.ps [] ∧ ∀ q ∈ pr.kws, q.1 = k → KwB K fd dd.ps q.2.1 q.2.2.1 q.2.2.2
section
variable {P : Program} {w : World} {K : PySem.W.Frag} {mg : Str → Option Value} {base : Heap} {g : Gc} {pr : Pg} {Gd : List PyData} {T : List Df}
/-- the defs at a depth -/
def FnA (P : Program) (w : World) (K : PySem.W.Frag) (mg : Str → Option Value) (base : Heap) (g : Gc) (pr : Pg) (Gd : List PyData) (T : List Df) (n : Nat) : Prop := ∀ (k : Nat) (dd : Dd), pr.defs[k]? = some dd → mg dd.name = some (.ref (g.ad k)) ∧ PySem.W.keepIn K (.ref (g.ad k)) = true ∧
    ∃ fd, (∃ oc od osl, K.lookup (g.ad k) = some ⟨oc, od, .func fd, osl⟩) ∧ FnG P w K mg base n (g.ad k) fd dd.ps (spD g (sem Gd T n) k dd.ps.length) ∧ L2.Binds K fd dd.ps [] ∧ ∀ q ∈ pr.kws, q.1 = k → KwB K fd dd.ps q.2.1 q.2.2.1 q.2.2.2
theorem FunD.at_ {x qual : Str} {params : Arguments} {body : List Stmt} {scope : Scope} {dvs : List V} {kws : List (Str × V)} {f : Addr} {fd : FuncData} (F : L2.FunD K x qual params body scope dvs kws f fd) : ∃ oc od osl, K.lookup f = some ⟨oc, od, .func fd, osl⟩ :=
  let ⟨oc, od, _, _, _, _, _, _, _, osl, _, lk, _⟩ := F.ex
  ⟨oc, od, osl, lk⟩
theorem fn_all (t : Tx P w K mg base g pr Gd T) : ∀ n, FnA P w K mg base g pr Gd T n
  | 0 => fun k dd hk => by
    obtain ⟨h1, h2, x, qual, params, body, scope, dvs, kws, fd, N, df, h3, h4, h5, h6, h7, h8, h9, h10⟩ := t.fn k dd hk
    refine ⟨h1, h2, fd, FunD.at_ h3, ⟨spD_len, fun A outer s H args us vs Q E hr hg e0 hb r hsp => ?_⟩, h9, h10⟩
    obtain ⟨F, f, R, S, as, _, _, _, z⟩ := hsp
    exact z.elim
  | n + 1 => fun k dd hk => by
    have ih := fn_all t n
    obtain ⟨h1, h2, x, qual, params, body, scope, dvs, kws, fd, N, df, h3, h4, h5, h6, h7, h8, h9, h10⟩ := t.fn k dd hk
    refine ⟨h1, h2, fd, FunD.at_ h3, fnG_of h3 h4 spD_len fun cdv A outer s H vs Q E hr hg hsp => ?_, h9, h10⟩
    obtain ⟨F, f, R, S, as, sm, rs, hl, z⟩ := hsp
    have c : Cok (cxOf (L2.CX P w) P w K mg base N qual scope (g.ad k) cdv A outer s H E) g (fun cls d _ H => E cls d H) pr Gd (sem Gd T n) n N scope fun _ => true :=
      ⟨⟨t.hK, t.sy, hr, hg, t.gl, t.bl, fun k dd h => let ⟨a, b, fd, _, c⟩ := ih k dd h; ⟨a, b, fd, c⟩⟩, rfl, h4.nd, rfl, h4.kind, rfl, takes_of rfl rfl rfl rfl, fun _ _ => rfl⟩
    refine ⟨_, sSs c (passes_of rfl) df.body h8, F, f, R, entry df.np df.nn as, S, sm, entry_en h7.symm rs, ?_⟩
    have z : Sat g F f R (fun C d H' => E C d H') (sem Gd T (n + 1) k as S) fun v F' f' S' H' => ∀ x, VR g F' f' x v → Q x H' := z
    unfold sem at z
    rw [h5] at z
    dsimp only at z
    rw [if_pos (hl.trans h6.symm)] at z
    exact body_of sm.len z
end
end Ev
end

section
set_option Elab.async false
set_option linter.all false
set_option maxRecDepth 100000
set_option maxHeartbeats 4000000
/-! E15: a law's end -/
namespace Ev
open PySem PySem.Spec PyProof.Rows L2

/-! ### the law's def is called with the script -/
theorem law_callG {P : Program} {w : World} {K : PySem.W.Frag} {mg mb : Str → Option Value} {k : Nat} {fa a : Addr} {fd : FuncData} {x : Str} {sp : Sp} {s₁ : Shared} {vs : List Value} {ns : List Int}
    (KX : K.In s₁.heap) (hns : s₁.heap.Ns mainGlobals mg) (hb : s₁.heap.Ns builtinsNs mb) (hbb : ∀ x : Str, x ≠ "__name__" → mb x = bootBuiltins x) (hlim : s₁.heap.NoLimit) (hg : s₁.gens = #[])
    (ha : s₁.heap.get? a = some { cls := .type "list", data := .seq vs.toArray }) (hi : IntsAre vs ns) (hl : ns.length ≤ sizeLine) (hr : Room k callerA) (nk : K.lookup a = none)
    (Fn : ∀ base : Heap, K.In base → base.Ns mainGlobals mg → FnG P w K mg base k fa fd [x] sp) (hbind : ∀ (s : Shared) (u : Value), BindsTo s fd ⟨[u], []⟩ [(x, u)])
    (hsp : ∀ H : Hp, Rd H a (.lst (ns.map V.int)) → sp [.ref a] H (fun v _ => v = .bl true) fun _ _ _ => False) :
    codeAny (model P w) callerA (.call (.ref fa) ⟨[.ref a], []⟩) (fun r s' => r = .ok (.ret (.bool true)) ∧ OldK s₁.heap s'.heap ∧ s'.os = s₁.os ∧ AllBare s'.gens) s₁ := by
  generalize hob : ({ cls := .type "list", data := .seq vs.toArray } : Obj) = ob at ha
  generalize hH : (fun b => if b = a then some (HO.frz ob (.lst (ns.map V.int))) else none : Hp) = H
  have at_a : H a = some (.frz ob (.lst (ns.map V.int))) := by subst hH; exact if_pos rfl
  have off : ∀ b, b ≠ a → H b = none := fun b hb => by subst hH; exact if_neg hb
  have only : ∀ {b : Addr} {o : Obj}, s₁.heap.get? b = some o → b ≠ a → (hidT s₁.heap H).get? b = some o := fun e n => hidT_get e (off _ n)
  have ns_off : ∀ {b : Addr} {m : Str → Option Value}, s₁.heap.Ns b m → (hidT s₁.heap H).Ns b m := fun {b m} ⟨o, es, ep, e, d, r⟩ => by
    refine ⟨o, es, ep, only e fun z => ?_, d, r⟩
    subst z
    rw [ha] at e; cases e
    rw [← hob] at d
    cases d
  have inK : K.In (hidT s₁.heap H) := fun b o e => only (KX b o e) fun z => by
    subst z
    rw [nk] at e; cases e
  have mod : Mod K mg (hidT s₁.heap H) := ⟨inK, ns_off hns, ⟨mb, ns_off hb, hbb⟩, let ⟨mc, h1, h2⟩ := hlim; ⟨mc, ns_off h1, h2⟩⟩
  have hok : HOk P w H s₁.heap := fun b u z => by
    by_cases e : b = a
    · subst e
      rw [at_a] at z; cases z
      exact ⟨ha, by rw [List.length_map]; exact hl, vs, _, vals_ints hi, by rw [ha, ← hob]⟩
    · rw [off b e] at z; cases z
  have env : Env0 P w K mg (hidT s₁.heap H) callerA [] s₁ H := ⟨rfl, mod, fun b o e => of_hidT e, Nat.le_of_eq (hidT_size _ _), trivial, fun b z => absurd (show b ∈ ([] : List Addr) from z) (by simp), hok, .of_eq hg⟩
  refine codeAny_mono ((Fn _ inK (ns_off hns)).run callerA [] s₁ H ⟨[.ref a], []⟩ [.ref a] [.ref a] _ _ hr rfl env (hbind s₁ (.ref a)) (.cons rfl .nil) (hsp H (.inr ⟨ob, at_a⟩))) fun r s' h => ?_
  cases r with
  | error e =>
    obtain ⟨_, _, _, _, _, _, _, _, _, _, _, _, z⟩ := (show L2.CX P w [] H s₁ (fun _ _ _ => False) e s' from h)
    exact z.elim
  | ok fl =>
    cases fl with
    | next => exact False.elim h
    | brk => exact False.elim h
    | cont => exact False.elim h
    | ret u =>
      obtain ⟨v, H', os, bare, un, hok', r', q⟩ := h
      have q' : v = .bl true := q
      subst q'
      obtain rfl : u = Value.bool true := r'
      refine ⟨rfl, OldK.of_keep fun b o e => ?_, os, bare⟩
      by_cases eb : b = a
      · subst eb
        have z2 := un.frzs b ob _ at_a
        obtain ⟨e1, _⟩ := hok b _ at_a
        obtain ⟨e2, _⟩ := hok' b _ z2
        rw [e] at e1; cases e1
        exact e2
      · exact un.keep b o e (off b eb) (by intro z; exact absurd (show b ∈ ([] : List Addr) from z) (by simp)) (by simp)
/-- the promise about the script -/
theorem spD_law {g : Gc} {K : PySem.W.Frag} {C : Calls} {k : Nat} {ns : List Int} {a : Addr} {H : Hp} (hK : g.K = K) (h : Rd H a (.lst (ns.map V.int))) (z : ∃ S', C k [.d (.list (ns.map .int))] [] = .ok (.d (.bool true)) S') :
    spD g C k 1 [.ref a] H (fun v _ => v = .bl true) fun _ _ _ => False := by
  obtain ⟨S', z⟩ := z
  have allI : ∀ ns : List Int, DaAll g.K H (ns.map V.int) (ns.map PyData.int) := by
    intro ns
    induction ns with
    | nil => exact .nil
    | cons n ns ih => exact .cons (.int n) ih
  refine ⟨H, [], [], [], [.d (.list (ns.map .int))], ⟨fun _ _ e => e, fun _ z => absurd z (by simp), List.nodup_nil, rfl, fun n ob a z => by simp at z, fun q z => absurd z (by simp)⟩, .cons (.lst h (allI ns)) .nil, rfl, ?_⟩
  rw [z]
  intro F' f' H' _ _ x r
  cases r
  rfl
theorem walkV {l : PySem.W.OpenLaw} {n m k : Nat} {q : Program} {loose : List Str} {XP : (Str → Option Value) → Heap → Prop} {YP : World → Heap → Prop} {d : DefRec} {x : Str}
    (hn : l.most = some n) (hn2 : n ≤ sizeLine) (hdf : d.params.defaults = []) (hr : Room m callerA) {Gd : List PyData} {T : List Df}
    (sound : ∀ ns : List Int, ns.length ≤ n → ∃ S', sem Gd T m k [.d (.list (ns.map .int))] [] = .ok (.d (.bool true)) S')
    (Fn : ∀ (w : World) (mg : Str → Option Value) (fa : Addr) (h : Heap), YP w h → h.Ns mainGlobals mg → mg d.name = some (.ref fa) →
      ∃ (K : PySem.W.Frag) (fd : FuncData) (g : Gc), K.In h ∧ g.K = K ∧ (∀ a o, K.lookup a = some o → o.cls ≠ .type "list") ∧ (∀ (s : Shared) (u : Value), BindsTo s fd ⟨[u], []⟩ [(x, u)]) ∧
        ∀ base : Heap, K.In base → base.Ns mainGlobals mg → FnG l.prog w K mg base m fa fd [x] (spD g (sem Gd T m) k 1)) :
    PySem.W.WalkO q loose XP YP l.row.toRowW d [] (fun f vs => PySem.call f vs) := by
  refine Att.attach_call hn hdf fun w s₀ s₁ mg mb fa o pm cd doc a vs ns G Y ho hd hcd hmg hobj hints hlen hg => ?_
  obtain ⟨K, fd, g, KX, hK, nl, hb, hF⟩ := Fn w mg fa _ Y G.T.g hmg
  have nk : K.lookup a = none := by
    cases e : K.lookup a with
    | none => rfl
    | some o =>
      have := KX a o e
      rw [hobj] at this
      cases this
      exact absurd rfl (nl a _ e)
  exact law_callG KX G.T.g G.T.b G.T.builtins G.T.nolimit hg hobj hints (Nat.le_trans hlen hn2) hr nk hF hb fun H hS => spD_law hK hS (sound ns hlen)

/-! ### what the run of the top tells -/
def kOf (n : Nat) (g : Addr → Option Obj) : PySem.W.Frag := He.frG g (sysModules :: He.asD g n)
abbrev AlV : Type := Bool × List He.FnW
def SaysV (fn : List He.DefD) (ex : PySem.W.Frag → Bool) (K : PySem.W.Frag) : Prop := ((fn.all fun d => d.ok K) && ex K, fn.map fun d => He.fnW K d.at_) = (true, fn.map He.DefD.val)
def obsV (n : Nat) (fn : List He.DefD) (ex : PySem.W.Frag → Bool) (g : Addr → Option Obj) : AlV := (fun K => ((fn.all fun d => d.ok K) && ex K, fn.map fun d => He.fnW K d.at_)) (kOf n g)
def hookV (n : Nat) (fn : List He.DefD) (ex : PySem.W.Frag → Bool) : PySem.W.Hook where
  α := AlV
  obs := fun s => obsV n fn ex s.heap.get?
  val := fun _ => (true, fn.map He.DefD.val)
  says := fun _ h => ∃ K : PySem.W.Frag, K.In h ∧ SaysV fn ex K
  of := fun _ _ e => ⟨_, He.frG_in, e⟩
  keeps := fun _ _ _ ⟨K, hK, c⟩ k => ⟨K, PySem.W.Frag.In.keeps hK k, c⟩
theorem obsV_eq {n : Nat} {fn : List He.DefD} {ex : PySem.W.Frag → Bool} {g : Addr → Option Obj} {s : Shared} (h : ∀ a, g a = s.heap.get? a) : obsV n fn ex g = (hookV n fn ex).obs s := by
  have e : g = s.heap.get? := funext h
  rw [e] <;> rfl
theorem SaysV.fun_ {fn : List He.DefD} {ex : PySem.W.Frag → Bool} {K : PySem.W.Frag} (c : SaysV fn ex K) {i : Nat} {d : He.DefD} (h : fn[i]? = some d) : ∃ fd, FunD K d.name d.qual d.params d.body d.scope (d.dvs K) (d.kws K) (He.fAd K d.at_) fd := by
  have c1 : ((fn.all fun d => d.ok K) && ex K) = true := congrArg (fun z : AlV => z.1) c
  have e : fn.map (fun d => He.fnW K d.at_) = fn.map He.DefD.val := congrArg (fun z : AlV => z.2) c
  rw [Bool.and_eq_true, List.all_eq_true] at c1
  have e2 : (fn.map fun d => He.fnW K d.at_)[i]? = (fn.map He.DefD.val)[i]? := by rw [e]
  rw [List.getElem?_map, List.getElem?_map, h] at e2
  exact He.DefD.funD (Option.some.inj e2) (c1.1 d (List.mem_of_getElem? h))
theorem SaysV.ex_ {fn : List He.DefD} {ex : PySem.W.Frag → Bool} {K : PySem.W.Frag} (c : SaysV fn ex K) : ex K = true := by
  have c1 : ((fn.all fun d => d.ok K) && ex K) = true := congrArg (fun z : AlV => z.1) c
  rw [Bool.and_eq_true] at c1
  exact c1.2

/-! ### constants of the module -/
mutual
/-- the value u is the data d, within K -/
def datB (K : PySem.W.Frag) : PyData → Value → Bool
  | .none, .none => true
  | .bool b, .bool c => b == c
  | .int i, .int j _ => decide (i = j)
  | .str x, .str y _ => decide (x = y)
  | .tuple ds, .ref a => match K.lookup a with
    | some ⟨.type c, _, .seq its _, _⟩ => decide (c = "tuple") && decide (its.size ≤ sizeLine) && datsB K ds its.toList
    | _ => false
  | _, _ => false
def datsB (K : PySem.W.Frag) : List PyData → List Value → Bool
  | [], [] => true
  | d :: ds, u :: us => datB K d u && datsB K ds us
  | _, _ => false
end
mutual
theorem datB_ok {K : PySem.W.Frag} : ∀ {d : PyData} {u : Value}, datB K d u = true → ∃ v, RelV v u ∧ ∀ F, Da K F v d
  | .none, u, h => by
    cases u with
    | none => exact ⟨.non, rfl, fun _ => .non⟩
    | _ => exact (Bool.false_ne_true h).elim
  | .bool b, u, h => by
    cases u with
    | bool c =>
      unfold datB at h
      cases (beq_iff_eq.mp h)
      exact ⟨.bl b, rfl, fun _ => .bl b⟩
    | _ => exact (Bool.false_ne_true h).elim
  | .int i, u, h => by
    cases u with
    | int j t =>
      unfold datB at h
      cases (of_decide_eq_true h)
      exact ⟨.int i, ⟨t, rfl⟩, fun _ => .int i⟩
    | _ => exact (Bool.false_ne_true h).elim
  | .str i, u, h => by
    cases u with
    | str j t =>
      unfold datB at h
      cases (of_decide_eq_true h)
      exact ⟨.str i, ⟨t, rfl⟩, fun _ => .str i⟩
    | _ => exact (Bool.false_ne_true h).elim
  | .tuple ds, u, h => by
    cases u with
    | ref a =>
      unfold datB at h
      split at h
      · rename_i c dd its n sl hk
        rw [Bool.and_eq_true, Bool.and_eq_true] at h
        obtain ⟨⟨h1, h2⟩, h3⟩ := h
        obtain ⟨vs, r, t⟩ := datsB_ok h3
        exact ⟨.ref a, rfl, fun F => .tup (.inr ⟨_, its, n, hk, congrArg Value.type (of_decide_eq_true h1), rfl, of_decide_eq_true h2, r⟩) (t F)⟩
      · cases h
    | _ => exact (Bool.false_ne_true h).elim
  | .list ds, u, h => by cases u <;> exact (Bool.false_ne_true h).elim
  | .dict ds, u, h => by cases u <;> exact (Bool.false_ne_true h).elim
theorem datsB_ok {K : PySem.W.Frag} : ∀ {ds : List PyData} {us : List Value}, datsB K ds us = true → ∃ vs, Vals vs us ∧ ∀ F, DaAll K F vs ds
  | [], us, h => by
    cases us with
    | nil => exact ⟨[], .nil, fun _ => .nil⟩
    | cons _ _ => exact (Bool.false_ne_true h).elim
  | d :: ds, us, h => by
    cases us with
    | nil => exact (Bool.false_ne_true h).elim
    | cons u us =>
      unfold datsB at h
      rw [Bool.and_eq_true] at h
      obtain ⟨v, r1, t1⟩ := datB_ok h.1
      obtain ⟨vs, r2, t2⟩ := datsB_ok h.2
      exact ⟨v :: vs, .cons r1 r2, fun F => .cons (t1 F) (t2 F)⟩
end
def gcB (K : PySem.W.Frag) (x : Str) (d : PyData) : Bool := match PySem.W.nsIn K mainGlobals x with
  | some (some u) => datB K d u
  | _ => false
def sysB (K : PySem.W.Frag) : Bool := match K.lookup sysModules with
  | some ⟨.type c, _, _, _⟩ => decide (c = "dict")
  | _ => false
theorem sysB_ok {K : PySem.W.Frag} (h : sysB K = true) : SysK K := by
  unfold sysB at h
  split at h
  · rename_i c _ _ _ e
    exact ⟨_, e, congrArg Value.type (of_decide_eq_true h)⟩
  · cases h
def nlB (K : PySem.W.Frag) : Bool := K.all fun p => !decide (p.2.cls = .type "list")
theorem lk_mem {α : Type} {a : Addr} {o : α} : ∀ {l : List (Addr × α)}, l.lookup a = some o → (a, o) ∈ l
  | [], h => by cases h
  | (b, u) :: r, h => by
    rw [List.lookup_cons] at h
    split at h
    · rename_i e
      cases h
      rw [beq_iff_eq.mp e]
      exact List.mem_cons_self
    · exact List.mem_cons_of_mem _ (lk_mem h)
theorem nlB_ok {K : PySem.W.Frag} (h : nlB K = true) : ∀ a o, K.lookup a = some o → o.cls ≠ .type "list" := by
  intro a o e
  have m : (a, o) ∈ K := lk_mem e
  have q := List.all_eq_true.mp h _ m
  simpa using q

/-! ### a program as data -/
/-- a def: what stands in the module, its parameters, its names, its form here -/
structure Dn where
  dd : He.DefD
  ps : List Str
  N : List Str
  df : Df
structure Pd where
  ds : List Dn
  gl : List (Str × PyData)
  bl : List Str
  kws : List (Nat × Nat × List Str × List Nat)
def Pd.pg (p : Pd) : Pg := ⟨p.ds.map fun d => ⟨d.dd.name, d.ps⟩, p.gl.map (·.1), p.bl, p.kws⟩
def Pd.T (p : Pd) : List Df := p.ds.map (·.df)
def Pd.Gd (p : Pd) : List PyData := p.gl.map (·.2)
def Pd.fn (p : Pd) : List He.DefD := p.ds.map (·.dd)
def Pd.ex (p : Pd) (K : PySem.W.Frag) : Bool := sysB K && nlB K && (p.ds.all fun d => (He.Fa.glo d.dd.name).ok K) && (p.gl.all fun q => gcB K q.1 q.2) && (p.bl.all fun x => (He.Fa.free x).ok K)
def Pd.okD (p : Pg) (d : Dn) : Bool := C8.scC d.N d.ps d.dd.scope && decide (d.df.np = d.ps.length) && decide (d.df.nn = d.N.length) && decide (d.dd.at_ = (d.dd.name, none)) && d.dd.dfl.isEmpty && d.dd.kwd.isEmpty && ckSs p d.dd.scope d.N d.df.body d.dd.body
def BnOk (d : Dn) : Prop := ∀ (kV doc pm : Value) (an : Option Addr) (cdv ct : Value) (us : List Value), us.length = d.ps.length → bindArgs (PySem.W.fnOf d.dd.name d.dd.qual d.dd.params d.dd.body d.dd.scope .none kV doc pm an cdv ct) ⟨us, []⟩ = pure (d.ps.zip us)
def KwOk (d : Dn) (n : Nat) (ks : List Str) (gs : List Nat) : Prop := ∀ (kV doc pm : Value) (an : Option Addr) (cdv ct : Value) (us ws : List Value), us.length = n → ws.length = ks.length →
  ∃ zs, pickG gs (us ++ ws) = some zs ∧ bindArgs (PySem.W.fnOf d.dd.name d.dd.qual d.dd.params d.dd.body d.dd.scope .none kV doc pm an cdv ct) ⟨us, ks.zip ws⟩ = pure (d.ps.zip zs)
def AllB : List Dn → Prop
  | [] => True
  | d :: r => BnOk d ∧ AllB r
def AllK (ds : List Dn) : List (Nat × Nat × List Str × List Nat) → Prop
  | [] => True
  | q :: r => (match ds[q.1]? with | some d => KwOk d q.2.1 q.2.2.1 q.2.2.2 | none => True) ∧ AllK ds r
theorem AllB.get : ∀ {ds : List Dn} {d : Dn}, AllB ds → d ∈ ds → BnOk d
  | _ :: _, _, ⟨h, t⟩, m => by
    rcases List.mem_cons.mp m with e | m
    · rw [e]; exact h
    · exact AllB.get t m
theorem AllK.get {ds : List Dn} : ∀ {l : List (Nat × Nat × List Str × List Nat)} {q : Nat × Nat × List Str × List Nat} {d : Dn}, AllK ds l → q ∈ l → ds[q.1]? = some d → KwOk d q.2.1 q.2.2.1 q.2.2.2
  | p :: _, q, d, ⟨h, t⟩, m, e => by
    rcases List.mem_cons.mp m with e2 | m
    · subst e2
      rw [e] at h
      exact h
    · exact AllK.get t m e
/-- the whole: a program's data, checked -/
structure Pd.Ok (p : Pd) : Prop where
  ok : ∀ d ∈ p.ds, Pd.okD p.pg d = true
  bn : AllB p.ds
  kw : AllK p.ds p.kws
theorem FunD.kwb {K : PySem.W.Frag} {d : Dn} {f : Addr} {fd : FuncData} {kws : List (Str × V)} (Fd : FunD K d.dd.name d.dd.qual d.dd.params d.dd.body d.dd.scope [] kws f fd) {n : Nat} {ks : List Str} {gs : List Nat} (h : KwOk d n ks gs) : KwB K fd d.ps n ks gs := by
  obtain ⟨oc, od, dV, kV, doc, pm, an, cdv, ct, osl, rfl, lk, hcd, hD, hK⟩ := Fd.ex
  rcases hD with ⟨_, rfl⟩ | ⟨e, _⟩
  · intro s us ws _ l1 l2
    obtain ⟨zs, z1, z2⟩ := h kV doc pm an cdv ct us ws l1 l2
    exact ⟨zs, z1, .of_eq z2⟩
  · exact absurd rfl e
theorem Pd.tx {p : Pd} (o : p.Ok) {P : Program} {w : World} {K : PySem.W.Frag} {mg : Str → Option Value} {base h : Heap} (X : K.In h) (G : h.Ns mainGlobals mg) (c : SaysV p.fn p.ex K) :
    Tx P w K mg base ⟨K, fun k => match p.ds[k]? with | some d => He.fAd K d.dd.at_ | none => 0, fun _ => 0⟩ p.pg p.Gd p.T := by
  have ex := c.ex_
  unfold Pd.ex at ex
  simp only [Bool.and_eq_true, List.all_eq_true] at ex
  obtain ⟨⟨⟨⟨e1, e2⟩, e3⟩, e4⟩, e5⟩ := ex
  refine ⟨rfl, sysB_ok e1, fun k x hx => ?_, fun x hx => He.free_ok X G (e5 x hx), fun k dd hk => ?_⟩
  · have hx : (p.gl.map (·.1))[k]? = some x := hx
    rw [List.getElem?_map] at hx
    cases q : p.gl[k]? with
    | none => rw [q] at hx; cases hx
    | some r =>
      rw [q] at hx
      cases hx
      have z := e4 r (List.mem_of_getElem? q)
      unfold gcB at z
      split at z
      · rename_i u hu
        obtain ⟨v, r1, t1⟩ := datB_ok z
        exact ⟨r.2, v, u, by show (p.gl.map (·.2))[k]? = _; rw [List.getElem?_map, q]; rfl, PySem.W.mg_of X G hu, r1, t1⟩
      · cases z
  · have hk : (p.ds.map fun d => (⟨d.dd.name, d.ps⟩ : Dd))[k]? = some dd := hk
    rw [List.getElem?_map] at hk
    cases q : p.ds[k]? with
    | none => rw [q] at hk; cases hk
    | some d =>
      rw [q] at hk
      cases hk
      have m := List.mem_of_getElem? q
      have z := o.ok d m
      unfold Pd.okD at z
      simp only [Bool.and_eq_true, decide_eq_true_eq, List.isEmpty_iff] at z
      obtain ⟨⟨⟨⟨⟨⟨z1, z2⟩, z3⟩, z4⟩, z5⟩, z6⟩, z7⟩ := z
      obtain ⟨fd, Fd⟩ := c.fun_ (i := k) (d := d.dd) (by show (p.ds.map (·.dd))[k]? = _; rw [List.getElem?_map, q]; rfl)
      have d0 : d.dd.dvs K = [] := by unfold He.DefD.dvs; rw [z5]; rfl
      rw [d0] at Fd
      have ga : He.fAd K d.dd.at_ = He.ga K d.dd.name := by rw [z4]; rfl
      refine ⟨?_, ?_, d.dd.name, d.dd.qual, d.dd.params, d.dd.body, d.dd.scope, [], d.dd.kws K, fd, d.N, d.df, ?_, C8.fnScope_by z1, ?_, z2, z3, z7, ?_, ?_⟩
      · show mg d.dd.name = some (.ref (match p.ds[k]? with | some d => He.fAd K d.dd.at_ | none => 0))
        rw [q]
        show mg d.dd.name = some (Value.ref (He.fAd K d.dd.at_))
        rw [ga]
        exact He.glo_ok X G (e3 d m)
      · show PySem.W.keepIn K (.ref (match p.ds[k]? with | some d => He.fAd K d.dd.at_ | none => 0)) = true
        rw [q]
        exact Fd.kp
      · show FunD K _ _ _ _ _ _ _ (match p.ds[k]? with | some d => He.fAd K d.dd.at_ | none => 0) fd
        rw [q]
        exact Fd
      · show (p.ds.map (·.df))[k]? = some d.df
        rw [List.getElem?_map, q]; rfl
      · exact Fd.bindsN (ps := d.ps) (o.bn.get m)
      · intro r hr e
        subst e
        exact FunD.kwb Fd (o.kw.get hr q)
/-- the end of a law -/
theorem Pd.walk {p : Pd} (o : p.Ok) {l : PySem.W.OpenLaw} {n m k hn0 : Nat} {q : Program} {loose : List Str} {XP : (Str → Option Value) → Heap → Prop} {d : DefRec} {x : Str} {dn : Dn}
    (hn : l.most = some n) (hn2 : n ≤ sizeLine) (hdf : d.params.defaults = []) (hr : Room m callerA) (hk : p.ds[k]? = some dn) (hx : dn.ps = [x]) (hname : dn.dd.name = d.name)
    (sound : ∀ ns : List Int, ns.length ≤ n → ∃ S', sem p.Gd p.T m k [.d (.list (ns.map .int))] [] = .ok (.d (.bool true)) S') :
    PySem.W.WalkO q loose XP (hookV hn0 p.fn p.ex).says l.row.toRowW d [] (fun f vs => PySem.call f vs) := by
  refine walkV (x := x) hn hn2 hdf hr sound fun w mg fa h Y G hmg => ?_
  obtain ⟨K, KX, c⟩ := Y
  have ex := c.ex_
  unfold Pd.ex at ex
  simp only [Bool.and_eq_true, List.all_eq_true] at ex
  have nl := nlB_ok ex.1.1.1.2
  have dd : p.pg.defs[k]? = some ⟨dn.dd.name, dn.ps⟩ := by
    show (p.ds.map fun d => (⟨d.dd.name, d.ps⟩ : Dd))[k]? = _
    rw [List.getElem?_map, hk]; rfl
  obtain ⟨fd, Fd⟩ := c.fun_ (i := k) (d := dn.dd) (by show (p.ds.map (·.dd))[k]? = _; rw [List.getElem?_map, hk]; rfl)
  -- the def's address, the same over every base
  obtain ⟨a1, _, fd0, _, _, b0, _⟩ := fn_all (P := l.prog) (w := w) (base := h) (Pd.tx o KX G c) m k _ dd
  have ea : fa = He.fAd K dn.dd.at_ := by
    have z : mg dn.dd.name = some (.ref (match p.ds[k]? with | some d => He.fAd K d.dd.at_ | none => 0)) := a1
    rw [hk, hname, hmg] at z
    cases z
    rfl
  have z0 := o.ok dn (List.mem_of_getElem? hk)
  unfold Pd.okD at z0
  simp only [Bool.and_eq_true, decide_eq_true_eq, List.isEmpty_iff] at z0
  have d0 : dn.dd.dvs K = [] := by unfold He.DefD.dvs; rw [z0.1.1.2]; rfl
  rw [d0] at Fd
  refine ⟨K, fd, ⟨K, fun k => match p.ds[k]? with | some d => He.fAd K d.dd.at_ | none => 0, fun _ => 0⟩, KX, rfl, nl, fun s u => ?_, fun base hB hG => ?_⟩
  · have b := Fd.bindsA (ps := dn.ps) (o.bn.get (List.mem_of_getElem? hk)) s [u] (by rw [hx]; rfl)
    rw [hx] at b
    exact b
  · obtain ⟨_, _, fd2, lk2, f2, _, _⟩ := fn_all (P := l.prog) (w := w) (base := base) (Pd.tx o (base := base) hB hG c) m k _ dd
    have f2 : FnG l.prog w K mg base m (match p.ds[k]? with | some d => He.fAd K d.dd.at_ | none => 0) fd2 dn.ps _ := f2
    have lk2 : ∃ oc od osl, K.lookup (match p.ds[k]? with | some d => He.fAd K d.dd.at_ | none => 0) = some ⟨oc, od, .func fd2, osl⟩ := lk2
    rw [hk] at f2 lk2
    have f2 : FnG l.prog w K mg base m (He.fAd K dn.dd.at_) fd2 dn.ps (spD ⟨K, fun k => match p.ds[k]? with | some d => He.fAd K d.dd.at_ | none => 0, fun _ => 0⟩ (sem p.Gd p.T m) k dn.ps.length) := f2
    obtain ⟨oc, od, osl, lk2⟩ := lk2
    obtain ⟨oc', od', osl', lk1⟩ := FunD.at_ Fd
    have lk2 : K.lookup (He.fAd K dn.dd.at_) = some ⟨oc, od, .func fd2, osl⟩ := lk2
    rw [lk1] at lk2
    cases lk2
    rw [← ea, hx] at f2
    exact f2
end Ev
end

section
set_option Elab.async false
set_option linter.all false
set_option maxRecDepth 100000
set_option maxHeartbeats 4000000
/-! Q1: the meaning, evaluated -/
namespace Ev
open PySem PySem.Spec L2

def Gets {α : Type} (o : Out α) (Q : α → Store → Prop) : Prop := ∃ a S, o = .ok a S ∧ Q a S
@[simp] theorem gets_ok {α : Type} {a : α} {S : Store} {Q : α → Store → Prop} : Gets (.ok a S) Q ↔ Q a S := ⟨(fun ⟨_, _, e, q⟩ => by cases e; exact q), fun q => ⟨_, _, rfl, q⟩⟩
@[simp] theorem gets_bind {α β : Type} {o : Out α} {φ : α → Store → Out β} {Q : β → Store → Prop} : Gets (o.bind φ) Q ↔ Gets o fun a S => Gets (φ a S) Q := by
  cases o with
  | ok a S => simp
  | err e S => exact ⟨(fun ⟨_, _, e, _⟩ => by cases e), (fun ⟨_, _, e, _⟩ => by cases e)⟩
  | stuck => exact ⟨(fun ⟨_, _, e, _⟩ => by cases e), (fun ⟨_, _, e, _⟩ => by cases e)⟩
theorem Gets.imp {α : Type} {o : Out α} {Q Q' : α → Store → Prop} (h : Gets o Q) (i : ∀ a S, Q a S → Q' a S) : Gets o Q' := let ⟨a, S, e, q⟩ := h; ⟨a, S, e, i a S q⟩
/-- a statement's end -/
def GS (o : SOut) (N : EnvD → Store → Prop) (R : Val → Store → Prop) (B C : EnvD → Store → Prop) : Prop := match o with
  | .next ρ S => N ρ S
  | .ret v S => R v S
  | .brk ρ S => B ρ S
  | .cont ρ S => C ρ S
  | _ => False
section
variable {N B C : EnvD → Store → Prop} {R : Val → Store → Prop} {ρ : EnvD} {S : Store} {v : Val}
@[simp] theorem gs_next : GS (.next ρ S) N R B C ↔ N ρ S := Iff.rfl
@[simp] theorem gs_ret : GS (.ret v S) N R B C ↔ R v S := Iff.rfl
@[simp] theorem gs_brk : GS (.brk ρ S) N R B C ↔ B ρ S := Iff.rfl
@[simp] theorem gs_cont : GS (.cont ρ S) N R B C ↔ C ρ S := Iff.rfl
@[simp] theorem gs_seq {o : SOut} {k : EnvD → Store → SOut} : GS (o.seq k) N R B C ↔ GS o (fun ρ S => GS (k ρ S) N R B C) R B C := by
  cases o <;> exact Iff.rfl
@[simp] theorem gs_s {α : Type} {o : Out α} {k : α → Store → SOut} : GS (o.s ρ k) N R B C ↔ Gets o fun a S => GS (k a S) N R B C := by
  cases o with
  | ok a S =>
    show GS (k a S) N R B C ↔ _
    rw [gets_ok]
  | err e S => exact ⟨(fun h => h.elim), (fun ⟨_, _, e, _⟩ => by cases e)⟩
  | stuck => exact ⟨(fun h => h.elim), (fun ⟨_, _, e, _⟩ => by cases e)⟩
end
theorem gets_sem {Gd : List PyData} {T : List Df} {n k : Nat} {vs : List Val} {S : Store} {d : Df} {Q : Val → Store → Prop} (h : T[k]? = some d) (hl : vs.length = d.np)
    (q : GS (dSs Gd (sem Gd T n) d.body (entry d.np d.nn vs) S) (fun _ S' => Q (.d .none) (S'.take S.length)) (fun v S' => Gets (back d.mu S.length v S') Q) (fun _ _ => False) fun _ _ => False) : Gets (sem Gd T (n + 1) k vs S) Q := by
  unfold sem
  rw [h]
  dsimp only
  rw [if_pos hl]
  generalize dSs Gd (sem Gd T n) d.body (entry d.np d.nn vs) S = o at q
  cases o with
  | next ρ S' => exact ⟨_, _, rfl, q⟩
  | ret v S' => exact q
  | brk ρ S' => exact q.elim
  | cont ρ S' => exact q.elim
  | err e ρ S' => exact q.elim
  | stuck => exact q.elim
theorem ok_of {α : Type} {o : Out α} {a : α} {S : Store} (h : Gets o fun v S' => v = a ∧ S' = S) : o = .ok a S := by
  obtain ⟨v, S', e, rfl, rfl⟩ := h
  exact e
@[simp] theorem gets_ite {α : Type} {c : Prop} [Decidable c] {x y : Out α} {Q : α → Store → Prop} : Gets (if c then x else y) Q ↔ (c → Gets x Q) ∧ (¬ c → Gets y Q) := by
  by_cases h : c
  · simp [h]
  · simp [h]
@[simp] theorem gs_ite {c : Prop} [Decidable c] {x y : SOut} {N B C : EnvD → Store → Prop} {R : Val → Store → Prop} : GS (if c then x else y) N R B C ↔ (c → GS x N R B C) ∧ (¬ c → GS y N R B C) := by
  by_cases h : c
  · simp [h]
  · simp [h]
@[simp] theorem gets_stuck {α : Type} {Q : α → Store → Prop} : Gets (.stuck : Out α) Q ↔ False := ⟨(fun ⟨_, _, e, _⟩ => by cases e), fun h => h.elim⟩
@[simp] theorem gs_stuck {N B C : EnvD → Store → Prop} {R : Val → Store → Prop} : GS .stuck N R B C ↔ False := Iff.rfl
@[simp] theorem back_d {mu : Bool} {n : Nat} {x : PyData} {S : Store} {Q : Val → Store → Prop} : Gets (back mu n (.d x) S) Q ↔ Q (.d x) (S.take n) := gets_ok
@[simp] theorem back_fn {mu : Bool} {n : Nat} {x : Nat} {S : Store} {Q : Val → Store → Prop} : Gets (back mu n (.fn x) S) Q ↔ Q (.fn x) (S.take n) := gets_ok
end Ev
end

section
set_option Elab.async false
set_option linter.all false
set_option maxRecDepth 100000
set_option maxHeartbeats 4000000
/-! Q2: lists, loops, texts shown -/
namespace Ev
open PySem PySem.Spec L2

theorem sem_eq {Gd : List PyData} {T : List Df} {n k : Nat} {vs : List Val} {S : Store} {d : Df} (h : T[k]? = some d) (hl : vs.length = d.np) :
    sem Gd T (n + 1) k vs S = ofS d.mu S.length (dSs Gd (sem Gd T n) d.body (entry d.np d.nn vs) S) := by
  show (match T[k]? with | some d => if vs.length = d.np then ofS d.mu S.length (dSs Gd (sem Gd T n) d.body (entry d.np d.nn vs) S) else .stuck | none => .stuck) = _
  rw [h]
  exact if_pos hl
/-! ### operations at known kinds -/
section
variable {S : Store} {i j : Int} {a b : Str} {xs ys : List PyData} {x y : PyData} {v : Val} {p : Nat}
@[simp] theorem add_ii : binV .Add (.d (.int i)) (.d (.int j)) S = .ok (.d (.int (i + j))) S := rfl
@[simp] theorem add_ss : binV .Add (.d (.str a)) (.d (.str b)) S = okIf (a.length + b.length ≤ sizeLine) (.str (a ++ b)) S := rfl
@[simp] theorem add_tt : binV .Add (.d (.tuple xs)) (.d (.tuple ys)) S = okIf (xs.length + ys.length ≤ sizeLine) (.tuple (xs ++ ys)) S := rfl
@[simp] theorem add_ll : binV .Add (.d (.list xs)) (.d (.list ys)) S = okIf (xs.length + ys.length ≤ sizeLine) (.list (xs ++ ys)) S := rfl
@[simp] theorem sub_ii : binV .Sub (.d (.int i)) (.d (.int j)) S = .ok (.d (.int (i - j))) S := rfl
@[simp] theorem mul_ii : binV .Mult (.d (.int i)) (.d (.int j)) S = okIf ((-(2 ^ 64) < i ∧ i < 2 ^ 64) ∨ (-(2 ^ 64) < j ∧ j < 2 ^ 64)) (.int (i * j)) S := rfl
@[simp] theorem mul_ti : binV .Mult (.d (.tuple xs)) (.d (.int j)) S = okIf (j = 1 ∨ (xs.isEmpty = false ∧ 2 ≤ j ∧ j ≤ 1000 ∧ xs.length ≤ 1000)) (.tuple (List.replicate j.toNat xs).flatten) S := rfl
@[simp] theorem mod_ii : binV .Mod (.d (.int i)) (.d (.int j)) S = okIf (j ≠ 0) (.int (i.fmod j)) S := rfl
@[simp] theorem div_ii : binV .FloorDiv (.d (.int i)) (.d (.int j)) S = okIf (j ≠ 0 ∧ j.natAbs < 1073741824) (.int (i.fdiv j)) S := rfl
@[simp] theorem pow_ii : binV .Pow (.d (.int i)) (.d (.int j)) S = okIf (0 ≤ j ∧ j ≤ 1000000 ∧ i.natAbs < 2 ^ 64) (.int (i ^ j.toNat)) S := rfl
@[simp] theorem eq_ss : cmpV .Eq (.d (.str a)) (.d (.str b)) S = .ok (.d (.bool (a == b))) S := rfl
@[simp] theorem ne_ss : cmpV .NotEq (.d (.str a)) (.d (.str b)) S = .ok (.d (.bool (!(a == b)))) S := rfl
theorem eq_dd (h : SeqAt.shaped x = true) (h2 : SeqAt.shaped y = true) : cmpV .Eq (.d x) (.d y) S = .ok (.d (.bool (PyData.eqv x y))) S := by
  cases x <;> cases y <;> first
    | (show okIf (SeqAt.shaped _ = true ∧ SeqAt.shaped _ = true) (.bool (PyData.eqv _ _)) S = _; unfold okIf; exact if_pos ⟨h, h2⟩)
    | (simp [cmpV, PyData.eqv]; done)
theorem ne_dd (h : SeqAt.shaped x = true) (h2 : SeqAt.shaped y = true) : cmpV .NotEq (.d x) (.d y) S = .ok (.d (.bool (!PyData.eqv x y))) S := by
  cases x <;> cases y <;> first
    | (show okIf (SeqAt.shaped _ = true ∧ SeqAt.shaped _ = true) (.bool (!PyData.eqv _ _)) S = _; unfold okIf; exact if_pos ⟨h, h2⟩)
    | (simp [cmpV, PyData.eqv]; done)
@[simp] theorem shaped_int (i : Int) : SeqAt.shaped (.int i) = true := rfl
@[simp] theorem shaped_bool (i : Bool) : SeqAt.shaped (.bool i) = true := rfl
@[simp] theorem shaped_none : SeqAt.shaped .none = true := rfl
@[simp] theorem eqv_int (i j : Int) : PyData.eqv (.int i) (.int j) = (i == j) := by simp [PyData.eqv]
@[simp] theorem eqv_bool (i j : Bool) : PyData.eqv (.bool i) (.bool j) = (i == j) := by simp [PyData.eqv]
@[simp] theorem eqv_str (i j : Str) : PyData.eqv (.str i) (.str j) = (i == j) := by simp [PyData.eqv]
@[simp] theorem eq_ii : cmpV .Eq (.d (.int i)) (.d (.int j)) S = .ok (.d (.bool (decide (i = j)))) S := by
  rw [eq_dd rfl rfl, eqv_int]
  rfl
@[simp] theorem ne_ii : cmpV .NotEq (.d (.int i)) (.d (.int j)) S = .ok (.d (.bool (decide (i ≠ j)))) S := by
  rw [ne_dd rfl rfl, eqv_int]
  congr 3
  rw [Bool.eq_iff_iff]
  simp
@[simp] theorem lt_ii : cmpV .Lt (.d (.int i)) (.d (.int j)) S = .ok (.d (.bool (decide (i < j)))) S := rfl
@[simp] theorem le_ii : cmpV .LtE (.d (.int i)) (.d (.int j)) S = .ok (.d (.bool (decide (i ≤ j)))) S := rfl
@[simp] theorem gt_ii : cmpV .Gt (.d (.int i)) (.d (.int j)) S = .ok (.d (.bool (decide (j < i)))) S := rfl
@[simp] theorem ge_ii : cmpV .GtE (.d (.int i)) (.d (.int j)) S = .ok (.d (.bool (decide (j ≤ i)))) S := rfl
@[simp] theorem lt_ss : cmpV .Lt (.d (.str a)) (.d (.str b)) S = .ok (.d (.bool (decide (a.cps.toList < b.cps.toList)))) S := rfl
@[simp] theorem le_ss : cmpV .LtE (.d (.str a)) (.d (.str b)) S = .ok (.d (.bool (!decide (b.cps.toList < a.cps.toList)))) S := rfl
@[simp] theorem is_nn : cmpV .Is (.d .none) (.d .none) S = .ok (.d (.bool true)) S := rfl
@[simp] theorem isnot_nn : cmpV .IsNot (.d .none) (.d .none) S = .ok (.d (.bool false)) S := rfl
@[simp] theorem is_tn : cmpV .Is (.d (.tuple xs)) (.d .none) S = .ok (.d (.bool false)) S := rfl
@[simp] theorem isnot_tn : cmpV .IsNot (.d (.tuple xs)) (.d .none) S = .ok (.d (.bool true)) S := rfl
@[simp] theorem is_in : cmpV .Is (.d (.int i)) (.d .none) S = .ok (.d (.bool false)) S := rfl
@[simp] theorem idx_li : idxV (.d (.list xs)) (.d (.int i)) S = (match atI xs i with | some x => .ok (.d x) S | none => .stuck) := rfl
@[simp] theorem idx_ti : idxV (.d (.tuple xs)) (.d (.int i)) S = (match atI xs i with | some x => .ok (.d x) S | none => .stuck) := rfl
theorem idx_loc (h : S[p]? = some (.lst xs)) : idxV (.loc p) (.d (.int i)) S = (match atI xs i with | some x => .ok (.d x) S | none => .stuck) := by
  simp [idxV, seqOf, h]
  all_goals (cases atI xs i <;> rfl)
theorem set_loc {w : PyData} (h : S[p]? = some (.lst xs)) : setV (.loc p) (.d (.int i)) (.d w) S = (match ixN xs.length i with | some j => .ok () (S.set p (.lst (xs.set j w))) | none => .stuck) := by
  simp [setV, h]
  all_goals (cases ixN xs.length i <;> rfl)
theorem app_loc {w : PyData} (h : S[p]? = some (.lst xs)) (hz : xs.length < sizeLine) : meV .append (.loc p) [.d w] S = .ok (.d .none) (S.set p (.lst (xs ++ [w]))) := by
  simp [meV, h, hz]
@[simp] theorem len_l : biV .len [.d (.list xs)] S = .ok (.d (.int xs.length)) S := rfl
@[simp] theorem len_t : biV .len [.d (.tuple xs)] S = .ok (.d (.int xs.length)) S := rfl
@[simp] theorem len_s : biV .len [.d (.str a)] S = okIf (a.length ≤ sizeLine) (.int a.length) S := rfl
theorem len_loc (h : S[p]? = some (.lst xs)) : biV .len [.loc p] S = .ok (.d (.int xs.length)) S := by
  simp [biV, seqOf, h]
@[simp] theorem all_v : biV .all [v] S = (match (lstOf S v).bind boolsOf with | some bs => .ok (.d (.bool (bs.all id))) S | none => .stuck) := by cases v <;> rfl
@[simp] theorem any_v : biV .any [v] S = (match (lstOf S v).bind boolsOf with | some bs => .ok (.d (.bool (bs.any id))) S | none => .stuck) := by cases v <;> rfl
@[simp] theorem sum_v : biV .sum [v] S = (match (lstOf S v).bind intsOf with | some ns => .ok (.d (.int ns.sum)) S | none => .stuck) := by cases v <;> rfl
@[simp] theorem tuple_l : biV .tuple [.d (.list xs)] S = .ok (.d (.tuple xs)) S := rfl
@[simp] theorem tuple_t : biV .tuple [.d (.tuple xs)] S = .ok (.d (.tuple xs)) S := rfl
theorem tuple_loc (h : S[p]? = some (.lst xs)) : biV .tuple [.loc p] S = .ok (.d (.tuple xs)) S := by
  simp [biV, seqOf, h]
@[simp] theorem list_l : biV .list [.d (.list xs)] S = .ok (.d (.list xs)) S := rfl
@[simp] theorem list_t : biV .list [.d (.tuple xs)] S = .ok (.d (.list xs)) S := rfl
@[simp] theorem listM_l : biV .listM [.d (.list xs)] S = .ok (.loc S.length) (S ++ [.lst xs]) := rfl
@[simp] theorem listM_t : biV .listM [.d (.tuple xs)] S = .ok (.loc S.length) (S ++ [.lst xs]) := rfl
@[simp] theorem abs_i : biV .abs [.d (.int i)] S = .ok (.d (.int (if i < 0 then -i else i))) S := rfl
@[simp] theorem max_i : biV .max2 [.d (.int i), .d (.int j)] S = .ok (.d (.int (if j > i then j else i))) S := rfl
@[simp] theorem min_i : biV .min2 [.d (.int i), .d (.int j)] S = .ok (.d (.int (if j < i then j else i))) S := rfl
@[simp] theorem int_i : biV .int [.d (.int i)] S = .ok (.d (.int i)) S := rfl
@[simp] theorem strI_i : biV .strI [.d (.int i)] S = okIf (i.natAbs.log2 < 1920) (.str (toString i)) S := rfl
@[simp] theorem divmod_i : biV .divmod [.d (.int i), .d (.int j)] S = okIf (0 < j ∧ j < 1073741824) (.tuple [.int (i / j), .int (i % j)]) S := rfl
@[simp] theorem lenSet_v : biV .lenSet [v] S = (match (seqOf S v).bind strsOf with | some ss => okIf (ss.length < 4000) (.int ((onceS ss).length : Nat)) S | none => .stuck) := by cases v <;> rfl
@[simp] theorem sli_s {lo hi : Option Int} : sliV (.d (.str a)) lo hi S = okIf (a.length ≤ sizeLine) (.str (cutS a lo hi)) S := rfl
@[simp] theorem sli_t {lo hi : Option Int} : sliV (.d (.tuple xs)) lo hi S = .ok (.d (.tuple (cutD xs lo hi))) S := rfl
@[simp] theorem sli_l {lo hi : Option Int} : sliV (.d (.list xs)) lo hi S = .ok (.d (.list (cutD xs lo hi))) S := rfl
@[simp] theorem rev_t : revV false (.d (.tuple xs)) S = .ok (.d (.tuple xs.reverse)) S := rfl
@[simp] theorem rev_t0 : revV true (.d (.tuple xs)) S = .ok (.d (.tuple (xs.drop 1).reverse)) S := rfl
@[simp] theorem rev_l : revV false (.d (.list xs)) S = .ok (.d (.list xs.reverse)) S := rfl
theorem rev_loc (h : S[p]? = some (.lst xs)) : revV false (.loc p) S = .ok (.d (.list xs.reverse)) S := by
  simp [revV, lstOf, h]
@[simp] theorem prt_i : prtV (.d (.int i)) S = .ok (some i) S := rfl
@[simp] theorem seqI_l : seqI (.d (.list xs)) S = .ok ⟨xs.map .d, none⟩ S := rfl
@[simp] theorem seqI_t : seqI (.d (.tuple xs)) S = .ok ⟨xs.map .d, none⟩ S := rfl
@[simp] theorem seqI_s : seqI (.d (.str a)) S = .ok ⟨a.cps.toList.map fun c => .d (.str ⟨#[c]⟩), none⟩ S := rfl
@[simp] theorem zip_l : zipI (.d (.list xs)) (.d (.list ys)) S = .ok ⟨(xs.zip ys).map fun p => .d (.tuple [p.1, p.2]), none⟩ S := rfl
@[simp] theorem zip_t : zipI (.d (.tuple xs)) (.d (.tuple ys)) S = .ok ⟨(xs.zip ys).map fun p => .d (.tuple [p.1, p.2]), none⟩ S := rfl
@[simp] theorem enum_l : enumI (.d (.list xs)) S = .ok ⟨xs.zipIdx.map fun p => .d (.tuple [.int (p.2 : Int), p.1]), none⟩ S := rfl
@[simp] theorem enum_t : enumI (.d (.tuple xs)) S = .ok ⟨xs.zipIdx.map fun p => .d (.tuple [.int (p.2 : Int), p.1]), none⟩ S := rfl
@[simp] theorem rng1_i : rng1I (.d (.int j)) S = (if -(2 ^ 62) ≤ j ∧ j < 2 ^ 62 then .ok (rngI 0 j.toNat) S else .stuck) := rfl
@[simp] theorem rng2_i : rng2I (.d (.int i)) (.d (.int j)) S = (if -(2 ^ 62) ≤ i ∧ i < 2 ^ 62 ∧ -(2 ^ 62) ≤ j ∧ j < 2 ^ 62 then .ok (rngI i (j - i).toNat) S else .stuck) := rfl
@[simp] theorem rng3_i {c : Int} : rng3I (.d (.int i)) (.d (.int j)) (.d (.int c)) S = (if c = -1 ∧ -(2 ^ 62) ≤ i ∧ i < 2 ^ 62 ∧ -(2 ^ 62) ≤ j ∧ j < 2 ^ 62 then .ok ⟨(List.range (i - j).toNat).map fun (k : Nat) => Val.d (.int (i - (k : Int))), none⟩ S else .stuck) := rfl
theorem atI_mid {α : Type} {l r : List α} {z : α} : atI (l ++ z :: r) (l.length : Int) = some z := by
  unfold atI ixN
  rw [if_pos (by omega), if_pos (by simp; omega)]
  simp
theorem ixN_mid {α : Type} {l r : List α} {z : α} : ixN (l ++ z :: r).length (l.length : Int) = some l.length := by
  unfold ixN
  rw [if_pos (by omega), if_pos (by simp; omega)]
  simp
@[simp] theorem take_set {o : Ob} : (S.set p o).take S.length = S.set p o := List.take_of_length_le (by simp)
@[simp] theorem take_app {T : Store} : (S ++ T).take S.length = S := by simp
@[simp] theorem ck_none {vs : List Val} : (⟨vs, none⟩ : Itm).ck S := True.intro
@[simp] theorem ck_rng {n : Nat} : (rngI i n).ck S := True.intro
end
/-! ### all of a kind -/
@[simp] theorem bools_map {α : Type} (f : α → Bool) (l : List α) : boolsOf (l.map fun x => .bool (f x)) = some (l.map f) := by
  induction l with
  | nil => rfl
  | cons x l ih => simp [boolsOf, ih]
@[simp] theorem bools_nil : boolsOf [] = some [] := rfl
@[simp] theorem bools_cons (b : Bool) (r : List PyData) : boolsOf (.bool b :: r) = (boolsOf r).map (b :: ·) := rfl
@[simp] theorem bools_rep (n : Nat) (b : Bool) : boolsOf (List.replicate n (.bool b)) = some (List.replicate n b) := by
  induction n with
  | zero => rfl
  | succ n ih => simp [List.replicate_succ, ih]
@[simp] theorem ints_nil : intsOf [] = some [] := rfl
@[simp] theorem ints_cons (b : Int) (r : List PyData) : intsOf (.int b :: r) = (intsOf r).map (b :: ·) := rfl
@[simp] theorem ints_map {α : Type} (f : α → Int) (l : List α) : intsOf (l.map fun x => .int (f x)) = some (l.map f) := by
  induction l with
  | nil => rfl
  | cons x l ih => simp [intsOf, ih]
@[simp] theorem ints_map' (l : List Int) : intsOf (l.map .int) = some l := by
  have := ints_map id l
  simpa using this
@[simp] theorem strs_map {α : Type} (f : α → Str) (l : List α) : strsOf (l.map fun x => .str (f x)) = some (l.map f) := by
  induction l with
  | nil => rfl
  | cons x l ih => simp [strsOf, ih]
@[simp] theorem strs_map' (l : List Str) : strsOf (l.map .str) = some l := by
  have := strs_map id l
  simpa using this
/-! ### cuts -/
def cutL {α : Type} (xs : List α) (lo hi : Option Int) : List α := (xs.drop (HT.sIx xs.length 0 lo)).take (HT.sIx xs.length xs.length hi - HT.sIx xs.length 0 lo)
@[simp] theorem cut_map {α : Type} (f : α → PyData) (xs : List α) (lo hi : Option Int) : cutD (xs.map f) lo hi = (cutL xs lo hi).map f := by
  simp [cutD, cutL, List.map_take, List.map_drop]
theorem cut_to {α : Type} (xs : List α) (k : Nat) : cutL xs none (some (k : Int)) = xs.take k := by
  unfold cutL
  rw [HT.sIx_none, HT.sIx_nat]
  simp [List.take_eq_take_iff]
theorem cut_from {α : Type} (xs : List α) (k : Nat) : cutL xs (some (k : Int)) none = xs.drop k := by
  unfold cutL
  rw [HT.sIx_none, HT.sIx_nat]
  by_cases h : k ≤ xs.length
  · rw [Nat.min_eq_left h, List.take_of_length_le (by simp)]
  · rw [Nat.min_eq_right (by omega)]
    simp [List.drop_eq_nil_of_le (show xs.length ≤ k by omega)]
theorem zw {α β γ : Type} (f : α → β → γ) : ∀ (xs : List α) (ys : List β), List.zipWith f xs ys = (xs.zip ys).map fun p => f p.1 p.2
  | [], _ => by simp
  | _ :: _, [] => by simp
  | x :: xs, y :: ys => by simp [zw f xs ys]
/-! ### comprehensions -/
theorem lc_map {w : Itm} {tg : Tg} {elt : TD Val} {ρ : EnvD} {α : Type} (g : α → Val) (f : α → PyData) (l : List α) (acc : List PyData) (S : Store) (hc : w.ck S)
    (he : ∀ x ∈ l, ∃ ρ1, tgt tg (g x) ρ = some ρ1 ∧ elt ρ1 S = .ok (.d (f x)) S) (hl : acc.length + l.length ≤ sizeLine) : lcD w tg (fun _ S => .ok true S) elt ρ (l.map g) acc S = .ok (acc ++ l.map f) S := by
  induction l generalizing acc with
  | nil => simp [lcD, hc]
  | cons x l ih =>
    obtain ⟨ρ1, h1, h2⟩ := he x List.mem_cons_self
    rw [List.length_cons] at hl
    have := ih (acc ++ [f x]) (fun y hy => he y (List.mem_cons_of_mem _ hy)) (by rw [List.length_append, List.length_singleton]; omega)
    show lcD w tg (fun _ S => .ok true S) elt ρ (g x :: l.map g) acc S = _
    unfold lcD
    rw [if_pos hc, h1]
    dsimp only
    rw [h2]
    dsimp only
    rw [if_pos (by omega), this]
    simp
/-- [f for x in xs], xs as data -/
theorem lc_each {tg : Tg} {elt : TD Val} {ρ : EnvD} {own : List Nat} {m : Bool} {it : TD Itm} {α : Type} (g : α → Val) (f : α → PyData) (l : List α) (S S0 : Store) (n : Option (Nat × List PyData)) (hi : it ρ S0 = .ok ⟨l.map g, n⟩ S) (hc : (⟨l.map g, n⟩ : Itm).ck S)
    (he : ∀ x ∈ l, ∃ ρ1, tgt tg (g x) (wipeD ρ own) = some ρ1 ∧ elt ρ1 S = .ok (.d (f x)) S) (hl : l.length ≤ sizeLine) : dLc m it own tg (fun _ S => .ok true S) elt ρ S0 = if m = true then .ok (.loc S.length) (S ++ [.lst (l.map f)]) else .ok (.d (.list (l.map f))) S := by
  unfold dLc
  rw [hi]
  dsimp only
  rw [lc_map g f l [] S hc he (by simpa using hl)]
  simp
theorem gets_each {tg : Tg} {elt : TD Val} {ρ : EnvD} {own : List Nat} {m : Bool} {it : TD Itm} {Q : Val → Store → Prop} {α : Type} (g : α → Val) (f : α → PyData) (l : List α) {S S0 : Store} {n : Option (Nat × List PyData)} (hi : it ρ S0 = .ok ⟨l.map g, n⟩ S) (hc : (⟨l.map g, n⟩ : Itm).ck S)
    (he : ∀ x ∈ l, ∃ ρ1, tgt tg (g x) (wipeD ρ own) = some ρ1 ∧ elt ρ1 S = .ok (.d (f x)) S) (hl : l.length ≤ sizeLine) (q : if m = true then Q (.loc S.length) (S ++ [.lst (l.map f)]) else Q (.d (.list (l.map f))) S) : Gets (dLc m it own tg (fun _ S => .ok true S) elt ρ S0) Q := by
  rw [lc_each g f l S S0 n hi hc he hl]
  split at q
  · rename_i h; rw [if_pos h]; exact ⟨_, _, rfl, q⟩
  · rename_i h; rw [if_neg h]; exact ⟨_, _, rfl, q⟩
/-- turns that write -/
theorem gets_lc {w : Itm} {tg : Tg} {cond : TD Bool} {elt : TD Val} {ρ : EnvD} {Q : List PyData → Store → Prop} (I : List Val → List PyData → Store → Prop)
    (step : ∀ v vs acc S, I (v :: vs) acc S → w.ck S ∧ acc.length < sizeLine ∧ ∃ ρ1, tgt tg v ρ = some ρ1 ∧ Gets (cond ρ1 S) fun b S1 => (b = true → Gets (elt ρ1 S1) fun x S2 => ∃ d, x = .d d ∧ I vs (acc ++ [d]) S2) ∧ (b = false → I vs acc S1))
    (last : ∀ acc S, I [] acc S → w.ck S ∧ Q acc S) : ∀ (vs : List Val) (acc : List PyData) (S : Store), I vs acc S → Gets (lcD w tg cond elt ρ vs acc S) Q
  | [], acc, S, h => by
    obtain ⟨h1, h2⟩ := last acc S h
    unfold lcD
    rw [if_pos h1]
    exact ⟨_, _, rfl, h2⟩
  | v :: vs, acc, S, h => by
    obtain ⟨h1, hz, ρ1, h2, b, S1, h3, h4, h5⟩ := step v vs acc S h
    unfold lcD
    rw [if_pos h1, h2]
    dsimp only
    rw [h3]
    cases b with
    | false => exact gets_lc I step last vs acc S1 (h5 rfl)
    | true =>
      obtain ⟨x, S2, h6, d, rfl, h7⟩ := h4 rfl
      dsimp only
      rw [h6]
      dsimp only
      rw [if_pos hz]
      exact gets_lc I step last vs _ S2 h7
theorem gets_dLc {m : Bool} {it : TD Itm} {own : List Nat} {tg : Tg} {cond : TD Bool} {elt : TD Val} {ρ : EnvD} {S : Store} {Q : Val → Store → Prop}
    (h : Gets (it ρ S) fun w S1 => Gets (lcD w tg cond elt (wipeD ρ own) w.vs [] S1) fun xs S2 => if m = true then Q (.loc S2.length) (S2 ++ [.lst xs]) else Q (.d (.list xs)) S2) : Gets (dLc m it own tg cond elt ρ S) Q := by
  obtain ⟨w, S1, h1, xs, S2, h2, h3⟩ := h
  unfold dLc
  rw [h1]
  dsimp only
  rw [h2]
  dsimp only
  split at h3
  · rename_i hm; rw [if_pos hm]; exact ⟨_, _, rfl, h3⟩
  · rename_i hm; rw [if_neg hm]; exact ⟨_, _, rfl, h3⟩
/-! ### loops -/
theorem gs_for {w : Itm} {tg : Tg} {body : SD} {N B C : EnvD → Store → Prop} {R : Val → Store → Prop} (I : List Val → EnvD → Store → Prop)
    (step : ∀ v vs ρ S, I (v :: vs) ρ S → w.ck S ∧ ∃ ρ1, tgt tg v ρ = some ρ1 ∧ GS (body ρ1 S) (I vs) R N (I vs)) (last : ∀ ρ S, I [] ρ S → w.ck S ∧ N ρ S) : ∀ (vs : List Val) (ρ : EnvD) (S : Store), I vs ρ S → GS (forD w tg body vs ρ S) N R B C
  | [], ρ, S, h => by
    obtain ⟨h1, h2⟩ := last ρ S h
    unfold forD
    rw [if_pos h1]
    exact h2
  | v :: vs, ρ, S, h => by
    obtain ⟨h1, ρ1, h2, h3⟩ := step v vs ρ S h
    unfold forD
    rw [if_pos h1, h2]
    dsimp only
    cases e : body ρ1 S with
    | next ρ2 S2 => rw [e] at h3; exact gs_for I step last vs ρ2 S2 h3
    | cont ρ2 S2 => rw [e] at h3; exact gs_for I step last vs ρ2 S2 h3
    | brk ρ2 S2 => rw [e] at h3; exact h3
    | ret u S2 => rw [e] at h3; exact h3
    | err x ρ2 S2 => rw [e] at h3; exact h3
    | stuck => rw [e] at h3; exact h3
/-! ### what is shown -/
mutual
def lf : PyData → Bool
  | .int i => decide (i.natAbs < 10 ^ 100)
  | .str x => x.cps.toList.all fun c => decide (c < 1114112)
  | .list xs => lfAll xs
  | .tuple xs => lfAll xs
  | .dict kvs => kvs.isEmpty
  | _ => true
def lfAll : List PyData → Bool
  | [] => true
  | x :: xs => lf x && lfAll xs
end
theorem lfAll_iff : ∀ {ds : List PyData}, lfAll ds = true ↔ ∀ d ∈ ds, lf d = true
  | [] => by simp [lfAll]
  | d :: ds => by simp [lfAll, lfAll_iff (ds := ds)]
theorem small_log {i : Int} (h : i.natAbs < 10 ^ 100) : i.natAbs.log2 < 1920 := by
  by_cases z : i.natAbs = 0
  · rw [z]; decide
  · have e : (10 : Nat) ^ 100 ≤ 2 ^ 400 := by
      have : (10 : Nat) ≤ 2 ^ 4 := by decide
      calc (10 : Nat) ^ 100 ≤ (2 ^ 4) ^ 100 := Nat.pow_le_pow_left this 100
        _ = 2 ^ 400 := (Nat.pow_mul 2 4 100).symm
    exact Nat.lt_trans ((Nat.log2_lt (k := 400) z).mpr (Nat.lt_of_lt_of_le h e)) (by decide)
mutual
theorem lf_show : ∀ {d : PyData}, lf d = true → d.showable = true ∧ d.leavesShort 101 = true
  | .none, _ => ⟨rfl, rfl⟩
  | .bool _, _ => ⟨rfl, rfl⟩
  | .int i, h => by
    have h : i.natAbs < 10 ^ 100 := of_decide_eq_true h
    refine ⟨decide_eq_true (small_log h), decide_eq_true ?_⟩
    have e := PySem.int_text_length_le10 (k := 100) (by decide) h
    show (PySem.Str.ofString (toString i)).length ≤ 101
    rw [PySem.ofString_length]
    exact e
  | .str x, h => by
    refine ⟨rfl, ?_⟩
    unfold lf at h
    unfold PyData.leavesShort
    rw [List.all_eq_true] at h ⊢
    intro c hc
    have := of_decide_eq_true (h c hc)
    exact decide_eq_true (Nat.lt_of_lt_of_le this (by decide))
  | .list xs, h => by
    unfold lf at h
    obtain ⟨h1, h2⟩ := lfs_show h
    exact ⟨by unfold PyData.showable; exact h1, by unfold PyData.leavesShort; exact h2⟩
  | .tuple xs, h => by
    unfold lf at h
    obtain ⟨h1, h2⟩ := lfs_show h
    exact ⟨by unfold PyData.showable; exact h1, by unfold PyData.leavesShort; exact h2⟩
  | .dict kvs, h => by
    unfold lf at h
    cases kvs with
    | nil => exact ⟨rfl, rfl⟩
    | cons _ _ => cases h
theorem lfs_show : ∀ {ds : List PyData}, lfAll ds = true → PyData.showableAll ds = true ∧ PyData.leavesShortAll 101 ds = true
  | [], _ => ⟨rfl, rfl⟩
  | d :: ds, h => by
    unfold lfAll at h
    rw [Bool.and_eq_true] at h
    obtain ⟨a1, a2⟩ := lf_show h.1
    obtain ⟨b1, b2⟩ := lfs_show h.2
    exact ⟨by unfold PyData.showableAll; rw [a1, b1] <;> rfl, by unfold PyData.leavesShortAll; rw [a2, b2] <;> rfl⟩
end
/-- small data: its leaves, its bulk, its depth -/
structure Tame (m k : Nat) (d : PyData) : Prop where
  lf : lf d = true
  bulk : d.bulk ≤ m
  dp : d.depth ≤ k
theorem Tame.imp {m k m' k' : Nat} {d : PyData} (h : Tame m k d) (h1 : m ≤ m') (h2 : k ≤ k') : Tame m' k' d := ⟨h.lf, Nat.le_trans h.bulk h1, Nat.le_trans h.dp h2⟩
theorem tame_none {m k : Nat} : Tame m k .none := ⟨rfl, Nat.zero_le _, Nat.zero_le _⟩
theorem tame_bool {m k : Nat} {b : Bool} : Tame m k (.bool b) := ⟨rfl, Nat.zero_le _, Nat.zero_le _⟩
theorem tame_int {m k : Nat} {i : Int} (h : i.natAbs < 10 ^ 100) : Tame m k (.int i) := ⟨decide_eq_true h, Nat.zero_le _, Nat.zero_le _⟩
theorem bulkAll_le {m : Nat} : ∀ {ds : List PyData}, (∀ d ∈ ds, d.bulk ≤ m) → PyData.bulkAll ds ≤ (m + 1) * ds.length
  | [], _ => Nat.zero_le _
  | d :: ds, h => by
    have h1 := h d List.mem_cons_self
    have h2 := bulkAll_le (ds := ds) fun x hx => h x (List.mem_cons_of_mem _ hx)
    unfold PyData.bulkAll
    rw [List.length_cons, Nat.mul_add]
    omega
theorem depthAll_le {k : Nat} : ∀ {ds : List PyData}, (∀ d ∈ ds, d.depth ≤ k) → PyData.depthAll ds ≤ k
  | [], _ => Nat.zero_le _
  | d :: ds, h => by
    unfold PyData.depthAll
    exact Nat.max_le.mpr ⟨h d List.mem_cons_self, depthAll_le fun x hx => h x (List.mem_cons_of_mem _ hx)⟩
theorem tame_list {m k n : Nat} {ds : List PyData} (h : ∀ d ∈ ds, Tame m k d) (hn : (m + 1) * ds.length ≤ n) : Tame n (k + 1) (.list ds) :=
  ⟨by unfold Ev.lf; exact lfAll_iff.mpr fun d hd => (h d hd).lf, by unfold PyData.bulk; exact Nat.le_trans (bulkAll_le fun d hd => (h d hd).bulk) hn, by unfold PyData.depth; exact Nat.succ_le_succ (depthAll_le fun d hd => (h d hd).dp)⟩
theorem tame_tuple {m k n : Nat} {ds : List PyData} (h : ∀ d ∈ ds, Tame m k d) (hn : (m + 1) * ds.length ≤ n) : Tame n (k + 1) (.tuple ds) :=
  ⟨by unfold Ev.lf; exact lfAll_iff.mpr fun d hd => (h d hd).lf, by unfold PyData.bulk; exact Nat.le_trans (bulkAll_le fun d hd => (h d hd).bulk) hn, by unfold PyData.depth; exact Nat.succ_le_succ (depthAll_le fun d hd => (h d hd).dp)⟩
/-- it can be shown -/
def Rp (d : PyData) : Prop := d.showable = true ∧ d.depth ≤ 60 ∧ d.shown.length ≤ sizeLine
theorem rp_of {m k : Nat} {d : PyData} (h : Tame m k d) (hm : m ≤ 160000) (hk : k ≤ 60) : Rp d := by
  obtain ⟨h1, h2⟩ := lf_show h.lf
  refine ⟨h1, Nat.le_trans h.dp hk, ?_⟩
  have h3 := PyData.shown_le_bulk 101 (by decide) d h2
  have h4 := h.bulk
  rw [sizeLine_eq]
  omega
theorem repr_ok {v : Val} {S : Store} {d : PyData} (h : datOf S v = some d) (r : Rp d) : biV .repr [v] S = .ok (.d (.str d.shown)) S := by
  have e : biV .repr [v] S = (match datOf S v with | some x => okIf (x.showable = true ∧ x.depth ≤ 60 ∧ x.shown.length ≤ sizeLine) (.str x.shown) S | none => .stuck) := by
    cases v <;> rfl
  rw [e, h]
  exact if_pos r
end Ev
end

section
set_option Elab.async false
set_option linter.all false
set_option maxRecDepth 100000
set_option maxHeartbeats 4000000
/-! Q3: comprehensions with a test, small data by sums, words -/
namespace Ev
open PySem PySem.Spec L2
theorem lc_filter {w : Itm} {tg : Tg} {cond : TD Bool} {elt : TD Val} {ρ : EnvD} {α : Type} (g : α → Val) (p : α → Bool) (f : α → PyData) (l : List α) (acc : List PyData) (S : Store) (hc : w.ck S)
    (he : ∀ x ∈ l, ∃ ρ1, tgt tg (g x) ρ = some ρ1 ∧ cond ρ1 S = .ok (p x) S ∧ (p x = true → elt ρ1 S = .ok (.d (f x)) S)) (hl : acc.length + l.length ≤ sizeLine) : lcD w tg cond elt ρ (l.map g) acc S = .ok (acc ++ (l.filter p).map f) S := by
  induction l generalizing acc with
  | nil => simp [lcD, hc]
  | cons x l ih =>
    obtain ⟨ρ1, h1, h2, h3⟩ := he x List.mem_cons_self
    rw [List.length_cons] at hl
    show lcD w tg cond elt ρ (g x :: l.map g) acc S = _
    unfold lcD
    rw [if_pos hc, h1]
    dsimp only
    rw [h2]
    cases hp : p x with
    | true =>
      have := ih (acc ++ [f x]) (fun y hy => he y (List.mem_cons_of_mem _ hy)) (by rw [List.length_append, List.length_singleton]; omega)
      dsimp only
      rw [h3 hp]
      dsimp only
      rw [if_pos (by omega), this]
      simp [hp]
    | false =>
      dsimp only
      rw [ih acc (fun y hy => he y (List.mem_cons_of_mem _ hy)) (by omega)]
      simp [hp]
theorem gets_filter {tg : Tg} {cond : TD Bool} {elt : TD Val} {ρ : EnvD} {own : List Nat} {m : Bool} {it : TD Itm} {Q : Val → Store → Prop} {α : Type} (g : α → Val) (p : α → Bool) (f : α → PyData) (l : List α) {S S0 : Store} {n : Option (Nat × List PyData)} (hi : it ρ S0 = .ok ⟨l.map g, n⟩ S) (hc : (⟨l.map g, n⟩ : Itm).ck S)
    (he : ∀ x ∈ l, ∃ ρ1, tgt tg (g x) (wipeD ρ own) = some ρ1 ∧ cond ρ1 S = .ok (p x) S ∧ (p x = true → elt ρ1 S = .ok (.d (f x)) S)) (hl : l.length ≤ sizeLine) (q : if m = true then Q (.loc S.length) (S ++ [.lst ((l.filter p).map f)]) else Q (.d (.list ((l.filter p).map f))) S) : Gets (dLc m it own tg cond elt ρ S0) Q := by
  unfold dLc
  rw [hi]
  dsimp only
  rw [lc_filter g p f l [] S hc he (by simpa using hl)]
  dsimp only
  rw [List.nil_append]
  split at q
  · rename_i h; rw [if_pos h]; exact ⟨_, _, rfl, q⟩
  · rename_i h; rw [if_neg h]; exact ⟨_, _, rfl, q⟩
/-! ### a long body, statement by statement -/
structure GSW (o : SOut) (N : EnvD → Store → Prop) (R : Val → Store → Prop) (B C : EnvD → Store → Prop) : Prop where
  h : GS o N R B C
def nthS : CSs → Nat → CS
  | .cons a _, 0 => a
  | .cons _ r, n + 1 => nthS r n
  | .nil, _ => .pass
def dropS : CSs → Nat → CSs
  | r, 0 => r
  | .cons _ r, n + 1 => dropS r n
  | .nil, _ => .nil
theorem gsw_at {Gl : List PyData} {K : Calls} {b : CSs} {i : Nat} {a : CS} {r : CSs} {ρ : EnvD} {S : Store} {N N' B C : EnvD → Store → Prop} {R : Val → Store → Prop} (e : dropS b i = .cons a r) (e2 : nthS b i = a) (e3 : dropS b (i + 1) = r)
    (h : GSW (dS Gl K (nthS b i) ρ S) N' R B C) (k : ∀ ρ S, N' ρ S → GSW (dSs Gl K (dropS b (i + 1)) ρ S) N R B C) : GSW (dSs Gl K (dropS b i) ρ S) N R B C := by
  obtain ⟨h⟩ := h
  rw [e]
  rw [e2] at h
  rw [e3] at k
  refine ⟨?_⟩
  show GS ((dS Gl K a ρ S).seq fun ρ1 S1 => dSs Gl K r ρ1 S1) N R B C
  rw [gs_seq]
  revert h
  generalize dS Gl K a ρ S = o
  cases o with
  | next ρ1 S1 => exact fun h => (k ρ1 S1 h).h
  | ret v S1 => exact fun h => h
  | brk ρ1 S1 => exact fun h => h
  | cont ρ1 S1 => exact fun h => h
  | err x ρ1 S1 => exact fun h => h
  | stuck => exact fun h => h
theorem gsw_end {Gl : List PyData} {K : Calls} {b : CSs} {i : Nat} {ρ : EnvD} {S : Store} {N B C : EnvD → Store → Prop} {R : Val → Store → Prop} (e : dropS b i = .nil) (h : N ρ S) : GSW (dSs Gl K (dropS b i) ρ S) N R B C := by
  rw [e]
  exact ⟨h⟩
theorem rng_ok {k : Nat} (h : k ≤ 100000) (S : Store) : rng1I (.d (.int (k : Int))) S = .ok (rngI 0 k) S := by
  rw [rng1_i, if_pos (by omega)]
  simp
theorem it_rng1 {Gl : List PyData} {K : Calls} {a : CE} {k : Nat} {ρ : EnvD} {S S1 : Store} (e : dE Gl K a ρ S = .ok (.d (.int (k : Int))) S1) (h : k ≤ 100000) : dI Gl K (.rng1 a) ρ S = .ok (rngI 0 k) S1 := by
  have d : dI Gl K (.rng1 a) ρ S = (dE Gl K a ρ S).bind rng1I := by simp only [dI]
  rw [d, e, Out.bind_ok, rng_ok h]
/-- a loop: its body is opened in its turns alone -/
theorem gsw_for {Gl : List PyData} {K : Calls} {c : CS} {tg : Tg} {it : CI} {b : CSs} {ρ : EnvD} {S S1 : Store} {w : Itm} {N B C : EnvD → Store → Prop} {R : Val → Store → Prop} (e : c = .for_ tg it b) (hi : dI Gl K it ρ S = .ok w S1)
    (I : List Val → EnvD → Store → Prop) (step : ∀ v vs ρ S, I (v :: vs) ρ S → w.ck S ∧ ∃ ρ1, tgt tg v ρ = some ρ1 ∧ GS (dSs Gl K b ρ1 S) (I vs) R N (I vs)) (last : ∀ ρ S, I [] ρ S → w.ck S ∧ N ρ S) (h : I w.vs ρ S1) : GSW (dS Gl K c ρ S) N R B C := by
  subst e
  refine ⟨?_⟩
  have d : dS Gl K (.for_ tg it b) ρ S = (dI Gl K it ρ S).s ρ fun w S1 => forD w tg (dSs Gl K b) w.vs ρ S1 := by
    simp [dS]
  rw [d, hi]
  exact gs_for I step last w.vs ρ S1 h
theorem drop0 (b : CSs) : dropS b 0 = b := by cases b <;> rfl
/-- a def by its statements -/
theorem gets_body {Gd : List PyData} {T : List Df} {n k : Nat} {vs : List Val} {S : Store} {d : Df} {Q : Val → Store → Prop} (h : T[k]? = some d) (hl : vs.length = d.np)
    (q : GSW (dSs Gd (sem Gd T n) (dropS d.body 0) (entry d.np d.nn vs) S) (fun _ S' => Q (.d .none) (S'.take S.length)) (fun v S' => Gets (back d.mu S.length v S') Q) (fun _ _ => False) fun _ _ => False) : Gets (sem Gd T (n + 1) k vs S) Q := by
  rw [drop0] at q
  exact gets_sem h hl q.h
/-! ### lists that are written, in tuples -/
section
variable {S : Store} {p n : Nat} {xs zs : List PyData} {x : PyData}
theorem ext_loc (h : S[p]? = some (.lst xs)) (hz : xs.length + zs.length ≤ sizeLine) : meV .extend (.loc p) [.d (.list zs)] S = .ok (.d .none) (S.set p (.lst (xs ++ zs))) := by
  simp [meV, lstOf, h, hz]
theorem add_loc_l (h : S[p]? = some (.lst xs)) : binV .Add (.loc p) (.d (.list zs)) S = okIf (xs.length + zs.length ≤ sizeLine) (.list (xs ++ zs)) S := by
  simp [binV, lstOf, h]
theorem back_tp (h : S[n]? = some (.lst xs)) : back false n (.tp [.d x, .loc n]) S = .ok (.d (.tuple [x, .list xs])) (S.take n) := by
  simp [back, newEl, elsD, h]
end
/-! ### items at written places -/
section
variable {α : Type} {a b c d e f : α} {l : List α}
@[simp] theorem at_0 : atI (a :: l) 0 = some a := by simp [atI, ixN]
@[simp] theorem at_1 : atI (a :: b :: l) 1 = some b := by
  unfold atI ixN
  rw [if_pos (by decide), if_pos (by simp; omega)]
  rfl
@[simp] theorem at_2 : atI (a :: b :: c :: l) 2 = some c := by
  unfold atI ixN
  rw [if_pos (by decide), if_pos (by simp; omega)]
  rfl
@[simp] theorem at_3 : atI (a :: b :: c :: d :: l) 3 = some d := by
  unfold atI ixN
  rw [if_pos (by decide), if_pos (by simp; omega)]
  rfl
@[simp] theorem at_4 : atI (a :: b :: c :: d :: e :: l) 4 = some e := by
  unfold atI ixN
  rw [if_pos (by decide), if_pos (by simp; omega)]
  rfl
@[simp] theorem at_5 : atI (a :: b :: c :: d :: e :: f :: l) 5 = some f := by
  unfold atI ixN
  rw [if_pos (by decide), if_pos (by simp; omega)]
  rfl
end
/-! ### membership among written texts, small sizes -/
section
variable {S : Store} {x a b c d e f : Str}
@[simp] theorem in_tuple1 (hx : PyData.strOk x = true) (ha : PyData.strOk a = true) : cmpV .In (.d (.str x)) (.d (.tuple [.str a])) S = .ok (.d (.bool ((a == x)))) S := by simp [hx, ha, cmpV, datOf, seqOf, okIf, SeqAt.shaped, PyData.canLay0, PyData.canLayAll0, PyData.depth, PyData.depthAll, PyData.eqv, Bool.or_assoc]
@[simp] theorem in_tuple2 (hx : PyData.strOk x = true) (ha : PyData.strOk a = true) (hb : PyData.strOk b = true) : cmpV .In (.d (.str x)) (.d (.tuple [.str a, .str b])) S = .ok (.d (.bool ((a == x || b == x)))) S := by simp [hx, ha, hb, cmpV, datOf, seqOf, okIf, SeqAt.shaped, PyData.canLay0, PyData.canLayAll0, PyData.depth, PyData.depthAll, PyData.eqv, Bool.or_assoc]
@[simp] theorem in_tuple3 (hx : PyData.strOk x = true) (ha : PyData.strOk a = true) (hb : PyData.strOk b = true) (hc : PyData.strOk c = true) : cmpV .In (.d (.str x)) (.d (.tuple [.str a, .str b, .str c])) S = .ok (.d (.bool ((a == x || b == x || c == x)))) S := by simp [hx, ha, hb, hc, cmpV, datOf, seqOf, okIf, SeqAt.shaped, PyData.canLay0, PyData.canLayAll0, PyData.depth, PyData.depthAll, PyData.eqv, Bool.or_assoc]
@[simp] theorem in_tuple4 (hx : PyData.strOk x = true) (ha : PyData.strOk a = true) (hb : PyData.strOk b = true) (hc : PyData.strOk c = true) (hd : PyData.strOk d = true) : cmpV .In (.d (.str x)) (.d (.tuple [.str a, .str b, .str c, .str d])) S = .ok (.d (.bool ((a == x || b == x || c == x || d == x)))) S := by simp [hx, ha, hb, hc, hd, cmpV, datOf, seqOf, okIf, SeqAt.shaped, PyData.canLay0, PyData.canLayAll0, PyData.depth, PyData.depthAll, PyData.eqv, Bool.or_assoc]
@[simp] theorem in_tuple5 (hx : PyData.strOk x = true) (ha : PyData.strOk a = true) (hb : PyData.strOk b = true) (hc : PyData.strOk c = true) (hd : PyData.strOk d = true) (he : PyData.strOk e = true) : cmpV .In (.d (.str x)) (.d (.tuple [.str a, .str b, .str c, .str d, .str e])) S = .ok (.d (.bool ((a == x || b == x || c == x || d == x || e == x)))) S := by simp [hx, ha, hb, hc, hd, he, cmpV, datOf, seqOf, okIf, SeqAt.shaped, PyData.canLay0, PyData.canLayAll0, PyData.depth, PyData.depthAll, PyData.eqv, Bool.or_assoc]
@[simp] theorem in_tuple6 (hx : PyData.strOk x = true) (ha : PyData.strOk a = true) (hb : PyData.strOk b = true) (hc : PyData.strOk c = true) (hd : PyData.strOk d = true) (he : PyData.strOk e = true) (hf : PyData.strOk f = true) : cmpV .In (.d (.str x)) (.d (.tuple [.str a, .str b, .str c, .str d, .str e, .str f])) S = .ok (.d (.bool ((a == x || b == x || c == x || d == x || e == x || f == x)))) S := by simp [hx, ha, hb, hc, hd, he, hf, cmpV, datOf, seqOf, okIf, SeqAt.shaped, PyData.canLay0, PyData.canLayAll0, PyData.depth, PyData.depthAll, PyData.eqv, Bool.or_assoc]
@[simp] theorem in_list1 (hx : PyData.strOk x = true) (ha : PyData.strOk a = true) : cmpV .In (.d (.str x)) (.d (.list [.str a])) S = .ok (.d (.bool ((a == x)))) S := by simp [hx, ha, cmpV, datOf, seqOf, okIf, SeqAt.shaped, PyData.canLay0, PyData.canLayAll0, PyData.depth, PyData.depthAll, PyData.eqv, Bool.or_assoc]
@[simp] theorem in_list2 (hx : PyData.strOk x = true) (ha : PyData.strOk a = true) (hb : PyData.strOk b = true) : cmpV .In (.d (.str x)) (.d (.list [.str a, .str b])) S = .ok (.d (.bool ((a == x || b == x)))) S := by simp [hx, ha, hb, cmpV, datOf, seqOf, okIf, SeqAt.shaped, PyData.canLay0, PyData.canLayAll0, PyData.depth, PyData.depthAll, PyData.eqv, Bool.or_assoc]
@[simp] theorem in_list3 (hx : PyData.strOk x = true) (ha : PyData.strOk a = true) (hb : PyData.strOk b = true) (hc : PyData.strOk c = true) : cmpV .In (.d (.str x)) (.d (.list [.str a, .str b, .str c])) S = .ok (.d (.bool ((a == x || b == x || c == x)))) S := by simp [hx, ha, hb, hc, cmpV, datOf, seqOf, okIf, SeqAt.shaped, PyData.canLay0, PyData.canLayAll0, PyData.depth, PyData.depthAll, PyData.eqv, Bool.or_assoc]
@[simp] theorem in_list4 (hx : PyData.strOk x = true) (ha : PyData.strOk a = true) (hb : PyData.strOk b = true) (hc : PyData.strOk c = true) (hd : PyData.strOk d = true) : cmpV .In (.d (.str x)) (.d (.list [.str a, .str b, .str c, .str d])) S = .ok (.d (.bool ((a == x || b == x || c == x || d == x)))) S := by simp [hx, ha, hb, hc, hd, cmpV, datOf, seqOf, okIf, SeqAt.shaped, PyData.canLay0, PyData.canLayAll0, PyData.depth, PyData.depthAll, PyData.eqv, Bool.or_assoc]
@[simp] theorem in_list5 (hx : PyData.strOk x = true) (ha : PyData.strOk a = true) (hb : PyData.strOk b = true) (hc : PyData.strOk c = true) (hd : PyData.strOk d = true) (he : PyData.strOk e = true) : cmpV .In (.d (.str x)) (.d (.list [.str a, .str b, .str c, .str d, .str e])) S = .ok (.d (.bool ((a == x || b == x || c == x || d == x || e == x)))) S := by simp [hx, ha, hb, hc, hd, he, cmpV, datOf, seqOf, okIf, SeqAt.shaped, PyData.canLay0, PyData.canLayAll0, PyData.depth, PyData.depthAll, PyData.eqv, Bool.or_assoc]
@[simp] theorem in_list6 (hx : PyData.strOk x = true) (ha : PyData.strOk a = true) (hb : PyData.strOk b = true) (hc : PyData.strOk c = true) (hd : PyData.strOk d = true) (he : PyData.strOk e = true) (hf : PyData.strOk f = true) : cmpV .In (.d (.str x)) (.d (.list [.str a, .str b, .str c, .str d, .str e, .str f])) S = .ok (.d (.bool ((a == x || b == x || c == x || d == x || e == x || f == x)))) S := by simp [hx, ha, hb, hc, hd, he, hf, cmpV, datOf, seqOf, okIf, SeqAt.shaped, PyData.canLay0, PyData.canLayAll0, PyData.depth, PyData.depthAll, PyData.eqv, Bool.or_assoc]
@[simp] theorem notin_tuple1 (hx : PyData.strOk x = true) (ha : PyData.strOk a = true) : cmpV .NotIn (.d (.str x)) (.d (.tuple [.str a])) S = .ok (.d (.bool (!(a == x)))) S := by simp [hx, ha, cmpV, datOf, seqOf, okIf, SeqAt.shaped, PyData.canLay0, PyData.canLayAll0, PyData.depth, PyData.depthAll, PyData.eqv, Bool.or_assoc]
@[simp] theorem notin_tuple2 (hx : PyData.strOk x = true) (ha : PyData.strOk a = true) (hb : PyData.strOk b = true) : cmpV .NotIn (.d (.str x)) (.d (.tuple [.str a, .str b])) S = .ok (.d (.bool (!(a == x || b == x)))) S := by simp [hx, ha, hb, cmpV, datOf, seqOf, okIf, SeqAt.shaped, PyData.canLay0, PyData.canLayAll0, PyData.depth, PyData.depthAll, PyData.eqv, Bool.or_assoc]
@[simp] theorem notin_tuple3 (hx : PyData.strOk x = true) (ha : PyData.strOk a = true) (hb : PyData.strOk b = true) (hc : PyData.strOk c = true) : cmpV .NotIn (.d (.str x)) (.d (.tuple [.str a, .str b, .str c])) S = .ok (.d (.bool (!(a == x || b == x || c == x)))) S := by simp [hx, ha, hb, hc, cmpV, datOf, seqOf, okIf, SeqAt.shaped, PyData.canLay0, PyData.canLayAll0, PyData.depth, PyData.depthAll, PyData.eqv, Bool.or_assoc]
@[simp] theorem notin_tuple4 (hx : PyData.strOk x = true) (ha : PyData.strOk a = true) (hb : PyData.strOk b = true) (hc : PyData.strOk c = true) (hd : PyData.strOk d = true) : cmpV .NotIn (.d (.str x)) (.d (.tuple [.str a, .str b, .str c, .str d])) S = .ok (.d (.bool (!(a == x || b == x || c == x || d == x)))) S := by simp [hx, ha, hb, hc, hd, cmpV, datOf, seqOf, okIf, SeqAt.shaped, PyData.canLay0, PyData.canLayAll0, PyData.depth, PyData.depthAll, PyData.eqv, Bool.or_assoc]
@[simp] theorem notin_tuple5 (hx : PyData.strOk x = true) (ha : PyData.strOk a = true) (hb : PyData.strOk b = true) (hc : PyData.strOk c = true) (hd : PyData.strOk d = true) (he : PyData.strOk e = true) : cmpV .NotIn (.d (.str x)) (.d (.tuple [.str a, .str b, .str c, .str d, .str e])) S = .ok (.d (.bool (!(a == x || b == x || c == x || d == x || e == x)))) S := by simp [hx, ha, hb, hc, hd, he, cmpV, datOf, seqOf, okIf, SeqAt.shaped, PyData.canLay0, PyData.canLayAll0, PyData.depth, PyData.depthAll, PyData.eqv, Bool.or_assoc]
@[simp] theorem notin_tuple6 (hx : PyData.strOk x = true) (ha : PyData.strOk a = true) (hb : PyData.strOk b = true) (hc : PyData.strOk c = true) (hd : PyData.strOk d = true) (he : PyData.strOk e = true) (hf : PyData.strOk f = true) : cmpV .NotIn (.d (.str x)) (.d (.tuple [.str a, .str b, .str c, .str d, .str e, .str f])) S = .ok (.d (.bool (!(a == x || b == x || c == x || d == x || e == x || f == x)))) S := by simp [hx, ha, hb, hc, hd, he, hf, cmpV, datOf, seqOf, okIf, SeqAt.shaped, PyData.canLay0, PyData.canLayAll0, PyData.depth, PyData.depthAll, PyData.eqv, Bool.or_assoc]
@[simp] theorem notin_list1 (hx : PyData.strOk x = true) (ha : PyData.strOk a = true) : cmpV .NotIn (.d (.str x)) (.d (.list [.str a])) S = .ok (.d (.bool (!(a == x)))) S := by simp [hx, ha, cmpV, datOf, seqOf, okIf, SeqAt.shaped, PyData.canLay0, PyData.canLayAll0, PyData.depth, PyData.depthAll, PyData.eqv, Bool.or_assoc]
@[simp] theorem notin_list2 (hx : PyData.strOk x = true) (ha : PyData.strOk a = true) (hb : PyData.strOk b = true) : cmpV .NotIn (.d (.str x)) (.d (.list [.str a, .str b])) S = .ok (.d (.bool (!(a == x || b == x)))) S := by simp [hx, ha, hb, cmpV, datOf, seqOf, okIf, SeqAt.shaped, PyData.canLay0, PyData.canLayAll0, PyData.depth, PyData.depthAll, PyData.eqv, Bool.or_assoc]
@[simp] theorem notin_list3 (hx : PyData.strOk x = true) (ha : PyData.strOk a = true) (hb : PyData.strOk b = true) (hc : PyData.strOk c = true) : cmpV .NotIn (.d (.str x)) (.d (.list [.str a, .str b, .str c])) S = .ok (.d (.bool (!(a == x || b == x || c == x)))) S := by simp [hx, ha, hb, hc, cmpV, datOf, seqOf, okIf, SeqAt.shaped, PyData.canLay0, PyData.canLayAll0, PyData.depth, PyData.depthAll, PyData.eqv, Bool.or_assoc]
@[simp] theorem notin_list4 (hx : PyData.strOk x = true) (ha : PyData.strOk a = true) (hb : PyData.strOk b = true) (hc : PyData.strOk c = true) (hd : PyData.strOk d = true) : cmpV .NotIn (.d (.str x)) (.d (.list [.str a, .str b, .str c, .str d])) S = .ok (.d (.bool (!(a == x || b == x || c == x || d == x)))) S := by simp [hx, ha, hb, hc, hd, cmpV, datOf, seqOf, okIf, SeqAt.shaped, PyData.canLay0, PyData.canLayAll0, PyData.depth, PyData.depthAll, PyData.eqv, Bool.or_assoc]
@[simp] theorem notin_list5 (hx : PyData.strOk x = true) (ha : PyData.strOk a = true) (hb : PyData.strOk b = true) (hc : PyData.strOk c = true) (hd : PyData.strOk d = true) (he : PyData.strOk e = true) : cmpV .NotIn (.d (.str x)) (.d (.list [.str a, .str b, .str c, .str d, .str e])) S = .ok (.d (.bool (!(a == x || b == x || c == x || d == x || e == x)))) S := by simp [hx, ha, hb, hc, hd, he, cmpV, datOf, seqOf, okIf, SeqAt.shaped, PyData.canLay0, PyData.canLayAll0, PyData.depth, PyData.depthAll, PyData.eqv, Bool.or_assoc]
@[simp] theorem notin_list6 (hx : PyData.strOk x = true) (ha : PyData.strOk a = true) (hb : PyData.strOk b = true) (hc : PyData.strOk c = true) (hd : PyData.strOk d = true) (he : PyData.strOk e = true) (hf : PyData.strOk f = true) : cmpV .NotIn (.d (.str x)) (.d (.list [.str a, .str b, .str c, .str d, .str e, .str f])) S = .ok (.d (.bool (!(a == x || b == x || c == x || d == x || e == x || f == x)))) S := by simp [hx, ha, hb, hc, hd, he, hf, cmpV, datOf, seqOf, okIf, SeqAt.shaped, PyData.canLay0, PyData.canLayAll0, PyData.depth, PyData.depthAll, PyData.eqv, Bool.or_assoc]
end
@[simp] theorem sl_0 : ((0 : Nat) ≤ sizeLine) = True := eq_true (by rw [sizeLine_eq]; decide)
@[simp] theorem sl_1 : ((1 : Nat) ≤ sizeLine) = True := eq_true (by rw [sizeLine_eq]; decide)
@[simp] theorem sl_2 : ((2 : Nat) ≤ sizeLine) = True := eq_true (by rw [sizeLine_eq]; decide)
@[simp] theorem sl_3 : ((3 : Nat) ≤ sizeLine) = True := eq_true (by rw [sizeLine_eq]; decide)
@[simp] theorem sl_4 : ((4 : Nat) ≤ sizeLine) = True := eq_true (by rw [sizeLine_eq]; decide)
@[simp] theorem sl_5 : ((5 : Nat) ≤ sizeLine) = True := eq_true (by rw [sizeLine_eq]; decide)
@[simp] theorem sl_6 : ((6 : Nat) ≤ sizeLine) = True := eq_true (by rw [sizeLine_eq]; decide)
@[simp] theorem sl_7 : ((7 : Nat) ≤ sizeLine) = True := eq_true (by rw [sizeLine_eq]; decide)
@[simp] theorem sl_8 : ((8 : Nat) ≤ sizeLine) = True := eq_true (by rw [sizeLine_eq]; decide)
@[simp] theorem sl_9 : ((9 : Nat) ≤ sizeLine) = True := eq_true (by rw [sizeLine_eq]; decide)
@[simp] theorem sl_10 : ((10 : Nat) ≤ sizeLine) = True := eq_true (by rw [sizeLine_eq]; decide)
@[simp] theorem sl_11 : ((11 : Nat) ≤ sizeLine) = True := eq_true (by rw [sizeLine_eq]; decide)
@[simp] theorem sl_12 : ((12 : Nat) ≤ sizeLine) = True := eq_true (by rw [sizeLine_eq]; decide)
@[simp] theorem sl_13 : ((13 : Nat) ≤ sizeLine) = True := eq_true (by rw [sizeLine_eq]; decide)
@[simp] theorem sl_14 : ((14 : Nat) ≤ sizeLine) = True := eq_true (by rw [sizeLine_eq]; decide)
@[simp] theorem sl_15 : ((15 : Nat) ≤ sizeLine) = True := eq_true (by rw [sizeLine_eq]; decide)
@[simp] theorem sl_16 : ((16 : Nat) ≤ sizeLine) = True := eq_true (by rw [sizeLine_eq]; decide)
@[simp] theorem sl_17 : ((17 : Nat) ≤ sizeLine) = True := eq_true (by rw [sizeLine_eq]; decide)
@[simp] theorem sl_18 : ((18 : Nat) ≤ sizeLine) = True := eq_true (by rw [sizeLine_eq]; decide)
@[simp] theorem sl_19 : ((19 : Nat) ≤ sizeLine) = True := eq_true (by rw [sizeLine_eq]; decide)
@[simp] theorem sl_20 : ((20 : Nat) ≤ sizeLine) = True := eq_true (by rw [sizeLine_eq]; decide)
@[simp] theorem sl_21 : ((21 : Nat) ≤ sizeLine) = True := eq_true (by rw [sizeLine_eq]; decide)
@[simp] theorem sl_22 : ((22 : Nat) ≤ sizeLine) = True := eq_true (by rw [sizeLine_eq]; decide)
@[simp] theorem sl_23 : ((23 : Nat) ≤ sizeLine) = True := eq_true (by rw [sizeLine_eq]; decide)
/-! ### small data, by sums -/
structure TameAll (m k : Nat) (ds : List PyData) : Prop where
  lf : lfAll ds = true
  bulk : PyData.bulkAll ds ≤ m
  dp : PyData.depthAll ds ≤ k
theorem TameAll.nil {m k : Nat} : TameAll m k [] := ⟨rfl, Nat.zero_le _, Nat.zero_le _⟩
theorem TameAll.cons {a b m k : Nat} {d : PyData} {ds : List PyData} (h : Tame a k d) (t : TameAll b k ds) (hm : a + 1 + b ≤ m := by decide) : TameAll m k (d :: ds) := by
  refine ⟨?_, ?_, ?_⟩
  · unfold lfAll
    rw [h.lf, t.lf] <;> rfl
  · have h1 := h.bulk
    have h2 := t.bulk
    unfold PyData.bulkAll
    omega
  · unfold PyData.depthAll
    exact Nat.max_le.mpr ⟨h.dp, t.dp⟩
theorem TameAll.all {a n m k : Nat} {ds : List PyData} (h : ∀ d ∈ ds, Tame a k d) (hl : ds.length ≤ n) (hm : (a + 1) * n ≤ m := by decide) : TameAll m k ds := by
  refine ⟨lfAll_iff.mpr fun d hd => (h d hd).lf, ?_, depthAll_le fun d hd => (h d hd).dp⟩
  refine Nat.le_trans (bulkAll_le fun d hd => (h d hd).bulk) (Nat.le_trans (Nat.mul_le_mul_left _ hl) hm)
theorem TameAll.app {a b m k : Nat} {ds es : List PyData} (h : TameAll a k ds) (g : TameAll b k es) (hm : a + b ≤ m := by decide) : TameAll m k (ds ++ es) := by
  induction ds generalizing a m with
  | nil => exact ⟨g.lf, by have := g.bulk; simp; omega, g.dp⟩
  | cons d ds ih =>
    have h1 := h.lf
    have h2 := h.bulk
    have h3 := h.dp
    unfold lfAll at h1
    unfold PyData.bulkAll at h2
    unfold PyData.depthAll at h3
    rw [Bool.and_eq_true] at h1
    rw [Nat.max_le] at h3
    have hb : PyData.bulkAll ds ≤ a := by omega
    have i := ih (a := PyData.bulkAll ds) (m := PyData.bulkAll ds + b) ⟨h1.2, Nat.le_refl _, h3.2⟩ (Nat.le_refl _)
    exact TameAll.cons (a := d.bulk) (b := PyData.bulkAll ds + b) ⟨h1.1, Nat.le_refl _, h3.1⟩ i (by omega)
theorem Tame.tup {m k : Nat} {ds : List PyData} (t : TameAll m k ds) : Tame m (k + 1) (.tuple ds) :=
  ⟨by unfold Ev.lf; exact t.lf, by unfold PyData.bulk; exact t.bulk, by unfold PyData.depth; exact Nat.succ_le_succ t.dp⟩
theorem Tame.list {m k : Nat} {ds : List PyData} (t : TameAll m k ds) : Tame m (k + 1) (.list ds) :=
  ⟨by unfold Ev.lf; exact t.lf, by unfold PyData.bulk; exact t.bulk, by unfold PyData.depth; exact Nat.succ_le_succ t.dp⟩
theorem TameAll.imp {m k m' k' : Nat} {ds : List PyData} (h : TameAll m k ds) (h1 : m ≤ m' := by decide) (h2 : k ≤ k' := by decide) : TameAll m' k' ds := ⟨h.lf, Nat.le_trans h.bulk h1, Nat.le_trans h.dp h2⟩
theorem tame_small {m k : Nat} {i : Int} (h0 : -1000 ≤ i) (h1 : i ≤ 1000000) : Tame m k (.int i) := tame_int (by
  have e : (1000000 : Nat) < 10 ^ 100 := by decide
  omega)
theorem tame_strB {x : Str} {n k : Nat} (h : x.length ≤ n) (hc : ∀ c ∈ x.cps.toList, c < 1114112) : Tame n k (.str x) := by
  refine ⟨?_, h, Nat.zero_le _⟩
  unfold Ev.lf
  rw [List.all_eq_true]
  exact fun c hc' => decide_eq_true (hc c hc')
/-- a written text, by looking -/
theorem tame_w {x : Str} {n k : Nat} (h : (decide (x.length ≤ n) && x.cps.toList.all fun c => decide (c < 1114112)) = true) : Tame n k (.str x) := by
  rw [Bool.and_eq_true, List.all_eq_true] at h
  exact tame_strB (of_decide_eq_true h.1) fun c hc => of_decide_eq_true (h.2 c hc)
/-- unequal by looking -/
theorem str_ne {a b : Str} (h : (a.cps.toList == b.cps.toList) = false) : (a == b) = false ∧ a ≠ b := by
  have ne : a ≠ b := fun e => by rw [e] at h; simp at h
  exact ⟨beq_eq_false_iff_ne.mpr ne, ne⟩
end Ev
end

section
set_option Elab.async false
set_option linter.all false
set_option maxRecDepth 100000
set_option maxHeartbeats 4000000
namespace HT
open PySem PySem.Spec L2 Ev
/-! ### the defs -/
def f_is_integer : Df := ⟨1, 1, (.cons (.ret (.and (.cons (.isi (.var 0) .int) (.cons (.not (.isi (.var 0) .bool)) .nil)))) .nil), false⟩
def f_is_within : Df := ⟨3, 3, (.cons (.ret (.and (.cons (.call 0 (.cons (.var 0) .nil)) (.cons (.chn .LtE .LtE (.var 1) (.var 0) (.var 2)) .nil)))) .nil), false⟩
def f_is_tuple : Df := ⟨2, 2, (.cons (.ret (.and (.cons (.isi (.var 0) .tuple) (.cons (.cmp .Eq (.bi .len (.cons (.var 0) .nil)) (.var 1)) .nil)))) .nil), false⟩
def f_are_rising : Df := ⟨1, 3, (.cons (.ret (.bi .all (.cons (.lc false (.cmp .Lt (.var 1) (.var 2)) [("near", 1), ("far", 2)] (.tup [1, 2]) (.zip (.var 0) (.sli (.var 0) (.some (.cst (.int 1))) .none)) .none) .nil))) .nil), false⟩
def f_is_lot_of : Df := ⟨2, 3, (.cons (.ret (.and (.cons (.isi (.var 0) .tuple) (.cons (.bi .all (.cons (.lc false (.call 1 (.cons (.var 2) (.cons (.cst (.int 0)) (.cons (.bin .Sub (.var 1) (.cst (.int 1))) .nil)))) [("one", 2)] (.nm 2) (.seq (.var 0)) .none) .nil)) (.cons (.call 3 (.cons (.var 0) .nil)) .nil))))) .nil), false⟩
def f_is_box_of : Df := ⟨2, 4, (.cons (.ife (.or (.cons (.not (.isi (.var 1) .tuple)) (.cons (.cmp .NotEq (.bi .len (.cons (.var 1) .nil)) (.bi .len (.cons (.idx (.var 0) (.cst (.int 0))) .nil))) .nil))) (.cons (.ret (.cst (.bool false))) .nil) .nil) (.cons (.ret (.bi .all (.cons (.lc false (.and (.cons (.call 4 (.cons (.var 2) (.cons (.bi .len (.cons (.idx (.var 3) (.cst (.int 1))) .nil)) .nil))) (.cons (.cmp .NotEq (.var 2) (.tup .nil)) .nil))) [("some", 2), ("row", 3)] (.tup [2, 3]) (.zip (.var 1) (.idx (.var 0) (.cst (.int 0)))) .none) .nil))) .nil)), false⟩
def f_truth_in : Df := ⟨2, 8, (.cons (.asg (.nm 2) (.idx (.var 1) (.cst (.int 0)))) (.cons (.ife (.cmp .Eq (.var 2) (.glb 3)) (.cons (.asg (.nm 3) (.idx (.var 0) (.idx (.var 1) (.cst (.int 1))))) (.cons (.ret (.ife (.cmp .NotIn (.idx (.var 1) (.cst (.int 2))) (.var 3)) (.cst (.bool false)) (.ife (.cmp .Eq (.bi .len (.cons (.var 3) .nil)) (.cst (.int 1))) (.cst (.bool true)) (.cst .none)))) .nil)) .nil) (.cons (.ife (.cmp .Eq (.var 2) (.glb 2)) (.cons (.asg (.tup [4, 5]) (.tup (.cons (.idx (.var 0) (.idx (.var 1) (.cst (.int 1)))) (.cons (.idx (.var 0) (.idx (.var 1) (.cst (.int 2)))) .nil)))) (.cons (.ife (.not (.bi .any (.cons (.lc false (.cmp .In (.var 6) (.var 5)) [("one", 6)] (.nm 6) (.seq (.var 4)) .none) .nil))) (.cons (.ret (.cst (.bool false))) .nil) .nil) (.cons (.ret (.ife (.or (.cons (.cmp .Eq (.idx (.var 1) (.cst (.int 1))) (.idx (.var 1) (.cst (.int 2)))) (.cons (.and (.cons (.cmp .Eq (.bi .len (.cons (.var 4) .nil)) (.cst (.int 1))) (.cons (.cmp .Eq (.bi .len (.cons (.var 5) .nil)) (.cst (.int 1))) .nil))) .nil))) (.cst (.bool true)) (.cst .none))) .nil))) .nil) (.cons (.ife (.cmp .Eq (.var 2) (.glb 1)) (.cons (.asg (.nm 7) (.call 6 (.cons (.var 0) (.cons (.idx (.var 1) (.cst (.int 1))) .nil)))) (.cons (.ret (.ife (.cmp .Is (.var 7) (.cst .none)) (.cst .none) (.not (.var 7)))) .nil)) .nil) (.cons (.asg (.nm 7) (.lc false (.call 6 (.cons (.var 0) (.cons (.var 6) .nil))) [("one", 6)] (.nm 6) (.seq (.idx (.var 1) (.cst (.int 1)))) .none)) (.cons (.ife (.cmp .Eq (.var 2) (.glb 0)) (.cons (.ret (.ife (.cmp .In (.cst (.bool false)) (.var 7)) (.cst (.bool false)) (.ife (.cmp .In (.cst .none) (.var 7)) (.cst .none) (.cst (.bool true))))) .nil) .nil) (.cons (.ret (.ife (.cmp .In (.cst (.bool true)) (.var 7)) (.cst (.bool true)) (.ife (.cmp .In (.cst .none) (.var 7)) (.cst .none) (.cst (.bool false))))) .nil))))))), false⟩
def f_is_text : Df := ⟨1, 2, (.cons (.ife (.or (.cons (.not (.isi (.var 0) .str)) (.cons (.not (.chn .LtE .LtE (.cst (.int 1)) (.bi .len (.cons (.var 0) .nil)) (.glb 4))) .nil))) (.cons (.ret (.cst (.bool false))) .nil) .nil) (.cons (.ret (.bi .all (.cons (.lc false (.chn .LtE .LtE (.cst (.str " ")) (.var 1) (.cst (.str "~"))) [("one", 1)] (.nm 1) (.seq (.var 0)) .none) .nil))) .nil)), false⟩
def f_is_variable : Df := ⟨1, 2, (.cons (.ife (.or (.cons (.not (.call 2 (.cons (.var 0) (.cons (.cst (.int 2)) .nil)))) (.cons (.not (.call 7 (.cons (.idx (.var 0) (.cst (.int 0))) .nil))) (.cons (.not (.isi (.idx (.var 0) (.cst (.int 1))) .tuple)) (.cons (.cmp .Eq (.bi .len (.cons (.idx (.var 0) (.cst (.int 1))) .nil)) (.cst (.int 0))) .nil))))) (.cons (.ret (.cst (.bool false))) .nil) .nil) (.cons (.ret (.and (.cons (.bi .all (.cons (.lc false (.isi (.var 1) .str) [("one", 1)] (.nm 1) (.seq (.idx (.var 0) (.cst (.int 1)))) .none) .nil)) (.cons (.cmp .Eq (.bi .lenSet (.cons (.idx (.var 0) (.cst (.int 1))) .nil)) (.bi .len (.cons (.idx (.var 0) (.cst (.int 1))) .nil))) .nil)))) .nil)), false⟩
def f_are_variables : Df := ⟨1, 3, (.cons (.ife (.or (.cons (.not (.isi (.var 0) .tuple)) (.cons (.cmp .Lt (.bi .len (.cons (.var 0) .nil)) (.cst (.int 2))) (.cons (.not (.bi .all (.cons (.lc false (.call 8 (.cons (.var 1) .nil)) [("one", 1)] (.nm 1) (.seq (.var 0)) .none) .nil))) .nil)))) (.cons (.ret (.cst (.bool false))) .nil) .nil) (.cons (.asg (.nm 2) (.lc false (.idx (.var 1) (.cst (.int 0))) [("one", 1)] (.nm 1) (.seq (.var 0)) .none)) (.cons (.ret (.and (.cons (.cmp .Eq (.bi .lenSet (.cons (.var 2) .nil)) (.bi .len (.cons (.var 2) .nil))) (.cons (.cmp .Eq (.idx (.var 2) (.cst (.int 0))) (.cst (.str "room"))) (.cons (.cmp .Eq (.idx (.var 2) (.cst (.int (-1)))) (.cst (.str "ended"))) (.cons (.cmp .Eq (.idx (.idx (.idx (.var 0) (.cst (.int (-1)))) (.cst (.int 1))) (.cst (.int 0))) (.cst (.str ""))) .nil)))))) .nil))), false⟩
def f_are_values_of : Df := ⟨2, 4, (.cons (.ife (.not (.call 2 (.cons (.var 1) (.cons (.bi .len (.cons (.var 0) .nil)) .nil)))) (.cons (.ret (.cst (.bool false))) .nil) .nil) (.cons (.ret (.bi .all (.cons (.lc false (.call 1 (.cons (.var 2) (.cons (.cst (.int 0)) (.cons (.bin .Sub (.bi .len (.cons (.idx (.var 3) (.cst (.int 1))) .nil)) (.cst (.int 1))) .nil)))) [("one", 2), ("variable", 3)] (.tup [2, 3]) (.zip (.var 1) (.var 0)) .none) .nil))) .nil)), false⟩
def f_is_place_in : Df := ⟨2, 2, (.cons (.ret (.call 1 (.cons (.var 1) (.cons (.cst (.int 0)) (.cons (.bin .Sub (.bi .len (.cons (.var 0) .nil)) (.cst (.int 1))) .nil))))) .nil), false⟩
def f_is_value_in : Df := ⟨3, 3, (.cons (.ret (.and (.cons (.call 11 (.cons (.var 0) (.cons (.var 1) .nil))) (.cons (.call 1 (.cons (.var 2) (.cons (.cst (.int 0)) (.cons (.bin .Sub (.bi .len (.cons (.idx (.idx (.var 0) (.var 1)) (.cst (.int 1))) .nil)) (.cst (.int 1))) .nil)))) .nil)))) .nil), false⟩
def f_is_guard_in : Df := ⟨3, 4, (.cons (.ife (.or (.cons (.cmp .Eq (.var 2) (.cst (.int 0))) (.cons (.not (.isi (.var 1) .tuple)) (.cons (.cmp .Lt (.bi .len (.cons (.var 1) .nil)) (.cst (.int 2))) (.cons (.not (.isi (.idx (.var 1) (.cst (.int 0))) .str)) .nil))))) (.cons (.ret (.cst (.bool false))) .nil) .nil) (.cons (.ife (.cmp .Eq (.idx (.var 1) (.cst (.int 0))) (.cst (.str "is"))) (.cons (.ret (.and (.cons (.cmp .Eq (.bi .len (.cons (.var 1) .nil)) (.cst (.int 3))) (.cons (.call 12 (.cons (.var 0) (.cons (.idx (.var 1) (.cst (.int 1))) (.cons (.idx (.var 1) (.cst (.int 2))) .nil)))) .nil)))) .nil) .nil) (.cons (.ife (.cmp .Eq (.idx (.var 1) (.cst (.int 0))) (.cst (.str "same"))) (.cons (.ret (.and (.cons (.cmp .Eq (.bi .len (.cons (.var 1) .nil)) (.cst (.int 3))) (.cons (.call 11 (.cons (.var 0) (.cons (.idx (.var 1) (.cst (.int 1))) .nil))) (.cons (.call 11 (.cons (.var 0) (.cons (.idx (.var 1) (.cst (.int 2))) .nil))) .nil))))) .nil) .nil) (.cons (.ife (.cmp .NotEq (.bi .len (.cons (.var 1) .nil)) (.cst (.int 2))) (.cons (.ret (.cst (.bool false))) .nil) .nil) (.cons (.ife (.cmp .Eq (.idx (.var 1) (.cst (.int 0))) (.cst (.str "not"))) (.cons (.ret (.call 13 (.cons (.var 0) (.cons (.idx (.var 1) (.cst (.int 1))) (.cons (.bin .Sub (.var 2) (.cst (.int 1))) .nil))))) .nil) .nil) (.cons (.ife (.or (.cons (.cmp .NotIn (.idx (.var 1) (.cst (.int 0))) (.tup (.cons (.cst (.str "all")) (.cons (.cst (.str "any")) .nil)))) (.cons (.not (.isi (.idx (.var 1) (.cst (.int 1))) .tuple)) .nil))) (.cons (.ret (.cst (.bool false))) .nil) .nil) (.cons (.ret (.bi .all (.cons (.lc false (.call 13 (.cons (.var 0) (.cons (.var 3) (.cons (.bin .Sub (.var 2) (.cst (.int 1))) .nil)))) [("one", 3)] (.nm 3) (.seq (.idx (.var 1) (.cst (.int 1)))) .none) .nil))) .nil))))))), false⟩
def f_is_act_in : Df := ⟨2, 2, (.cons (.ife (.or (.cons (.not (.call 2 (.cons (.var 1) (.cons (.cst (.int 3)) .nil)))) (.cons (.not (.isi (.idx (.var 1) (.cst (.int 0))) .str)) .nil))) (.cons (.ret (.cst (.bool false))) .nil) .nil) (.cons (.ife (.cmp .Eq (.idx (.var 1) (.cst (.int 0))) (.cst (.str "set"))) (.cons (.ret (.call 12 (.cons (.var 0) (.cons (.idx (.var 1) (.cst (.int 1))) (.cons (.idx (.var 1) (.cst (.int 2))) .nil))))) .nil) .nil) (.cons (.ife (.or (.cons (.cmp .NotEq (.idx (.var 1) (.cst (.int 0))) (.cst (.str "copy"))) (.cons (.not (.call 11 (.cons (.var 0) (.cons (.idx (.var 1) (.cst (.int 1))) .nil)))) (.cons (.not (.call 11 (.cons (.var 0) (.cons (.idx (.var 1) (.cst (.int 2))) .nil)))) .nil)))) (.cons (.ret (.cst (.bool false))) .nil) .nil) (.cons (.ret (.cmp .LtE (.bi .len (.cons (.idx (.idx (.var 0) (.idx (.var 1) (.cst (.int 2)))) (.cst (.int 1))) .nil)) (.bi .len (.cons (.idx (.idx (.var 0) (.idx (.var 1) (.cst (.int 1)))) (.cst (.int 1))) .nil)))) .nil)))), false⟩
def f_is_say : Df := ⟨1, 1, (.cons (.ife (.or (.cons (.not (.isi (.var 0) .tuple)) (.cons (.cmp .Eq (.bi .len (.cons (.var 0) .nil)) (.cst (.int 0))) (.cons (.not (.isi (.idx (.var 0) (.cst (.int 0))) .str)) .nil)))) (.cons (.ret (.cst (.bool false))) .nil) .nil) (.cons (.ife (.cmp .Eq (.idx (.var 0) (.cst (.int 0))) (.cst (.str "words"))) (.cons (.ret (.and (.cons (.cmp .Eq (.bi .len (.cons (.var 0) .nil)) (.cst (.int 2))) (.cons (.call 7 (.cons (.idx (.var 0) (.cst (.int 1))) .nil)) .nil)))) .nil) .nil) (.cons (.ret (.and (.cons (.cmp .In (.idx (.var 0) (.cst (.int 0))) (.tup (.cons (.cst (.str "look")) (.cons (.cst (.str "held")) .nil)))) (.cons (.cmp .Eq (.bi .len (.cons (.var 0) .nil)) (.cst (.int 1))) .nil)))) .nil))), false⟩
def f_are_doings : Df := ⟨4, 5, (.cons (.ife (.or (.cons (.not (.call 13 (.cons (.var 0) (.cons (.var 1) (.cons (.glb 5) .nil))))) (.cons (.not (.isi (.var 2) .tuple)) (.cons (.not (.isi (.var 3) .tuple)) .nil)))) (.cons (.ret (.cst (.bool false))) .nil) .nil) (.cons (.ret (.and (.cons (.bi .all (.cons (.lc false (.call 14 (.cons (.var 0) (.cons (.var 4) .nil))) [("one", 4)] (.nm 4) (.seq (.var 2)) .none) .nil)) (.cons (.bi .all (.cons (.lc false (.call 15 (.cons (.var 4) .nil)) [("one", 4)] (.nm 4) (.seq (.var 3)) .none) .nil)) .nil)))) .nil)), false⟩
def f_is_table_in : Df := ⟨2, 3, (.cons (.ife (.or (.cons (.not (.isi (.var 1) .tuple)) (.cons (.cmp .Eq (.bi .len (.cons (.var 1) .nil)) (.cst (.int 0))) (.cons (.not (.bi .all (.cons (.lc false (.call 2 (.cons (.var 2) (.cons (.cst (.int 4)) .nil))) [("one", 2)] (.nm 2) (.seq (.var 1)) .none) .nil))) .nil)))) (.cons (.ret (.cst (.bool false))) .nil) .nil) (.cons (.ife (.not (.bi .all (.cons (.lc false (.and (.cons (.call 1 (.cons (.idx (.var 2) (.cst (.int 3))) (.cons (.cst (.int 0)) (.cons (.cst (.int 1)) .nil)))) (.cons (.call 16 (.cons (.var 0) (.cons (.idx (.var 2) (.cst (.int 0))) (.cons (.idx (.var 2) (.cst (.int 1))) (.cons (.idx (.var 2) (.cst (.int 2))) .nil))))) .nil))) [("one", 2)] (.nm 2) (.seq (.var 1)) .none) .nil))) (.cons (.ret (.cst (.bool false))) .nil) .nil) (.cons (.ret (.cmp .Eq (.idx (.idx (.var 1) (.cst (.int (-1)))) (.cst (.int 0))) (.tup (.cons (.cst (.str "all")) (.cons (.tup .nil) .nil))))) .nil))), false⟩
def f_is_group_in : Df := ⟨2, 3, (.cons (.ife (.or (.cons (.not (.isi (.var 1) .tuple)) (.cons (.not (.bi .all (.cons (.lc false (.call 2 (.cons (.var 2) (.cons (.cst (.int 3)) .nil))) [("one", 2)] (.nm 2) (.seq (.var 1)) .none) .nil))) .nil))) (.cons (.ret (.cst (.bool false))) .nil) .nil) (.cons (.ret (.bi .all (.cons (.lc false (.call 16 (.cons (.var 0) (.cons (.idx (.var 2) (.cst (.int 0))) (.cons (.idx (.var 2) (.cst (.int 1))) (.cons (.idx (.var 2) (.cst (.int 2))) .nil))))) [("one", 2)] (.nm 2) (.seq (.var 1)) .none) .nil))) .nil)), false⟩
def f_is_ending_in : Df := ⟨2, 2, (.cons (.ife (.or (.cons (.not (.call 2 (.cons (.var 1) (.cons (.cst (.int 3)) .nil)))) (.cons (.not (.call 1 (.cons (.idx (.var 1) (.cst (.int 0))) (.cons (.cst (.int 1)) (.cons (.bin .Sub (.bi .len (.cons (.idx (.idx (.var 0) (.cst (.int (-1)))) (.cst (.int 1))) .nil)) (.cst (.int 1))) .nil))))) .nil))) (.cons (.ret (.cst (.bool false))) .nil) .nil) (.cons (.ret (.call 16 (.cons (.var 0) (.cons (.idx (.var 1) (.cst (.int 1))) (.cons (.tup .nil) (.cons (.idx (.var 1) (.cst (.int 2))) .nil)))))) .nil)), false⟩
def f_is_door_way : Df := ⟨2, 2, (.cons (.ife (.or (.cons (.not (.call 2 (.cons (.var 1) (.cons (.cst (.int 2)) .nil)))) (.cons (.not (.isi (.idx (.var 1) (.cst (.int 0))) .str)) (.cons (.cmp .NotIn (.idx (.var 1) (.cst (.int 0))) (.glb 6)) .nil)))) (.cons (.ret (.cst (.bool false))) .nil) .nil) (.cons (.ret (.or (.cons (.cmp .Is (.idx (.var 1) (.cst (.int 1))) (.cst .none)) (.cons (.call 11 (.cons (.var 0) (.cons (.idx (.var 1) (.cst (.int 1))) .nil))) .nil)))) .nil)), false⟩
def f_is_shown_in : Df := ⟨2, 4, (.cons (.asg (.nm 2) (.bi .len (.cons (.idx (.idx (.var 0) (.cst (.int 0))) (.cst (.int 1))) .nil))) (.cons (.ife (.or (.cons (.not (.isi (.var 1) .tuple)) (.cons (.cmp .Lt (.bi .len (.cons (.var 1) .nil)) (.cst (.int 3))) (.cons (.not (.isi (.idx (.var 1) (.cst (.int 0))) .str)) (.cons (.not (.call 7 (.cons (.idx (.var 1) (.cst (.int 1))) .nil))) .nil))))) (.cons (.ret (.cst (.bool false))) .nil) .nil) (.cons (.ife (.cmp .Eq (.idx (.var 1) (.cst (.int 0))) (.cst (.str "thing"))) (.cons (.ret (.and (.cons (.cmp .Eq (.bi .len (.cons (.var 1) .nil)) (.cst (.int 3))) (.cons (.call 11 (.cons (.var 0) (.cons (.idx (.var 1) (.cst (.int 2))) .nil))) (.cons (.cmp .Gt (.bi .len (.cons (.idx (.idx (.var 0) (.idx (.var 1) (.cst (.int 2)))) (.cst (.int 1))) .nil)) (.var 2)) .nil))))) .nil) .nil) (.cons (.ife (.cmp .Eq (.idx (.var 1) (.cst (.int 0))) (.cst (.str "fixed"))) (.cons (.ret (.and (.cons (.cmp .Eq (.bi .len (.cons (.var 1) .nil)) (.cst (.int 3))) (.cons (.call 1 (.cons (.idx (.var 1) (.cst (.int 2))) (.cons (.cst (.int 0)) (.cons (.bin .Sub (.var 2) (.cst (.int 1))) .nil)))) .nil)))) .nil) .nil) (.cons (.ife (.cmp .Eq (.idx (.var 1) (.cst (.int 0))) (.cst (.str "box"))) (.cons (.ife (.or (.cons (.cmp .NotEq (.bi .len (.cons (.var 1) .nil)) (.cst (.int 5))) (.cons (.not (.call 1 (.cons (.idx (.var 1) (.cst (.int 2))) (.cons (.cst (.int 0)) (.cons (.bin .Sub (.var 2) (.cst (.int 1))) .nil))))) (.cons (.not (.call 11 (.cons (.var 0) (.cons (.idx (.var 1) (.cst (.int 3))) .nil)))) .nil)))) (.cons (.ret (.cst (.bool false))) .nil) .nil) (.cons (.ret (.and (.cons (.call 0 (.cons (.idx (.var 1) (.cst (.int 4))) .nil)) (.cons (.cmp .Gt (.idx (.var 1) (.cst (.int 4))) (.var 2)) .nil)))) .nil)) .nil) (.cons (.ife (.or (.cons (.cmp .NotEq (.idx (.var 1) (.cst (.int 0))) (.cst (.str "folk"))) (.cons (.cmp .NotEq (.bi .len (.cons (.var 1) .nil)) (.cst (.int 4))) (.cons (.not (.call 11 (.cons (.var 0) (.cons (.idx (.var 1) (.cst (.int 2))) .nil)))) .nil)))) (.cons (.ret (.cst (.bool false))) .nil) .nil) (.cons (.ife (.or (.cons (.not (.isi (.idx (.var 1) (.cst (.int 3))) .tuple)) (.cons (.cmp .NotEq (.bi .len (.cons (.idx (.var 1) (.cst (.int 3))) .nil)) (.bi .len (.cons (.idx (.idx (.var 0) (.idx (.var 1) (.cst (.int 2)))) (.cst (.int 1))) .nil))) .nil))) (.cons (.ret (.cst (.bool false))) .nil) .nil) (.cons (.ret (.bi .all (.cons (.lc false (.call 1 (.cons (.var 3) (.cons (.cst (.int 0)) (.cons (.bin .Sub (.var 2) (.cst (.int 1))) .nil)))) [("one", 3)] (.nm 3) (.seq (.idx (.var 1) (.cst (.int 3)))) .none) .nil))) .nil)))))))), false⟩
def f_are_views : Df := ⟨2, 5, (.cons (.asg (.nm 2) (.bi .len (.cons (.idx (.idx (.var 0) (.cst (.int 0))) (.cst (.int 1))) .nil))) (.cons (.ife (.or (.cons (.not (.call 2 (.cons (.var 1) (.cons (.cst (.int 3)) .nil)))) (.cons (.not (.call 2 (.cons (.idx (.var 1) (.cst (.int 0))) (.cons (.var 2) .nil)))) (.cons (.not (.call 2 (.cons (.idx (.var 1) (.cst (.int 1))) (.cons (.var 2) .nil)))) .nil)))) (.cons (.ret (.cst (.bool false))) .nil) .nil) (.cons (.ife (.or (.cons (.not (.bi .all (.cons (.lc false (.call 7 (.cons (.var 3) .nil)) [("one", 3)] (.nm 3) (.seq (.idx (.var 1) (.cst (.int 0)))) .none) .nil))) (.cons (.not (.bi .all (.cons (.lc false (.isi (.var 3) .tuple) [("one", 3)] (.nm 3) (.seq (.idx (.var 1) (.cst (.int 1)))) .none) .nil))) .nil))) (.cons (.ret (.cst (.bool false))) .nil) .nil) (.cons (.ife (.not (.bi .all (.cons (.lc false (.bi .all (.cons (.lc false (.call 20 (.cons (.var 0) (.cons (.var 4) .nil))) [("way", 4)] (.nm 4) (.seq (.var 3)) .none) .nil)) [("one", 3)] (.nm 3) (.seq (.idx (.var 1) (.cst (.int 1)))) .none) .nil))) (.cons (.ret (.cst (.bool false))) .nil) .nil) (.cons (.ret (.and (.cons (.isi (.idx (.var 1) (.cst (.int 2))) .tuple) (.cons (.bi .all (.cons (.lc false (.call 21 (.cons (.var 0) (.cons (.var 3) .nil))) [("one", 3)] (.nm 3) (.seq (.idx (.var 1) (.cst (.int 2)))) .none) .nil)) .nil)))) .nil))))), false⟩
def f_is_middle_value : Df := ⟨1, 3, (.cons (.ife (.or (.cons (.not (.call 2 (.cons (.var 0) (.cons (.cst (.int 6)) .nil)))) (.cons (.not (.call 9 (.cons (.idx (.var 0) (.cst (.int 0))) .nil))) (.cons (.not (.call 10 (.cons (.idx (.var 0) (.cst (.int 0))) (.cons (.idx (.var 0) (.cst (.int 1))) .nil)))) .nil)))) (.cons (.ret (.cst (.bool false))) .nil) .nil) (.cons (.ife (.not (.bi .all (.cons (.lc false (.isi (.var 1) .tuple) [("one", 1)] (.nm 1) (.seq (.sli (.var 0) (.some (.cst (.int 2))) (.some (.cst (.int 5))))) .none) .nil))) (.cons (.ret (.cst (.bool false))) .nil) .nil) (.cons (.asg (.nm 2) (.idx (.var 0) (.cst (.int 0)))) (.cons (.ife (.not (.bi .all (.cons (.lc false (.call 17 (.cons (.var 2) (.cons (.var 1) .nil))) [("one", 1)] (.nm 1) (.seq (.idx (.var 0) (.cst (.int 2)))) .none) .nil))) (.cons (.ret (.cst (.bool false))) .nil) .nil) (.cons (.ife (.not (.bi .all (.cons (.lc false (.call 18 (.cons (.var 2) (.cons (.var 1) .nil))) [("one", 1)] (.nm 1) (.seq (.idx (.var 0) (.cst (.int 3)))) .none) .nil))) (.cons (.ret (.cst (.bool false))) .nil) .nil) (.cons (.ret (.and (.cons (.bi .all (.cons (.lc false (.call 19 (.cons (.var 2) (.cons (.var 1) .nil))) [("one", 1)] (.nm 1) (.seq (.idx (.var 0) (.cst (.int 4)))) .none) .nil)) (.cons (.call 22 (.cons (.var 2) (.cons (.idx (.var 0) (.cst (.int 5))) .nil))) .nil)))) .nil)))))), false⟩
def f_want_middle : Df := ⟨1, 1, (.cons (.ife (.not (.call 23 (.cons (.var 0) .nil))) (.cons .never .nil) .nil) .nil), false⟩
def f_folded_in : Df := ⟨2, 9, (.cons (.par [2, 3] (.cons (.call 6 (.cons (.var 0) (.cons (.var 1) .nil))) (.cons (.idx (.var 1) (.cst (.int 0))) .nil))) (.cons (.ife (.cmp .IsNot (.var 2) (.cst .none)) (.cons (.ret (.ife (.var 2) (.glb 7) (.glb 8))) .nil) .nil) (.cons (.ife (.cmp .Eq (.var 3) (.glb 3)) (.cons (.ret (.var 1)) .nil) .nil) (.cons (.ife (.cmp .Eq (.var 3) (.glb 2)) (.cons (.ret (.call 26 (.cons (.var 0) (.cons (.var 1) .nil)))) .nil) .nil) (.cons (.ife (.cmp .Eq (.var 3) (.glb 1)) (.cons (.asg (.nm 4) (.call 25 (.cons (.var 0) (.cons (.idx (.var 1) (.cst (.int 1))) .nil)))) (.cons (.ret (.ife (.cmp .Eq (.idx (.var 4) (.cst (.int 0))) (.glb 1)) (.idx (.var 4) (.cst (.int 1))) (.tup (.cons (.glb 1) (.cons (.var 4) .nil))))) .nil)) .nil) (.cons (.asg (.nm 5) (.lst true .nil)) (.cons (.for_ (.nm 6) (.seq (.idx (.var 1) (.cst (.int 1)))) (.cons (.asg (.nm 7) (.call 25 (.cons (.var 0) (.cons (.var 6) .nil)))) (.cons (.for_ (.nm 8) (.seq (.ife (.cmp .Eq (.idx (.var 7) (.cst (.int 0))) (.var 3)) (.idx (.var 7) (.cst (.int 1))) (.tup (.cons (.var 7) .nil)))) (.cons (.expr (.meth .extend (.var 5) (.cons (.ife (.cmp .NotIn (.var 8) (.var 5)) (.lst false (.cons (.var 8) .nil)) (.lst false .nil)) .nil))) .nil)) .nil))) (.cons (.ret (.ife (.cmp .Eq (.bi .len (.cons (.var 5) .nil)) (.cst (.int 1))) (.idx (.var 5) (.cst (.int 0))) (.tup (.cons (.var 3) (.cons (.bi .tuple (.cons (.var 5) .nil)) .nil))))) .nil)))))))), false⟩
def f_folded_same : Df := ⟨2, 4, (.cons (.par [2, 3] (.cons (.idx (.var 1) (.cst (.int 1))) (.cons (.idx (.var 1) (.cst (.int 2))) .nil))) (.cons (.ife (.cmp .Eq (.bi .len (.cons (.idx (.var 0) (.var 2)) .nil)) (.cst (.int 1))) (.cons (.ret (.tup (.cons (.glb 3) (.cons (.var 3) (.cons (.idx (.idx (.var 0) (.var 2)) (.cst (.int 0))) .nil))))) .nil) .nil) (.cons (.ret (.ife (.cmp .Eq (.bi .len (.cons (.idx (.var 0) (.var 3)) .nil)) (.cst (.int 1))) (.tup (.cons (.glb 3) (.cons (.var 2) (.cons (.idx (.idx (.var 0) (.var 3)) (.cst (.int 0))) .nil)))) (.var 1))) .nil))), false⟩
def f_weight_of : Df := ⟨1, 2, (.cons (.ife (.cmp .In (.idx (.var 0) (.cst (.int 0))) (.tup (.cons (.glb 3) (.cons (.glb 2) .nil)))) (.cons (.ret (.cst (.int 1))) .nil) .nil) (.cons (.ret (.ife (.cmp .Eq (.idx (.var 0) (.cst (.int 0))) (.glb 1)) (.call 27 (.cons (.idx (.var 0) (.cst (.int 1))) .nil)) (.bi .sum (.cons (.lc false (.call 27 (.cons (.var 1) .nil)) [("one", 1)] (.nm 1) (.seq (.idx (.var 0) (.cst (.int 1)))) .none) .nil)))) .nil)), false⟩
def f_want_guard_box : Df := ⟨3, 3, (.cons (.expr (.call 24 (.cons (.var 0) .nil))) (.cons (.ife (.not (.call 5 (.cons (.var 0) (.cons (.var 1) .nil)))) (.cons .never .nil) .nil) (.cons (.ife (.not (.call 13 (.cons (.idx (.var 0) (.cst (.int 0))) (.cons (.var 2) (.cons (.glb 5) .nil))))) (.cons .never .nil) .nil) .nil))), false⟩
def f_fold_guard : Df := ⟨3, 3, (.cons (.expr (.call 28 (.cons (.var 0) (.cons (.var 1) (.cons (.var 2) .nil))))) (.cons (.ret (.call 25 (.cons (.var 1) (.cons (.var 2) .nil)))) .nil)), false⟩
def f_weight : Df := ⟨1, 7, (.cons (.expr (.call 24 (.cons (.var 0) .nil))) (.cons (.asg (.nm 1) (.cst (.int 0))) (.cons (.for_ (.nm 2) (.seq (.bin .Add (.bi .list (.cons (.idx (.var 0) (.cst (.int 2))) .nil)) (.bi .list (.cons (.idx (.var 0) (.cst (.int 3))) .nil)))) (.cons (.asg (.nm 1) (.bin .Add (.var 1) (.bi .sum (.cons (.lc false (.bin .Add (.bin .Add (.cst (.int 1)) (.call 27 (.cons (.idx (.var 3) (.cst (.int 0))) .nil))) (.bi .len (.cons (.idx (.var 3) (.cst (.int 1))) .nil))) [("row", 3)] (.nm 3) (.seq (.var 2)) .none) .nil)))) .nil)) (.cons (.ret (.bin .Add (.var 1) (.bi .sum (.cons (.lc false (.bin .Add (.cst (.int 1)) (.call 27 (.cons (.var 5) .nil))) [("value", 4), ("guard", 5), ("says", 6)] (.tup [4, 5, 6]) (.seq (.idx (.var 0) (.cst (.int 4)))) .none) .nil)))) .nil)))), false⟩
def f_law_pot : Df := ⟨2, 3, (.cons (.asg (.nm 2) (.ife (.cmp .Lt (.var 1) (.bi .len (.cons (.var 0) .nil))) (.bi .abs (.cons (.idx (.var 0) (.var 1)) .nil)) (.bin .Add (.bin .Mult (.cst (.int 7013)) (.var 1)) (.cst (.int 1907))))) (.cons (.ret (.lst true (.cons (.bi .max2 (.cons (.cst (.int 0)) (.cons (.bin .Sub (.var 2) (.bin .Pow (.cst (.int 10)) (.cst (.int 18)))) .nil))) (.cons (.bin .Add (.bin .Mod (.bi .int (.cons (.bin .Add (.bin .Add (.bin .Mult (.bin .Mod (.bi .int (.cons (.var 2) .nil)) (.cst (.int 2147483549))) (.cst (.int 40692))) (.bin .Mult (.cst (.int 21043)) (.var 1))) (.cst (.int 13351))) .nil)) (.cst (.int 2147483563))) (.cst (.int 1))) .nil)))) .nil)), true⟩
def f_law_draw : Df := ⟨2, 3, (.cons (.ife (.cmp .Gt (.idx (.var 0) (.cst (.int 0))) (.cst (.int 0))) (.cons (.unp [.sub (.var 0) (.cst (.int 0)), .nm 2] (.bi .divmod (.cons (.idx (.var 0) (.cst (.int 0))) (.cons (.var 1) .nil)))) (.cons (.ret (.var 2)) .nil)) .nil) (.cons (.seti (.var 0) (.cst (.int 1)) (.bin .Mod (.bi .int (.cons (.bin .Add (.bin .Mult (.idx (.var 0) (.cst (.int 1))) (.cst (.int 39373))) (.cst (.int 35073))) .nil)) (.cst (.int 2147483587)))) (.cons (.ret (.bin .Mod (.bi .int (.cons (.bin .FloorDiv (.bin .Mod (.bi .int (.cons (.bin .Mult (.idx (.var 0) (.cst (.int 1))) (.idx (.var 0) (.cst (.int 1)))) .nil)) (.cst (.int 2147483563))) (.cst (.int 29))) .nil)) (.var 1))) .nil))), false⟩
def f_law_pick : Df := ⟨2, 2, (.cons (.ret (.idx (.var 1) (.call 32 (.cons (.var 0) (.cons (.bi .len (.cons (.var 1) .nil)) .nil))))) .nil), false⟩
def f_law_text : Df := ⟨3, 4, (.cons (.ret (.sme .join (.cst (.str "")) (.cons (.lc false (.call 33 (.cons (.var 0) (.cons (.var 1) .nil))) [("turn", 3)] (.nm 3) (.rng1 (.call 32 (.cons (.var 0) (.cons (.bin .Add (.var 2) (.cst (.int 1))) .nil)))) .none) .nil))) .nil), false⟩
def f_law_variables : Df := ⟨1, 6, (.cons (.asg (.nm 1) (.sli (.tup (.cons (.cst (.str "hall")) (.cons (.cst (.str "yard")) (.cons (.cst (.str "cave")) .nil)))) .none (.some (.bin .Add (.cst (.int 1)) (.call 32 (.cons (.var 0) (.cons (.cst (.int 3)) .nil))))))) (.cons (.asg (.nm 2) (.lst true (.cons (.tup (.cons (.cst (.str "room")) (.cons (.var 1) .nil))) .nil))) (.cons (.for_ (.nm 3) (.rng1 (.bin .Add (.cst (.int 1)) (.call 32 (.cons (.var 0) (.cons (.cst (.int 3)) .nil))))) (.cons (.asg (.nm 4) (.call 32 (.cons (.var 0) (.cons (.cst (.int 3)) .nil)))) (.cons (.asg (.nm 5) (.ife (.cmp .Eq (.var 4) (.cst (.int 0))) (.bin .Add (.var 1) (.tup (.cons (.cst (.str "held")) (.cons (.cst (.str "nowhere")) .nil)))) (.ife (.cmp .Eq (.var 4) (.cst (.int 1))) (.tup (.cons (.cst (.str "0")) (.cons (.cst (.str "1")) .nil))) (.tup (.cons (.cst (.str "0")) (.cons (.cst (.str "1")) (.cons (.cst (.str "2")) .nil))))))) (.cons (.expr (.meth .append (.var 2) (.cons (.tup (.cons (.bin .Add (.bin .Add (.idx (.lst false (.cons (.cst (.str "place")) (.cons (.cst (.str "flag")) (.cons (.cst (.str "count")) .nil)))) (.var 4)) (.cst (.str " "))) (.bi .strI (.cons (.var 3) .nil))) (.cons (.var 5) .nil))) .nil))) .nil)))) (.cons (.ret (.bi .tuple (.cons (.bin .Add (.var 2) (.lst false (.cons (.tup (.cons (.cst (.str "ended")) (.cons (.sli (.tup (.cons (.cst (.str "")) (.cons (.cst (.str "out")) (.cons (.cst (.str "lost")) .nil)))) .none (.some (.bin .Add (.cst (.int 2)) (.call 32 (.cons (.var 0) (.cons (.cst (.int 2)) .nil)))))) .nil))) .nil))) .nil))) .nil)))), false⟩
def f_law_atom : Df := ⟨2, 4, (.cons (.par [2, 3] (.cons (.call 32 (.cons (.var 0) (.cons (.bi .len (.cons (.var 1) .nil)) .nil))) (.cons (.call 32 (.cons (.var 0) (.cons (.bi .len (.cons (.var 1) .nil)) .nil))) .nil))) (.cons (.ife (.cmp .Eq (.call 32 (.cons (.var 0) (.cons (.cst (.int 4)) .nil))) (.cst (.int 0))) (.cons (.ret (.tup (.cons (.cst (.str "same")) (.cons (.var 2) (.cons (.var 3) .nil))))) .nil) .nil) (.cons (.ret (.tup (.cons (.cst (.str "is")) (.cons (.var 2) (.cons (.call 32 (.cons (.var 0) (.cons (.bi .len (.cons (.idx (.idx (.var 1) (.var 2)) (.cst (.int 1))) .nil)) .nil))) .nil))))) .nil))), false⟩
def f_law_guard : Df := ⟨3, 6, (.cons (.asg (.nm 3) (.ife (.cmp .Gt (.var 2) (.cst (.int 0))) (.call 32 (.cons (.var 0) (.cons (.cst (.int 6)) .nil))) (.cst (.int 0)))) (.cons (.ife (.cmp .Lt (.var 3) (.cst (.int 3))) (.cons (.ret (.call 36 (.cons (.var 0) (.cons (.var 1) .nil)))) .nil) .nil) (.cons (.ife (.cmp .Eq (.var 3) (.cst (.int 3))) (.cons (.ret (.tup (.cons (.cst (.str "not")) (.cons (.call 37 (.cons (.var 0) (.cons (.var 1) (.cons (.bin .Sub (.var 2) (.cst (.int 1))) .nil)))) .nil)))) .nil) .nil) (.cons (.asg (.nm 4) (.call 32 (.cons (.var 0) (.cons (.cst (.int 4)) .nil)))) (.cons (.ret (.tup (.cons (.ife (.cmp .Eq (.var 3) (.cst (.int 4))) (.cst (.str "all")) (.cst (.str "any"))) (.cons (.bi .tuple (.cons (.lc false (.call 37 (.cons (.var 0) (.cons (.var 1) (.cons (.bin .Sub (.var 2) (.cst (.int 1))) .nil)))) [("turn", 5)] (.nm 5) (.rng1 (.var 4)) .none) .nil)) .nil)))) .nil))))), false⟩
def f_law_acts : Df := ⟨3, 7, (.cons (.asg (.nm 3) (.lst true .nil)) (.cons (.for_ (.nm 4) (.rng1 (.ife (.cmp .NotEq (.var 2) (.lst false .nil)) (.call 32 (.cons (.var 0) (.cons (.cst (.int 4)) .nil))) (.cst (.int 0)))) (.cons (.par [5, 6] (.cons (.call 33 (.cons (.var 0) (.cons (.var 2) .nil))) (.cons (.call 32 (.cons (.var 0) (.cons (.bi .len (.cons (.var 1) .nil)) .nil))) .nil))) (.cons (.ife (.and (.cons (.cmp .Eq (.call 32 (.cons (.var 0) (.cons (.cst (.int 3)) .nil))) (.cst (.int 0))) (.cons (.cmp .LtE (.bi .len (.cons (.idx (.idx (.var 1) (.var 6)) (.cst (.int 1))) .nil)) (.bi .len (.cons (.idx (.idx (.var 1) (.var 5)) (.cst (.int 1))) .nil))) .nil))) (.cons (.expr (.meth .append (.var 3) (.cons (.tup (.cons (.cst (.str "copy")) (.cons (.var 5) (.cons (.var 6) .nil)))) .nil))) .nil) (.cons (.expr (.meth .append (.var 3) (.cons (.tup (.cons (.cst (.str "set")) (.cons (.var 5) (.cons (.call 32 (.cons (.var 0) (.cons (.bi .len (.cons (.idx (.idx (.var 1) (.var 5)) (.cst (.int 1))) .nil)) .nil))) .nil)))) .nil))) .nil)) .nil))) (.cons (.ret (.bi .tuple (.cons (.var 3) .nil))) .nil))), false⟩
def f_law_says : Df := ⟨1, 3, (.cons (.asg (.nm 1) (.lst false (.cons (.tup (.cons (.cst (.str "words")) (.cons (.cst (.str "Well.")) .nil))) (.cons (.tup (.cons (.cst (.str "words")) (.cons (.cst (.str "It rings.")) .nil))) (.cons (.tup (.cons (.cst (.str "look")) .nil)) (.cons (.tup (.cons (.cst (.str "held")) .nil)) .nil)))))) (.cons (.ret (.bi .tuple (.cons (.lc false (.call 33 (.cons (.var 0) (.cons (.var 1) .nil))) [("turn", 2)] (.nm 2) (.rng1 (.call 32 (.cons (.var 0) (.cons (.cst (.int 3)) .nil)))) .none) .nil))) .nil)), false⟩
def f_law_views : Df := ⟨2, 13, (.cons (.asg (.tup [2, 3, 4]) (.tup (.cons (.idx (.idx (.var 1) (.cst (.int 0))) (.cst (.int 1))) (.cons (.lst true .nil) (.cons (.lst true .nil) .nil))))) (.cons (.asg (.nm 5) (.lc false (.var 6) [("at", 6), ("one", 7)] (.tup [6, 7]) (.enum (.var 1)) (.some (.cmp .Eq (.sli (.idx (.var 7) (.cst (.int 0))) .none (.some (.cst (.int 4)))) (.cst (.str "flag")))))) (.cons (.for_ (.nm 8) (.seq (.var 2)) (.cons (.asg (.nm 9) (.call 33 (.cons (.var 0) (.cons (.bin .Add (.lst false (.cons (.cst .none) .nil)) (.var 5)) .nil)))) (.cons (.expr (.meth .append (.var 3) (.cons (.ife (.cmp .Eq (.call 32 (.cons (.var 0) (.cons (.cst (.int 2)) .nil))) (.cst (.int 0))) (.tup (.cons (.tup (.cons (.cst (.str "north")) (.cons (.var 9) .nil))) .nil)) (.tup .nil)) .nil))) .nil))) (.cons (.for_ (.nest 6 [10, 11]) (.enum (.var 1)) (.cons (.ife (.cmp .Eq (.sli (.var 10) .none (.some (.cst (.int 5)))) (.cst (.str "place"))) (.cons (.expr (.meth .append (.var 4) (.cons (.tup (.cons (.cst (.str "thing")) (.cons (.bin .Add (.cst (.str "the ")) (.var 10)) (.cons (.var 6) .nil)))) .nil))) .nil) .nil) (.cons (.ife (.cmp .Eq (.sli (.var 10) .none (.some (.cst (.int 4)))) (.cst (.str "flag"))) (.cons (.expr (.meth .append (.var 4) (.cons (.tup (.cons (.cst (.str "box")) (.cons (.bin .Add (.cst (.str "the box ")) (.var 10)) (.cons (.call 32 (.cons (.var 0) (.cons (.bi .len (.cons (.var 2) .nil)) .nil))) (.cons (.var 6) (.cons (.bin .Add (.bi .len (.cons (.var 2) .nil)) (.cst (.int 1))) .nil)))))) .nil))) .nil) .nil) (.cons (.ife (.cmp .Eq (.sli (.var 10) .none (.some (.cst (.int 5)))) (.cst (.str "count"))) (.cons (.expr (.meth .append (.var 4) (.cons (.tup (.cons (.cst (.str "folk")) (.cons (.bin .Add (.cst (.str "the cat ")) (.var 10)) (.cons (.var 6) (.cons (.bi .tuple (.cons (.lc false (.call 32 (.cons (.var 0) (.cons (.bi .len (.cons (.var 2) .nil)) .nil))) [("value", 12)] (.nm 12) (.seq (.var 11)) .none) .nil)) .nil))))) .nil))) .nil) .nil) .nil)))) (.cons (.ret (.tup (.cons (.bi .tuple (.cons (.lc false (.bin .Add (.bin .Add (.cst (.str "A ")) (.var 8)) (.cst (.str "."))) [("room", 8)] (.nm 8) (.seq (.var 2)) .none) .nil)) (.cons (.bi .tuple (.cons (.var 3) .nil)) (.cons (.bi .tuple (.cons (.bin .Add (.var 4) (.lst false (.cons (.tup (.cons (.cst (.str "fixed")) (.cons (.cst (.str "the stone")) (.cons (.cst (.int 0)) .nil)))) .nil))) .nil)) .nil))))) .nil))))), false⟩
def f_law_middle : Df := ⟨1, 15, (.cons (.asg (.nm 1) (.call 35 (.cons (.var 0) .nil))) (.cons (.asg (.nm 2) (.lc false (.var 3) [("at", 3)] (.nm 3) (.rng1 (.bin .Sub (.bi .len (.cons (.var 1) .nil)) (.cst (.int 1)))) (.some (.cmp .Gt (.call 32 (.cons (.var 0) (.cons (.cst (.int 3)) .nil))) (.cst (.int 0)))))) (.cons (.asg (.nm 4) (.bin .Add (.bi .tuple (.cons (.lc false (.call 32 (.cons (.var 0) (.cons (.bi .len (.cons (.var 6) .nil)) .nil))) [("label", 5), ("values", 6)] (.tup [5, 6]) (.seq (.sli (.var 1) .none (.some (.cst (.int (-1)))))) .none) .nil)) (.tup (.cons (.cst (.int 0)) .nil)))) (.cons (.asg (.nm 7) (.lst true .nil)) (.cons (.for_ (.nm 8) (.rng1 (.bin .Add (.cst (.int 1)) (.call 32 (.cons (.var 0) (.cons (.cst (.int 3)) .nil))))) (.cons (.asg (.nm 9) (.lc false (.tup (.cons (.call 37 (.cons (.var 0) (.cons (.var 1) (.cons (.cst (.int 2)) .nil)))) (.cons (.call 38 (.cons (.var 0) (.cons (.var 1) (.cons (.var 2) .nil)))) (.cons (.call 39 (.cons (.var 0) .nil)) (.cons (.call 32 (.cons (.var 0) (.cons (.cst (.int 2)) .nil))) .nil))))) [("turn", 10)] (.nm 10) (.rng1 (.call 32 (.cons (.var 0) (.cons (.cst (.int 4)) .nil)))) .none)) (.cons (.expr (.meth .append (.var 7) (.cons (.bi .tuple (.cons (.bin .Add (.var 9) (.lst false (.cons (.tup (.cons (.tup (.cons (.cst (.str "all")) (.cons (.tup .nil) .nil))) (.cons (.call 38 (.cons (.var 0) (.cons (.var 1) (.cons (.var 2) .nil)))) (.cons (.call 39 (.cons (.var 0) .nil)) (.cons (.cst (.int 1)) .nil))))) .nil))) .nil)) .nil))) .nil))) (.cons (.asg (.nm 11) (.lst true .nil)) (.cons (.for_ (.nm 12) (.rng1 (.call 32 (.cons (.var 0) (.cons (.cst (.int 3)) .nil)))) (.cons (.expr (.meth .append (.var 11) (.cons (.bi .tuple (.cons (.lc false (.tup (.cons (.call 37 (.cons (.var 0) (.cons (.var 1) (.cons (.cst (.int 1)) .nil)))) (.cons (.call 38 (.cons (.var 0) (.cons (.var 1) (.cons (.var 2) .nil)))) (.cons (.call 39 (.cons (.var 0) .nil)) .nil)))) [("turn", 10)] (.nm 10) (.rng1 (.call 32 (.cons (.var 0) (.cons (.cst (.int 3)) .nil)))) .none) .nil)) .nil))) .nil)) (.cons (.asg (.nm 13) (.lc false (.tup (.cons (.var 14) (.cons (.call 37 (.cons (.var 0) (.cons (.var 1) (.cons (.cst (.int 1)) .nil)))) (.cons (.call 39 (.cons (.var 0) .nil)) .nil)))) [("value", 14)] (.nm 14) (.rng2 (.cst (.int 1)) (.bi .len (.cons (.idx (.idx (.var 1) (.cst (.int (-1)))) (.cst (.int 1))) .nil))) .none)) (.cons (.ret (.tup (.cons (.var 1) (.cons (.var 4) (.cons (.bi .tuple (.cons (.var 7) .nil)) (.cons (.bi .tuple (.cons (.var 11) .nil)) (.cons (.bi .tuple (.cons (.var 13) .nil)) (.cons (.call 40 (.cons (.var 0) (.cons (.var 1) .nil))) .nil)))))))) .nil))))))))), false⟩
def f_law_is_true : Df := ⟨2, 4, (.cons (.ife (.cmp .Eq (.idx (.var 1) (.cst (.int 0))) (.cst (.str "is"))) (.cons (.ret (.cmp .Eq (.idx (.var 0) (.idx (.var 1) (.cst (.int 1)))) (.idx (.var 1) (.cst (.int 2))))) .nil) .nil) (.cons (.ife (.cmp .Eq (.idx (.var 1) (.cst (.int 0))) (.cst (.str "same"))) (.cons (.ret (.cmp .Eq (.idx (.var 0) (.idx (.var 1) (.cst (.int 1)))) (.idx (.var 0) (.idx (.var 1) (.cst (.int 2)))))) .nil) .nil) (.cons (.ife (.cmp .Eq (.idx (.var 1) (.cst (.int 0))) (.cst (.str "not"))) (.cons (.ret (.not (.call 42 (.cons (.var 0) (.cons (.idx (.var 1) (.cst (.int 1))) .nil))))) .nil) .nil) (.cons (.asg (.nm 2) (.lc false (.call 42 (.cons (.var 0) (.cons (.var 3) .nil))) [("one", 3)] (.nm 3) (.seq (.idx (.var 1) (.cst (.int 1)))) .none)) (.cons (.ret (.ife (.cmp .Eq (.idx (.var 1) (.cst (.int 0))) (.cst (.str "all"))) (.bi .all (.cons (.var 2) .nil)) (.bi .any (.cons (.var 2) .nil)))) .nil))))), false⟩
def f_law_box : Df := ⟨2, 7, (.cons (.asg (.nm 2) (.lst true .nil)) (.cons (.for_ (.tup [3, 4]) (.seq (.idx (.var 1) (.cst (.int 0)))) (.cons (.asg (.nm 5) (.lc false (.var 6) [("at", 6)] (.nm 6) (.rng1 (.bi .len (.cons (.var 4) .nil))) (.some (.cmp .Gt (.call 32 (.cons (.var 0) (.cons (.cst (.int 3)) .nil))) (.cst (.int 0)))))) (.cons (.expr (.meth .append (.var 2) (.cons (.ife (.and (.cons (.cmp .NotEq (.var 5) (.lst false .nil)) (.cons (.cmp .Gt (.call 32 (.cons (.var 0) (.cons (.cst (.int 3)) .nil))) (.cst (.int 0))) .nil))) (.bi .tuple (.cons (.var 5) .nil)) (.tup (.cons (.call 32 (.cons (.var 0) (.cons (.bi .len (.cons (.var 4) .nil)) .nil))) .nil))) .nil))) .nil))) (.cons (.ret (.bi .tuple (.cons (.var 2) .nil))) .nil))), false⟩
def f_law_all : Df := ⟨1, 6, (.cons (.asg (.nm 1) (.lst false (.cons (.tup .nil) .nil))) (.cons (.for_ (.nm 2) (.seq (.var 0)) (.cons (.asg (.nm 3) (.lst true .nil)) (.cons (.for_ (.nm 4) (.seq (.var 1)) (.cons (.expr (.meth .extend (.var 3) (.cons (.lc false (.bin .Add (.var 4) (.tup (.cons (.var 5) .nil))) [("value", 5)] (.nm 5) (.seq (.var 2)) .none) .nil))) .nil)) (.cons (.asg (.nm 1) (.var 3)) .nil)))) (.cons (.ret (.var 1)) .nil))), false⟩
def f_law_told : Df := ⟨2, 8, (.cons (.ife (.cmp .Eq (.idx (.var 1) (.cst (.int 0))) (.cst (.str "is"))) (.cons (.ret (.ife (.cmp .NotIn (.idx (.var 1) (.cst (.int 2))) (.idx (.var 0) (.idx (.var 1) (.cst (.int 1))))) (.cst (.bool false)) (.ife (.cmp .Eq (.bi .len (.cons (.idx (.var 0) (.idx (.var 1) (.cst (.int 1)))) .nil)) (.cst (.int 1))) (.cst (.bool true)) (.cst .none)))) .nil) .nil) (.cons (.ife (.cmp .Eq (.idx (.var 1) (.cst (.int 0))) (.cst (.str "same"))) (.cons (.asg (.nm 2) (.lc false (.var 3) [("value", 3)] (.nm 3) (.seq (.idx (.var 0) (.idx (.var 1) (.cst (.int 1))))) (.some (.cmp .In (.var 3) (.idx (.var 0) (.idx (.var 1) (.cst (.int 2)))))))) (.cons (.ife (.cmp .Eq (.var 2) (.lst false .nil)) (.cons (.ret (.cst (.bool false))) .nil) .nil) (.cons (.ret (.ife (.or (.cons (.cmp .Eq (.idx (.var 1) (.cst (.int 1))) (.idx (.var 1) (.cst (.int 2)))) (.cons (.cmp .Eq (.bin .Add (.bi .len (.cons (.idx (.var 0) (.idx (.var 1) (.cst (.int 1)))) .nil)) (.bi .len (.cons (.idx (.var 0) (.idx (.var 1) (.cst (.int 2)))) .nil))) (.cst (.int 2))) .nil))) (.cst (.bool true)) (.cst .none))) .nil))) .nil) (.cons (.ife (.cmp .Eq (.idx (.var 1) (.cst (.int 0))) (.cst (.str "not"))) (.cons (.asg (.nm 4) (.call 45 (.cons (.var 0) (.cons (.idx (.var 1) (.cst (.int 1))) .nil)))) (.cons (.ret (.ife (.cmp .Is (.var 4) (.cst .none)) (.cst .none) (.not (.var 4)))) .nil)) .nil) (.cons (.par [5, 6] (.cons (.lc false (.call 45 (.cons (.var 0) (.cons (.var 7) .nil))) [("one", 7)] (.nm 7) (.seq (.idx (.var 1) (.cst (.int 1)))) .none) (.cons (.cmp .Eq (.idx (.var 1) (.cst (.int 0))) (.cst (.str "any"))) .nil))) (.cons (.ife (.cmp .In (.var 6) (.var 5)) (.cons (.ret (.var 6)) .nil) .nil) (.cons (.ret (.ife (.cmp .In (.cst .none) (.var 5)) (.cst .none) (.not (.var 6)))) .nil)))))), false⟩
def f_law_folded : Df := ⟨2, 10, (.cons (.asg (.nm 2) (.call 45 (.cons (.var 0) (.cons (.var 1) .nil)))) (.cons (.ife (.cmp .IsNot (.var 2) (.cst .none)) (.cons (.ret (.tup (.cons (.ife (.var 2) (.cst (.str "all")) (.cst (.str "any"))) (.cons (.tup .nil) .nil)))) .nil) .nil) (.cons (.ife (.and (.cons (.cmp .Eq (.idx (.var 1) (.cst (.int 0))) (.cst (.str "same"))) (.cons (.cmp .In (.cst (.int 1)) (.tup (.cons (.bi .len (.cons (.idx (.var 0) (.idx (.var 1) (.cst (.int 1)))) .nil)) (.cons (.bi .len (.cons (.idx (.var 0) (.idx (.var 1) (.cst (.int 2)))) .nil)) .nil)))) .nil))) (.cons (.asg (.tup [3, 4]) (.ife (.cmp .Eq (.bi .len (.cons (.idx (.var 0) (.idx (.var 1) (.cst (.int 1)))) .nil)) (.cst (.int 1))) (.tup (.cons (.idx (.var 1) (.cst (.int 1))) (.cons (.idx (.var 1) (.cst (.int 2))) .nil))) (.tup (.cons (.idx (.var 1) (.cst (.int 2))) (.cons (.idx (.var 1) (.cst (.int 1))) .nil))))) (.cons (.ret (.tup (.cons (.cst (.str "is")) (.cons (.var 4) (.cons (.idx (.idx (.var 0) (.var 3)) (.cst (.int 0))) .nil))))) .nil)) .nil) (.cons (.ife (.cmp .In (.idx (.var 1) (.cst (.int 0))) (.tup (.cons (.cst (.str "is")) (.cons (.cst (.str "same")) .nil)))) (.cons (.ret (.var 1)) .nil) .nil) (.cons (.ife (.cmp .Eq (.idx (.var 1) (.cst (.int 0))) (.cst (.str "not"))) (.cons (.asg (.nm 5) (.call 46 (.cons (.var 0) (.cons (.idx (.var 1) (.cst (.int 1))) .nil)))) (.cons (.ret (.ife (.cmp .Eq (.idx (.var 5) (.cst (.int 0))) (.cst (.str "not"))) (.idx (.var 5) (.cst (.int 1))) (.tup (.cons (.cst (.str "not")) (.cons (.var 5) .nil))))) .nil)) .nil) (.cons (.asg (.nm 6) (.lst true .nil)) (.cons (.for_ (.nm 7) (.seq (.idx (.var 1) (.cst (.int 1)))) (.cons (.asg (.nm 8) (.call 46 (.cons (.var 0) (.cons (.var 7) .nil)))) (.cons (.for_ (.nm 9) (.seq (.ife (.cmp .Eq (.idx (.var 8) (.cst (.int 0))) (.idx (.var 1) (.cst (.int 0)))) (.idx (.var 8) (.cst (.int 1))) (.lst false (.cons (.var 8) .nil)))) (.cons (.ife (.and (.cons (.cmp .NotIn (.var 9) (.var 6)) (.cons (.cmp .NotIn (.var 9) (.lst false (.cons (.tup (.cons (.cst (.str "all")) (.cons (.tup .nil) .nil))) (.cons (.tup (.cons (.cst (.str "any")) (.cons (.tup .nil) .nil))) .nil)))) .nil))) (.cons (.expr (.meth .append (.var 6) (.cons (.var 9) .nil))) .nil) .nil) .nil)) .nil))) (.cons (.ret (.ife (.cmp .Eq (.bi .len (.cons (.var 6) .nil)) (.cst (.int 1))) (.idx (.var 6) (.cst (.int 0))) (.tup (.cons (.idx (.var 1) (.cst (.int 0))) (.cons (.bi .tuple (.cons (.var 6) .nil)) .nil))))) .nil)))))))), false⟩
def f_law_tests : Df := ⟨1, 2, (.cons (.ife (.cmp .In (.idx (.var 0) (.cst (.int 0))) (.tup (.cons (.cst (.str "is")) (.cons (.cst (.str "same")) .nil)))) (.cons (.ret (.cst (.int 1))) .nil) .nil) (.cons (.ret (.ife (.cmp .Eq (.idx (.var 0) (.cst (.int 0))) (.cst (.str "not"))) (.call 47 (.cons (.idx (.var 0) (.cst (.int 1))) .nil)) (.bi .sum (.cons (.lc false (.call 47 (.cons (.var 1) .nil)) [("one", 1)] (.nm 1) (.seq (.idx (.var 0) (.cst (.int 1)))) .none) .nil)))) .nil)), false⟩
def f_law_weight : Df := ⟨1, 7, (.cons (.asg (.nm 1) (.cst (.int 0))) (.cons (.for_ (.nm 2) (.seq (.bin .Add (.bi .list (.cons (.idx (.var 0) (.cst (.int 2))) .nil)) (.bi .list (.cons (.idx (.var 0) (.cst (.int 3))) .nil)))) (.cons (.for_ (.nm 3) (.seq (.var 2)) (.cons (.asg (.nm 1) (.bin .Add (.bin .Add (.bin .Add (.var 1) (.cst (.int 1))) (.call 47 (.cons (.idx (.var 3) (.cst (.int 0))) .nil))) (.bi .len (.cons (.idx (.var 3) (.cst (.int 1))) .nil)))) .nil)) .nil)) (.cons (.for_ (.tup [4, 5, 6]) (.seq (.idx (.var 0) (.cst (.int 4)))) (.cons (.asg (.nm 1) (.bin .Add (.bin .Add (.var 1) (.cst (.int 1))) (.call 47 (.cons (.var 5) .nil)))) .nil)) (.cons (.ret (.var 1)) .nil)))), false⟩
def f_law_right : Df := ⟨1, 10, (.cons (.asg (.nm 1) (.call 41 (.cons (.var 0) .nil))) (.cons (.par [2, 3] (.cons (.bi .repr (.cons (.var 1) .nil)) (.cons (.call 48 (.cons (.var 1) .nil)) .nil))) (.cons (.ife (.cmp .NotEq (.bi .repr (.cons (.lst false (.cons (.call 30 (.cons (.var 1) .nil)) (.cons (.kall 30 [0] .nil (.cons (.var 1) .nil)) .nil))) .nil)) (.bi .repr (.cons (.lst false (.cons (.var 3) (.cons (.var 3) .nil))) .nil))) (.cons (.ret (.cst (.bool false))) .nil) .nil) (.cons (.for_ (.nm 4) (.rng1 (.cst (.int 8))) (.cons (.asg (.tup [5, 6]) (.tup (.cons (.call 37 (.cons (.var 0) (.cons (.idx (.var 1) (.cst (.int 0))) (.cons (.cst (.int 4)) .nil)))) (.cons (.call 43 (.cons (.var 0) (.cons (.var 1) .nil))) .nil)))) (.cons (.asg (.tup [7, 8]) (.tup (.cons (.call 46 (.cons (.var 6) (.cons (.var 5) .nil))) (.cons (.bi .repr (.cons (.lst false (.cons (.var 5) (.cons (.var 6) .nil))) .nil)) .nil)))) (.cons (.ife (.cmp .NotEq (.bi .repr (.cons (.lst false (.cons (.call 29 (.cons (.var 1) (.cons (.var 6) (.cons (.var 5) .nil)))) (.cons (.kall 29 [2, 1, 0] .nil (.cons (.var 5) (.cons (.var 6) (.cons (.var 1) .nil)))) .nil))) .nil)) (.bi .repr (.cons (.lst false (.cons (.var 7) (.cons (.var 7) .nil))) .nil))) (.cons (.ret (.cst (.bool false))) .nil) .nil) (.cons (.ife (.or (.cons (.not (.bi .all (.cons (.lc false (.cmp .Eq (.call 42 (.cons (.var 9) (.cons (.var 5) .nil))) (.call 42 (.cons (.var 9) (.cons (.var 7) .nil)))) [("values", 9)] (.nm 9) (.seq (.call 44 (.cons (.var 6) .nil))) .none) .nil))) (.cons (.cmp .Gt (.call 47 (.cons (.var 7) .nil)) (.call 47 (.cons (.var 5) .nil))) .nil))) (.cons (.ret (.cst (.bool false))) .nil) .nil) (.cons (.ife (.or (.cons (.cmp .NotEq (.call 29 (.cons (.var 1) (.cons (.var 6) (.cons (.var 7) .nil)))) (.var 7)) (.cons (.cmp .NotEq (.bi .repr (.cons (.lst false (.cons (.var 5) (.cons (.var 6) .nil))) .nil)) (.var 8)) .nil))) (.cons (.ret (.cst (.bool false))) .nil) .nil) .nil)))))) (.cons (.ret (.cmp .Eq (.bi .repr (.cons (.var 1) .nil)) (.var 2))) .nil))))), false⟩
def f_law : Df := ⟨1, 2, (.cons (.ret (.bi .all (.cons (.lc false (.call 49 (.cons (.call 31 (.cons (.var 0) (.cons (.var 1) .nil))) .nil)) [("k", 1)] (.nm 1) (.rng1 (.cst (.int 2))) .none) .nil))) .nil), false⟩
def T : List Df := [f_is_integer, f_is_within, f_is_tuple, f_are_rising, f_is_lot_of, f_is_box_of, f_truth_in, f_is_text, f_is_variable, f_are_variables, f_are_values_of, f_is_place_in, f_is_value_in, f_is_guard_in, f_is_act_in, f_is_say, f_are_doings, f_is_table_in, f_is_group_in, f_is_ending_in, f_is_door_way, f_is_shown_in, f_are_views, f_is_middle_value, f_want_middle, f_folded_in, f_folded_same, f_weight_of, f_want_guard_box, f_fold_guard, f_weight, f_law_pot, f_law_draw, f_law_pick, f_law_text, f_law_variables, f_law_atom, f_law_guard, f_law_acts, f_law_says, f_law_views, f_law_middle, f_law_is_true, f_law_box, f_law_all, f_law_told, f_law_folded, f_law_tests, f_law_weight, f_law_right, f_law]
def G : List PyData := [(.str "all"), (.str "not"), (.str "same"), (.str "is"), (.int 200), (.int 14), (.tuple [(.str "north"), (.str "south"), (.str "east"), (.str "west"), (.str "up"), (.str "down")]), (.tuple [(.str "all"), (.tuple [])]), (.tuple [(.str "any"), (.tuple [])])]
theorem t_is_integer : T[0]? = some f_is_integer := rfl
theorem t_is_within : T[1]? = some f_is_within := rfl
theorem t_is_tuple : T[2]? = some f_is_tuple := rfl
theorem t_are_rising : T[3]? = some f_are_rising := rfl
theorem t_is_lot_of : T[4]? = some f_is_lot_of := rfl
theorem t_is_box_of : T[5]? = some f_is_box_of := rfl
theorem t_truth_in : T[6]? = some f_truth_in := rfl
theorem t_is_text : T[7]? = some f_is_text := rfl
theorem t_is_variable : T[8]? = some f_is_variable := rfl
theorem t_are_variables : T[9]? = some f_are_variables := rfl
theorem t_are_values_of : T[10]? = some f_are_values_of := rfl
theorem t_is_place_in : T[11]? = some f_is_place_in := rfl
theorem t_is_value_in : T[12]? = some f_is_value_in := rfl
theorem t_is_guard_in : T[13]? = some f_is_guard_in := rfl
theorem t_is_act_in : T[14]? = some f_is_act_in := rfl
theorem t_is_say : T[15]? = some f_is_say := rfl
theorem t_are_doings : T[16]? = some f_are_doings := rfl
theorem t_is_table_in : T[17]? = some f_is_table_in := rfl
theorem t_is_group_in : T[18]? = some f_is_group_in := rfl
theorem t_is_ending_in : T[19]? = some f_is_ending_in := rfl
theorem t_is_door_way : T[20]? = some f_is_door_way := rfl
theorem t_is_shown_in : T[21]? = some f_is_shown_in := rfl
theorem t_are_views : T[22]? = some f_are_views := rfl
theorem t_is_middle_value : T[23]? = some f_is_middle_value := rfl
theorem t_want_middle : T[24]? = some f_want_middle := rfl
theorem t_folded_in : T[25]? = some f_folded_in := rfl
theorem t_folded_same : T[26]? = some f_folded_same := rfl
theorem t_weight_of : T[27]? = some f_weight_of := rfl
theorem t_want_guard_box : T[28]? = some f_want_guard_box := rfl
theorem t_fold_guard : T[29]? = some f_fold_guard := rfl
theorem t_weight : T[30]? = some f_weight := rfl
theorem t_law_pot : T[31]? = some f_law_pot := rfl
theorem t_law_draw : T[32]? = some f_law_draw := rfl
theorem t_law_pick : T[33]? = some f_law_pick := rfl
theorem t_law_text : T[34]? = some f_law_text := rfl
theorem t_law_variables : T[35]? = some f_law_variables := rfl
theorem t_law_atom : T[36]? = some f_law_atom := rfl
theorem t_law_guard : T[37]? = some f_law_guard := rfl
theorem t_law_acts : T[38]? = some f_law_acts := rfl
theorem t_law_says : T[39]? = some f_law_says := rfl
theorem t_law_views : T[40]? = some f_law_views := rfl
theorem t_law_middle : T[41]? = some f_law_middle := rfl
theorem t_law_is_true : T[42]? = some f_law_is_true := rfl
theorem t_law_box : T[43]? = some f_law_box := rfl
theorem t_law_all : T[44]? = some f_law_all := rfl
theorem t_law_told : T[45]? = some f_law_told := rfl
theorem t_law_folded : T[46]? = some f_law_folded := rfl
theorem t_law_tests : T[47]? = some f_law_tests := rfl
theorem t_law_weight : T[48]? = some f_law_weight := rfl
theorem t_law_right : T[49]? = some f_law_right := rfl
theorem t_law : T[50]? = some f_law := rfl
end HT
end

section
set_option Elab.async false
set_option linter.all false
set_option maxRecDepth 100000
set_option maxHeartbeats 4000000
/-! M1: numbers, texts, variables, values -/
namespace HT
open PySem PySem.Spec L2 Ev
def isInt : PyData → Bool
  | .int _ => true
  | _ => false
theorem r_is_integer {n : Nat} (hn : 0 < n) (d : PyData) (S : Store) : sem G T n 0 [.d d] S = .ok (.d (.bool (isInt d))) S := by
  obtain ⟨m, rfl⟩ : ∃ m, n = m + 1 := ⟨n - 1, by omega⟩
  refine ok_of (gets_sem t_is_integer rfl ?_)
  cases d <;> simp [dSs, dS, dE, dEs, dAnd, dOr, dT, Ev.tAnd, Ev.tOr, dU, dN, dB2, dIf, dVar, dCst, dO, dC, dI, dCall, dKall, pick, entry, isiV, isiV2, isTys, isTy, tobV, truO, truV, okIf, datOf, seqOf, lstOf, datas, lstV, tupV, elsOf, Out.bind_ok, f_is_integer, isInt]
def within (a b : Int) : PyData → Bool
  | .int i => decide (a ≤ i) && decide (i ≤ b)
  | _ => false
theorem r_is_within {n : Nat} (hn : 1 < n) (d : PyData) (a b : Int) (S : Store) : sem G T n 1 [.d d, .d (.int a), .d (.int b)] S = .ok (.d (.bool (within a b d))) S := by
  obtain ⟨m, rfl⟩ : ∃ m, n = m + 1 := ⟨n - 1, by omega⟩
  refine ok_of (gets_sem t_is_within rfl ?_)
  have c := r_is_integer (n := m) (by omega)
  cases d <;> simp [dSs, dS, dE, dEs, dAnd, dOr, dT, Ev.tAnd, Ev.tOr, dU, dN, dB2, dIf, dVar, dCst, dO, dC, dI, dCall, dKall, pick, entry, isiV, isiV2, isTys, isTy, tobV, truO, truV, okIf, datOf, seqOf, lstOf, datas, lstV, tupV, elsOf, Out.bind_ok, f_is_within, isInt, c, within]
  refine ⟨fun h _ => h, fun h1 h2 => ?_⟩
  omega
def tupN (k : Int) : PyData → Bool
  | .tuple ds => decide ((ds.length : Int) = k)
  | _ => false
theorem r_is_tuple {n : Nat} (hn : 0 < n) (d : PyData) (k : Int) (S : Store) : sem G T n 2 [.d d, .d (.int k)] S = .ok (.d (.bool (tupN k d))) S := by
  obtain ⟨m, rfl⟩ : ∃ m, n = m + 1 := ⟨n - 1, by omega⟩
  refine ok_of (gets_sem t_is_tuple rfl ?_)
  cases d <;> simp [dSs, dS, dE, dEs, dAnd, dOr, dT, Ev.tAnd, Ev.tOr, dU, dN, dB2, dIf, dVar, dCst, dO, dC, dI, dCall, dKall, pick, entry, isiV, isiV2, isTys, isTy, tobV, truO, truV, okIf, datOf, seqOf, lstOf, datas, lstV, tupV, elsOf, Out.bind_ok, f_is_tuple, tupN]
theorem line_of {k : Nat} (h : k ≤ 100000) : k ≤ sizeLine := by rw [sizeLine_eq]; omega
abbrev Ints (zs : List Int) : PyData := .tuple (zs.map .int)
/-- values under their sizes -/
def InR : List Int → List Int → Prop
  | [], [] => True
  | z :: zs, v :: vs => (0 ≤ v ∧ v < z) ∧ InR zs vs
  | _, _ => False
theorem InR.len : ∀ {zs vs : List Int}, InR zs vs → vs.length = zs.length
  | [], [], _ => rfl
  | _ :: _, _ :: _, h => congrArg Nat.succ (InR.len h.2)
  | [], _ :: _, h => h.elim
  | _ :: _, [], h => h.elim
theorem InR.zip : ∀ {zs vs : List Int}, InR zs vs → ∀ p ∈ vs.zip zs, 0 ≤ p.1 ∧ p.1 < p.2
  | [], [], _, p, hp => by cases hp
  | z :: zs, v :: vs, h, p, hp => by
    rcases List.mem_cons.mp hp with e | hp
    · rw [e]; exact h.1
    · exact InR.zip h.2 p hp
  | [], _ :: _, h, _, _ => h.elim
  | _ :: _, [], h, _, _ => h.elim
theorem InR.get : ∀ {zs vs : List Int} {i : Nat} {z : Int}, InR zs vs → zs[i]? = some z → ∃ v, vs[i]? = some v ∧ 0 ≤ v ∧ v < z
  | [], [], i, z, _, e => by simp at e
  | z :: zs, v :: vs, 0, y, h, e => by simp at e; subst e; exact ⟨v, rfl, h.1⟩
  | z :: zs, v :: vs, i + 1, y, h, e => by
    obtain ⟨u, h1, h2⟩ := InR.get (i := i) h.2 (by simpa using e)
    exact ⟨u, by simpa using h1, h2⟩
  | [], _ :: _, _, _, h, _ => h.elim
  | _ :: _, [], _, _, h, _ => h.elim
theorem InR.set : ∀ {zs vs : List Int} {i : Nat} {z x : Int}, InR zs vs → zs[i]? = some z → 0 ≤ x → x < z → InR zs (vs.set i x)
  | [], [], i, z, x, h, e, _, _ => by simp at e
  | z :: zs, v :: vs, 0, y, x, h, e, h1, h2 => by simp at e; subst e; exact ⟨⟨h1, h2⟩, h.2⟩
  | z :: zs, v :: vs, i + 1, y, x, h, e, h1, h2 => ⟨h.1, InR.set (i := i) h.2 (by simpa using e) h1 h2⟩
  | [], _ :: _, _, _, _, h, _, _, _ => h.elim
  | _ :: _, [], _, _, _, h, _, _, _ => h.elim
theorem InR.app : ∀ {zs vs ys us : List Int}, InR zs vs → InR ys us → InR (zs ++ ys) (vs ++ us)
  | [], [], _, _, _, h => h
  | _ :: _, _ :: _, _, _, h, h2 => ⟨h.1, InR.app h.2 h2⟩
  | [], _ :: _, _, _, h, _ => h.elim
  | _ :: _, [], _, _, h, _ => h.elim
/-! ### texts -/
def Txt (x : Str) : Prop := 1 ≤ x.length ∧ x.length ≤ 200 ∧ ∀ c ∈ x.cps.toList, 32 ≤ c ∧ c ≤ 126
theorem sp_ord {c : Nat} (h : 32 ≤ c ∧ c ≤ 126) : (!decide ((⟨#[c]⟩ : Str).cps.toList < (" " : Str).cps.toList)) = true ∧ (!decide (("~" : Str).cps.toList < (⟨#[c]⟩ : Str).cps.toList)) = true := by
  have e1 : (" " : Str).cps.toList = [32] := by decide +kernel
  have e2 : ("~" : Str).cps.toList = [126] := by decide +kernel
  rw [e1, e2]
  simp [List.cons_lt_cons_iff]
  omega
theorem r_is_text {n : Nat} (hn : 0 < n) {x : Str} (h : Txt x) (S : Store) : sem G T n 7 [.d (.str x)] S = .ok (.d (.bool true)) S := by
  obtain ⟨m, rfl⟩ : ∃ m, n = m + 1 := ⟨n - 1, by omega⟩
  refine ok_of (gets_sem t_is_text rfl ?_)
  obtain ⟨h1, h2, h3⟩ := h
  have hx : x.length ≤ sizeLine := line_of (by omega)
  have hg : G[4]? = some (.int 200) := rfl
  have a1 : (1 : Int) ≤ (x.length : Int) := by omega
  have a2 : (x.length : Int) ≤ 200 := by omega
  simp [dSs, dS, dE, dEs, dAnd, dOr, dT, Ev.tAnd, Ev.tOr, dU, dN, dB2, dIf, dVar, dCst, dO, dC, dI, dCall, dKall, pick, entry, isiV, isiV2, isTys, isTy, tobV, truO, truV, okIf, datOf, seqOf, lstOf, datas, lstV, tupV, elsOf, Out.bind_ok, f_is_text, hx, hg, a1, a2]
  refine gets_each (fun c : Nat => Val.d (.str ⟨#[c]⟩)) (fun _ => .bool true) x.cps.toList (n := none) (S := S) (by simp [dSs, dS, dE, dEs, dAnd, dOr, dT, Ev.tAnd, Ev.tOr, dU, dN, dB2, dIf, dVar, dCst, dO, dC, dI, dCall, dKall, pick, entry, isiV, isiV2, isTys, isTy, tobV, truO, truV, okIf, datOf, seqOf, lstOf, datas, lstV, tupV, elsOf, Out.bind_ok]) (by simp) (fun c hc => ⟨_, rfl, ?_⟩) (by rw [Array.length_toList]; exact hx) ?_
  · obtain ⟨e1, e2⟩ := sp_ord (h3 c hc)
    simp only [dSs, dS, dE, dEs, dAnd, dOr, dT, Ev.tAnd, Ev.tOr, dU, dN, dB2, dIf, dVar, dCst, dO, dC, dI, dCall, dKall, pick, entry, isiV, isiV2, isTys, isTy, tobV, truO, truV, okIf, datOf, seqOf, lstOf, datas, lstV, tupV, elsOf, Out.bind_ok, wipeD, List.set, List.getElem?_cons_succ, List.getElem?_cons_zero, le_ss, e1, e2]
    simp [dSs, dS, dE, dEs, dAnd, dOr, dT, Ev.tAnd, Ev.tOr, dU, dN, dB2, dIf, dVar, dCst, dO, dC, dI, dCall, dKall, pick, entry, isiV, isiV2, isTys, isTy, tobV, truO, truV, okIf, datOf, seqOf, lstOf, datas, lstV, tupV, elsOf, Out.bind_ok, e1, e2]
  · simp
theorem once_nodup : ∀ {ss acc : List Str}, ss.Nodup → (∀ x ∈ ss, x ∉ acc) → ss.foldl addD acc = acc ++ ss
  | [], acc, _, _ => by simp
  | x :: ss, acc, h, h2 => by
    obtain ⟨h3, h4⟩ := List.nodup_cons.mp h
    have e : addD acc x = acc ++ [x] := if_neg (h2 x List.mem_cons_self)
    show ss.foldl addD (addD acc x) = _
    rw [e, once_nodup h4 fun y hy => ?_]
    · simp
    · intro m
      rcases List.mem_append.mp m with m | m
      · exact h2 y (List.mem_cons_of_mem _ hy) m
      · rw [List.mem_singleton.mp m] at hy
        exact h3 hy
theorem once_of {ss : List Str} (h : ss.Nodup) : onceS ss = ss := by
  have := once_nodup (acc := []) h (by simp)
  simpa [onceS] using this
/-! ### variables -/
abbrev Va := Str × List Str
abbrev varD (v : Va) : PyData := .tuple [.str v.1, .tuple (v.2.map .str)]
abbrev varsD (l : List Va) : PyData := .tuple (l.map varD)
structure VaOk (v : Va) : Prop where
  txt : Txt v.1
  nd : v.2.Nodup
  one : 1 ≤ v.2.length
  few : v.2.length ≤ 100
theorem r_is_variable {n : Nat} (hn : 1 < n) {v : Va} (h : VaOk v) (S : Store) : sem G T n 8 [.d (varD v)] S = .ok (.d (.bool true)) S := by
  obtain ⟨m, rfl⟩ : ∃ m, n = m + 1 := ⟨n - 1, by omega⟩
  refine ok_of (gets_sem t_is_variable rfl ?_)
  obtain ⟨lab, names⟩ := v
  have h1 := h.one
  have h2 := h.few
  dsimp only at h1 h2
  simp [dSs, dS, dE, dEs, dAnd, dOr, dT, Ev.tAnd, Ev.tOr, dU, dN, dB2, dIf, dVar, dCst, dO, dC, dI, dCall, dKall, pick, entry, isiV, isiV2, isTys, isTy, tobV, truO, truV, okIf, datOf, seqOf, lstOf, datas, lstV, tupV, elsOf, Out.bind_ok, f_is_variable, r_is_tuple (n := m) (by omega), tupN, atI, ixN, r_is_text (n := m) (by omega) h.txt]
  refine ⟨fun e => ?_, fun _ => ?_⟩
  · simp [e] at h1
  · refine gets_each (fun x : Str => Val.d (.str x)) (fun _ => .bool true) names (n := none) (S := S) (by simp [dSs, dS, dE, dEs, dAnd, dOr, dT, Ev.tAnd, Ev.tOr, dU, dN, dB2, dIf, dVar, dCst, dO, dC, dI, dCall, dKall, pick, entry, isiV, isiV2, isTys, isTy, tobV, truO, truV, okIf, datOf, seqOf, lstOf, datas, lstV, tupV, elsOf, Out.bind_ok, atI, ixN]) (by simp) (fun x hx => ⟨_, rfl, by simp [dSs, dS, dE, dEs, dAnd, dOr, dT, Ev.tAnd, Ev.tOr, dU, dN, dB2, dIf, dVar, dCst, dO, dC, dI, dCall, dKall, pick, entry, isiV, isiV2, isTys, isTy, tobV, truO, truV, okIf, datOf, seqOf, lstOf, datas, lstV, tupV, elsOf, Out.bind_ok, wipeD]⟩) (line_of (by omega)) ?_
    simp [once_of h.nd]
    omega
structure VasOk (l : List Va) : Prop where
  each : ∀ v ∈ l, VaOk v
  nd : (l.map (·.1)).Nodup
  two : 2 ≤ l.length
  few : l.length ≤ 100
  room : ∃ v r, l = v :: r ∧ v.1 = ("room" : Str)
  ended : ∃ v r ns, l = r ++ [v] ∧ v.1 = ("ended" : Str) ∧ v.2 = ("" : Str) :: ns
theorem atI_end {α : Type} {l : List α} {x : α} : atI (l ++ [x]) (-1) = some x := by
  unfold atI ixN
  rw [if_neg (by decide), if_pos (by simp; omega)]
  have e : (-1 + ((l.length : Int) + 1)).toNat = l.length := by omega
  simp [e]
theorem atI_nat {α : Type} {l : List α} {i : Nat} {x : α} (h : l[i]? = some x) : atI l (i : Int) = some x := by
  have hl : i < l.length := (List.getElem?_eq_some_iff.mp h).1
  unfold atI ixN
  rw [if_pos (by omega), if_pos (by omega)]
  exact h
theorem r_are_variables {n : Nat} (hn : 2 < n) {l : List Va} (h : VasOk l) (S : Store) : sem G T n 9 [.d (varsD l)] S = .ok (.d (.bool true)) S := by
  obtain ⟨m, rfl⟩ : ∃ m, n = m + 1 := ⟨n - 1, by omega⟩
  refine ok_of (gets_sem t_are_variables rfl ?_)
  have h1 := h.two
  have h2 := h.few
  have line : l.length ≤ sizeLine := line_of (by omega)
  simp [dSs, dS, dE, dEs, dAnd, dOr, dT, Ev.tAnd, Ev.tOr, dU, dN, dB2, dIf, dVar, dCst, dO, dC, dI, dCall, dKall, pick, entry, isiV, isiV2, isTys, isTy, tobV, truO, truV, okIf, datOf, seqOf, lstOf, datas, lstV, tupV, elsOf, Out.bind_ok, f_are_variables, tgt]
  refine ⟨by omega, fun _ => ?_⟩
  refine gets_each (fun v : Va => Val.d (varD v)) (fun _ => .bool true) l (n := none) (S := S) (by simp [dSs, dS, dE, dEs, dAnd, dOr, dT, Ev.tAnd, Ev.tOr, dU, dN, dB2, dIf, dVar, dCst, dO, dC, dI, dCall, dKall, pick, entry, isiV, isiV2, isTys, isTy, tobV, truO, truV, okIf, datOf, seqOf, lstOf, datas, lstV, tupV, elsOf, Out.bind_ok]) (by simp) (fun v hv => ⟨_, rfl, by simp [dSs, dS, dE, dEs, dAnd, dOr, dT, Ev.tAnd, Ev.tOr, dU, dN, dB2, dIf, dVar, dCst, dO, dC, dI, dCall, dKall, pick, entry, isiV, isiV2, isTys, isTy, tobV, truO, truV, okIf, datOf, seqOf, lstOf, datas, lstV, tupV, elsOf, Out.bind_ok, wipeD, r_is_variable (n := m) (by omega) (h.each v hv)]⟩) line ?_
  simp
  refine gets_each (fun v : Va => Val.d (varD v)) (fun v => .str v.1) l (n := none) (S := S) (by simp [dSs, dS, dE, dEs, dAnd, dOr, dT, Ev.tAnd, Ev.tOr, dU, dN, dB2, dIf, dVar, dCst, dO, dC, dI, dCall, dKall, pick, entry, isiV, isiV2, isTys, isTy, tobV, truO, truV, okIf, datOf, seqOf, lstOf, datas, lstV, tupV, elsOf, Out.bind_ok]) (by simp) (fun v hv => ⟨_, rfl, by simp [dSs, dS, dE, dEs, dAnd, dOr, dT, Ev.tAnd, Ev.tOr, dU, dN, dB2, dIf, dVar, dCst, dO, dC, dI, dCall, dKall, pick, entry, isiV, isiV2, isTys, isTy, tobV, truO, truV, okIf, datOf, seqOf, lstOf, datas, lstV, tupV, elsOf, Out.bind_ok, wipeD, atI, ixN]⟩) line ?_
  obtain ⟨v, r, e1, e2⟩ := h.room
  obtain ⟨v', r', ns, e3, e4, e5⟩ := h.ended
  have i1 : atI (l.map fun v => PyData.str v.1) 0 = some (.str "room") := by
    rw [e1]
    simp [atI, ixN, e2]
  have i2 : atI (l.map fun v => PyData.str v.1) (-1) = some (.str "ended") := by
    rw [e3, List.map_append]
    show atI (_ ++ [_]) (-1) = _
    rw [atI_end]
    show some (PyData.str v'.1) = _
    rw [e4]
  have i3 : atI (l.map varD) (-1) = some (varD v') := by
    rw [e3, List.map_append]
    exact atI_end
  have fs := once_of h.nd
  simp [dSs, dS, dE, dEs, dAnd, dOr, dT, Ev.tAnd, Ev.tOr, dU, dN, dB2, dIf, dVar, dCst, dO, dC, dI, dCall, dKall, pick, entry, isiV, isiV2, isTys, isTy, tobV, truO, truV, okIf, datOf, seqOf, lstOf, datas, lstV, tupV, elsOf, Out.bind_ok, fs, i1, i2, i3]
  refine ⟨fun _ => ?_, by omega⟩
  simp [dSs, dS, dE, dEs, dAnd, dOr, dT, Ev.tAnd, Ev.tOr, dU, dN, dB2, dIf, dVar, dCst, dO, dC, dI, dCall, dKall, pick, entry, isiV, isiV2, isTys, isTy, tobV, truO, truV, okIf, datOf, seqOf, lstOf, datas, lstV, tupV, elsOf, Out.bind_ok, atI, ixN, e5]
abbrev szs (l : List Va) : List Int := l.map fun v => (v.2.length : Int)
theorem r_are_values_of {n : Nat} (hn : 2 < n) {l : List Va} (h : VasOk l) {vs : List Int} (hr : InR (szs l) vs) (S : Store) : sem G T n 10 [.d (varsD l), .d (Ints vs)] S = .ok (.d (.bool true)) S := by
  obtain ⟨m, rfl⟩ : ∃ m, n = m + 1 := ⟨n - 1, by omega⟩
  refine ok_of (gets_sem t_are_values_of rfl ?_)
  have hl : vs.length = l.length := by simpa using hr.len
  have h2 := h.few
  simp [dSs, dS, dE, dEs, dAnd, dOr, dT, Ev.tAnd, Ev.tOr, dU, dN, dB2, dIf, dVar, dCst, dO, dC, dI, dCall, dKall, pick, entry, isiV, isiV2, isTys, isTy, tobV, truO, truV, okIf, datOf, seqOf, lstOf, datas, lstV, tupV, elsOf, Out.bind_ok, f_are_values_of, r_is_tuple (n := m) (by omega), tupN, hl]
  refine gets_each (fun p : Int × Va => Val.d (.tuple [.int p.1, varD p.2])) (fun _ => .bool true) (vs.zip l) (n := none) (S := S) (by simp [dSs, dS, dE, dEs, dAnd, dOr, dT, Ev.tAnd, Ev.tOr, dU, dN, dB2, dIf, dVar, dCst, dO, dC, dI, dCall, dKall, pick, entry, isiV, isiV2, isTys, isTy, tobV, truO, truV, okIf, datOf, seqOf, lstOf, datas, lstV, tupV, elsOf, Out.bind_ok, List.zip_map]) (by simp) (fun p hp => ⟨_, rfl, ?_⟩) (by simp [hl]; exact line_of (by omega)) ?_
  · have hq : (p.1, (p.2.2.length : Int)) ∈ vs.zip (szs l) := by
      rw [List.zip_map_right]
      exact List.mem_map.mpr ⟨p, hp, rfl⟩
    have := hr.zip _ hq
    dsimp only at this
    simp [dSs, dS, dE, dEs, dAnd, dOr, dT, Ev.tAnd, Ev.tOr, dU, dN, dB2, dIf, dVar, dCst, dO, dC, dI, dCall, dKall, pick, entry, isiV, isiV2, isTys, isTy, tobV, truO, truV, okIf, datOf, seqOf, lstOf, datas, lstV, tupV, elsOf, Out.bind_ok, wipeD, setAll, atI, ixN, r_is_within (n := m) (by omega), within]
    omega
  · simp
theorem var_at {l : List Va} {v : Nat} {z : Int} (h : (szs l)[v]? = some z) : ∃ w, l[v]? = some w ∧ (w.2.length : Int) = z := by
  rw [List.getElem?_map] at h
  cases e : l[v]? with
  | none => rw [e] at h; cases h
  | some w => rw [e] at h; cases h; exact ⟨w, rfl, rfl⟩
theorem r_is_place_in {n : Nat} (hn : 2 < n) {l : List Va} {v : Nat} (h : v < l.length) (S : Store) : sem G T n 11 [.d (varsD l), .d (.int (v : Int))] S = .ok (.d (.bool true)) S := by
  obtain ⟨m, rfl⟩ : ∃ m, n = m + 1 := ⟨n - 1, by omega⟩
  refine ok_of (gets_sem t_is_place_in rfl ?_)
  simp [dSs, dS, dE, dEs, dAnd, dOr, dT, Ev.tAnd, Ev.tOr, dU, dN, dB2, dIf, dVar, dCst, dO, dC, dI, dCall, dKall, pick, entry, isiV, isiV2, isTys, isTy, tobV, truO, truV, okIf, datOf, seqOf, lstOf, datas, lstV, tupV, elsOf, Out.bind_ok, f_is_place_in, r_is_within (n := m) (by omega), within]
  omega
theorem r_is_value_in {n : Nat} (hn : 3 < n) {l : List Va} {v : Nat} {x z : Int} (h : (szs l)[v]? = some z) (h0 : 0 ≤ x) (h1 : x < z) (S : Store) : sem G T n 12 [.d (varsD l), .d (.int (v : Int)), .d (.int x)] S = .ok (.d (.bool true)) S := by
  obtain ⟨m, rfl⟩ : ∃ m, n = m + 1 := ⟨n - 1, by omega⟩
  refine ok_of (gets_sem t_is_value_in rfl ?_)
  obtain ⟨w, hw, hz⟩ := var_at h
  have hl : v < l.length := (List.getElem?_eq_some_iff.mp hw).1
  have e1 : atI (l.map varD) (v : Int) = some (varD w) := atI_nat (by rw [List.getElem?_map, hw]; rfl)
  simp [dSs, dS, dE, dEs, dAnd, dOr, dT, Ev.tAnd, Ev.tOr, dU, dN, dB2, dIf, dVar, dCst, dO, dC, dI, dCall, dKall, pick, entry, isiV, isiV2, isTys, isTy, tobV, truO, truV, okIf, datOf, seqOf, lstOf, datas, lstV, tupV, elsOf, Out.bind_ok, f_is_value_in, r_is_place_in (n := m) (by omega) hl, r_is_within (n := m) (by omega), within, e1]
  try simp [dSs, dS, dE, dEs, dAnd, dOr, dT, Ev.tAnd, Ev.tOr, dU, dN, dB2, dIf, dVar, dCst, dO, dC, dI, dCall, dKall, pick, entry, isiV, isiV2, isTys, isTy, tobV, truO, truV, okIf, datOf, seqOf, lstOf, datas, lstV, tupV, elsOf, Out.bind_ok, atI, ixN, r_is_within (n := m) (by omega), within]
  omega
end HT
end

section
set_option Elab.async false
set_option linter.all false
set_option maxRecDepth 100000
set_option maxHeartbeats 4000000
/-! MW: words told apart -/
namespace HT
open PySem PySem.Spec L2 Ev
/-! ### words -/
@[simp] theorem s_ok_is : PyData.strOk ("is" : Str) = true := by decide +kernel
@[simp] theorem s_ok_same : PyData.strOk ("same" : Str) = true := by decide +kernel
@[simp] theorem s_ok_not : PyData.strOk ("not" : Str) = true := by decide +kernel
@[simp] theorem s_ok_all : PyData.strOk ("all" : Str) = true := by decide +kernel
@[simp] theorem s_ok_any : PyData.strOk ("any" : Str) = true := by decide +kernel
@[simp] theorem s_ok_set : PyData.strOk ("set" : Str) = true := by decide +kernel
@[simp] theorem s_ok_copy : PyData.strOk ("copy" : Str) = true := by decide +kernel
@[simp] theorem s_ok_words : PyData.strOk ("words" : Str) = true := by decide +kernel
@[simp] theorem s_ok_look : PyData.strOk ("look" : Str) = true := by decide +kernel
@[simp] theorem s_ok_held : PyData.strOk ("held" : Str) = true := by decide +kernel
@[simp] theorem s_ok_thing : PyData.strOk ("thing" : Str) = true := by decide +kernel
@[simp] theorem s_ok_fixed : PyData.strOk ("fixed" : Str) = true := by decide +kernel
@[simp] theorem s_ok_box : PyData.strOk ("box" : Str) = true := by decide +kernel
@[simp] theorem s_ok_folk : PyData.strOk ("folk" : Str) = true := by decide +kernel
@[simp] theorem w_is_same : (("is" : Str) == ("same" : Str)) = false := by decide +kernel
@[simp] theorem v_is_same : (("is" : Str) = ("same" : Str)) = False := by have h := w_is_same; simp only [beq_eq_false_iff_ne, ne_eq] at h; exact eq_false h
@[simp] theorem w_is_not : (("is" : Str) == ("not" : Str)) = false := by decide +kernel
@[simp] theorem v_is_not : (("is" : Str) = ("not" : Str)) = False := by have h := w_is_not; simp only [beq_eq_false_iff_ne, ne_eq] at h; exact eq_false h
@[simp] theorem w_is_all : (("is" : Str) == ("all" : Str)) = false := by decide +kernel
@[simp] theorem v_is_all : (("is" : Str) = ("all" : Str)) = False := by have h := w_is_all; simp only [beq_eq_false_iff_ne, ne_eq] at h; exact eq_false h
@[simp] theorem w_is_any : (("is" : Str) == ("any" : Str)) = false := by decide +kernel
@[simp] theorem v_is_any : (("is" : Str) = ("any" : Str)) = False := by have h := w_is_any; simp only [beq_eq_false_iff_ne, ne_eq] at h; exact eq_false h
@[simp] theorem w_is_set : (("is" : Str) == ("set" : Str)) = false := by decide +kernel
@[simp] theorem v_is_set : (("is" : Str) = ("set" : Str)) = False := by have h := w_is_set; simp only [beq_eq_false_iff_ne, ne_eq] at h; exact eq_false h
@[simp] theorem w_is_copy : (("is" : Str) == ("copy" : Str)) = false := by decide +kernel
@[simp] theorem v_is_copy : (("is" : Str) = ("copy" : Str)) = False := by have h := w_is_copy; simp only [beq_eq_false_iff_ne, ne_eq] at h; exact eq_false h
@[simp] theorem w_is_words : (("is" : Str) == ("words" : Str)) = false := by decide +kernel
@[simp] theorem v_is_words : (("is" : Str) = ("words" : Str)) = False := by have h := w_is_words; simp only [beq_eq_false_iff_ne, ne_eq] at h; exact eq_false h
@[simp] theorem w_is_look : (("is" : Str) == ("look" : Str)) = false := by decide +kernel
@[simp] theorem v_is_look : (("is" : Str) = ("look" : Str)) = False := by have h := w_is_look; simp only [beq_eq_false_iff_ne, ne_eq] at h; exact eq_false h
@[simp] theorem w_is_held : (("is" : Str) == ("held" : Str)) = false := by decide +kernel
@[simp] theorem v_is_held : (("is" : Str) = ("held" : Str)) = False := by have h := w_is_held; simp only [beq_eq_false_iff_ne, ne_eq] at h; exact eq_false h
@[simp] theorem w_is_thing : (("is" : Str) == ("thing" : Str)) = false := by decide +kernel
@[simp] theorem v_is_thing : (("is" : Str) = ("thing" : Str)) = False := by have h := w_is_thing; simp only [beq_eq_false_iff_ne, ne_eq] at h; exact eq_false h
@[simp] theorem w_is_fixed : (("is" : Str) == ("fixed" : Str)) = false := by decide +kernel
@[simp] theorem v_is_fixed : (("is" : Str) = ("fixed" : Str)) = False := by have h := w_is_fixed; simp only [beq_eq_false_iff_ne, ne_eq] at h; exact eq_false h
@[simp] theorem w_is_box : (("is" : Str) == ("box" : Str)) = false := by decide +kernel
@[simp] theorem v_is_box : (("is" : Str) = ("box" : Str)) = False := by have h := w_is_box; simp only [beq_eq_false_iff_ne, ne_eq] at h; exact eq_false h
@[simp] theorem w_is_folk : (("is" : Str) == ("folk" : Str)) = false := by decide +kernel
@[simp] theorem v_is_folk : (("is" : Str) = ("folk" : Str)) = False := by have h := w_is_folk; simp only [beq_eq_false_iff_ne, ne_eq] at h; exact eq_false h
@[simp] theorem w_same_is : (("same" : Str) == ("is" : Str)) = false := by decide +kernel
@[simp] theorem v_same_is : (("same" : Str) = ("is" : Str)) = False := by have h := w_same_is; simp only [beq_eq_false_iff_ne, ne_eq] at h; exact eq_false h
@[simp] theorem w_same_not : (("same" : Str) == ("not" : Str)) = false := by decide +kernel
@[simp] theorem v_same_not : (("same" : Str) = ("not" : Str)) = False := by have h := w_same_not; simp only [beq_eq_false_iff_ne, ne_eq] at h; exact eq_false h
@[simp] theorem w_same_all : (("same" : Str) == ("all" : Str)) = false := by decide +kernel
@[simp] theorem v_same_all : (("same" : Str) = ("all" : Str)) = False := by have h := w_same_all; simp only [beq_eq_false_iff_ne, ne_eq] at h; exact eq_false h
@[simp] theorem w_same_any : (("same" : Str) == ("any" : Str)) = false := by decide +kernel
@[simp] theorem v_same_any : (("same" : Str) = ("any" : Str)) = False := by have h := w_same_any; simp only [beq_eq_false_iff_ne, ne_eq] at h; exact eq_false h
@[simp] theorem w_same_set : (("same" : Str) == ("set" : Str)) = false := by decide +kernel
@[simp] theorem v_same_set : (("same" : Str) = ("set" : Str)) = False := by have h := w_same_set; simp only [beq_eq_false_iff_ne, ne_eq] at h; exact eq_false h
@[simp] theorem w_same_copy : (("same" : Str) == ("copy" : Str)) = false := by decide +kernel
@[simp] theorem v_same_copy : (("same" : Str) = ("copy" : Str)) = False := by have h := w_same_copy; simp only [beq_eq_false_iff_ne, ne_eq] at h; exact eq_false h
@[simp] theorem w_same_words : (("same" : Str) == ("words" : Str)) = false := by decide +kernel
@[simp] theorem v_same_words : (("same" : Str) = ("words" : Str)) = False := by have h := w_same_words; simp only [beq_eq_false_iff_ne, ne_eq] at h; exact eq_false h
@[simp] theorem w_same_look : (("same" : Str) == ("look" : Str)) = false := by decide +kernel
@[simp] theorem v_same_look : (("same" : Str) = ("look" : Str)) = False := by have h := w_same_look; simp only [beq_eq_false_iff_ne, ne_eq] at h; exact eq_false h
@[simp] theorem w_same_held : (("same" : Str) == ("held" : Str)) = false := by decide +kernel
@[simp] theorem v_same_held : (("same" : Str) = ("held" : Str)) = False := by have h := w_same_held; simp only [beq_eq_false_iff_ne, ne_eq] at h; exact eq_false h
@[simp] theorem w_same_thing : (("same" : Str) == ("thing" : Str)) = false := by decide +kernel
@[simp] theorem v_same_thing : (("same" : Str) = ("thing" : Str)) = False := by have h := w_same_thing; simp only [beq_eq_false_iff_ne, ne_eq] at h; exact eq_false h
@[simp] theorem w_same_fixed : (("same" : Str) == ("fixed" : Str)) = false := by decide +kernel
@[simp] theorem v_same_fixed : (("same" : Str) = ("fixed" : Str)) = False := by have h := w_same_fixed; simp only [beq_eq_false_iff_ne, ne_eq] at h; exact eq_false h
@[simp] theorem w_same_box : (("same" : Str) == ("box" : Str)) = false := by decide +kernel
@[simp] theorem v_same_box : (("same" : Str) = ("box" : Str)) = False := by have h := w_same_box; simp only [beq_eq_false_iff_ne, ne_eq] at h; exact eq_false h
@[simp] theorem w_same_folk : (("same" : Str) == ("folk" : Str)) = false := by decide +kernel
@[simp] theorem v_same_folk : (("same" : Str) = ("folk" : Str)) = False := by have h := w_same_folk; simp only [beq_eq_false_iff_ne, ne_eq] at h; exact eq_false h
@[simp] theorem w_not_is : (("not" : Str) == ("is" : Str)) = false := by decide +kernel
@[simp] theorem v_not_is : (("not" : Str) = ("is" : Str)) = False := by have h := w_not_is; simp only [beq_eq_false_iff_ne, ne_eq] at h; exact eq_false h
@[simp] theorem w_not_same : (("not" : Str) == ("same" : Str)) = false := by decide +kernel
@[simp] theorem v_not_same : (("not" : Str) = ("same" : Str)) = False := by have h := w_not_same; simp only [beq_eq_false_iff_ne, ne_eq] at h; exact eq_false h
@[simp] theorem w_not_all : (("not" : Str) == ("all" : Str)) = false := by decide +kernel
@[simp] theorem v_not_all : (("not" : Str) = ("all" : Str)) = False := by have h := w_not_all; simp only [beq_eq_false_iff_ne, ne_eq] at h; exact eq_false h
@[simp] theorem w_not_any : (("not" : Str) == ("any" : Str)) = false := by decide +kernel
@[simp] theorem v_not_any : (("not" : Str) = ("any" : Str)) = False := by have h := w_not_any; simp only [beq_eq_false_iff_ne, ne_eq] at h; exact eq_false h
@[simp] theorem w_not_set : (("not" : Str) == ("set" : Str)) = false := by decide +kernel
@[simp] theorem v_not_set : (("not" : Str) = ("set" : Str)) = False := by have h := w_not_set; simp only [beq_eq_false_iff_ne, ne_eq] at h; exact eq_false h
@[simp] theorem w_not_copy : (("not" : Str) == ("copy" : Str)) = false := by decide +kernel
@[simp] theorem v_not_copy : (("not" : Str) = ("copy" : Str)) = False := by have h := w_not_copy; simp only [beq_eq_false_iff_ne, ne_eq] at h; exact eq_false h
@[simp] theorem w_not_words : (("not" : Str) == ("words" : Str)) = false := by decide +kernel
@[simp] theorem v_not_words : (("not" : Str) = ("words" : Str)) = False := by have h := w_not_words; simp only [beq_eq_false_iff_ne, ne_eq] at h; exact eq_false h
@[simp] theorem w_not_look : (("not" : Str) == ("look" : Str)) = false := by decide +kernel
@[simp] theorem v_not_look : (("not" : Str) = ("look" : Str)) = False := by have h := w_not_look; simp only [beq_eq_false_iff_ne, ne_eq] at h; exact eq_false h
@[simp] theorem w_not_held : (("not" : Str) == ("held" : Str)) = false := by decide +kernel
@[simp] theorem v_not_held : (("not" : Str) = ("held" : Str)) = False := by have h := w_not_held; simp only [beq_eq_false_iff_ne, ne_eq] at h; exact eq_false h
@[simp] theorem w_not_thing : (("not" : Str) == ("thing" : Str)) = false := by decide +kernel
@[simp] theorem v_not_thing : (("not" : Str) = ("thing" : Str)) = False := by have h := w_not_thing; simp only [beq_eq_false_iff_ne, ne_eq] at h; exact eq_false h
@[simp] theorem w_not_fixed : (("not" : Str) == ("fixed" : Str)) = false := by decide +kernel
@[simp] theorem v_not_fixed : (("not" : Str) = ("fixed" : Str)) = False := by have h := w_not_fixed; simp only [beq_eq_false_iff_ne, ne_eq] at h; exact eq_false h
@[simp] theorem w_not_box : (("not" : Str) == ("box" : Str)) = false := by decide +kernel
@[simp] theorem v_not_box : (("not" : Str) = ("box" : Str)) = False := by have h := w_not_box; simp only [beq_eq_false_iff_ne, ne_eq] at h; exact eq_false h
@[simp] theorem w_not_folk : (("not" : Str) == ("folk" : Str)) = false := by decide +kernel
@[simp] theorem v_not_folk : (("not" : Str) = ("folk" : Str)) = False := by have h := w_not_folk; simp only [beq_eq_false_iff_ne, ne_eq] at h; exact eq_false h
@[simp] theorem w_all_is : (("all" : Str) == ("is" : Str)) = false := by decide +kernel
@[simp] theorem v_all_is : (("all" : Str) = ("is" : Str)) = False := by have h := w_all_is; simp only [beq_eq_false_iff_ne, ne_eq] at h; exact eq_false h
@[simp] theorem w_all_same : (("all" : Str) == ("same" : Str)) = false := by decide +kernel
@[simp] theorem v_all_same : (("all" : Str) = ("same" : Str)) = False := by have h := w_all_same; simp only [beq_eq_false_iff_ne, ne_eq] at h; exact eq_false h
@[simp] theorem w_all_not : (("all" : Str) == ("not" : Str)) = false := by decide +kernel
@[simp] theorem v_all_not : (("all" : Str) = ("not" : Str)) = False := by have h := w_all_not; simp only [beq_eq_false_iff_ne, ne_eq] at h; exact eq_false h
@[simp] theorem w_all_any : (("all" : Str) == ("any" : Str)) = false := by decide +kernel
@[simp] theorem v_all_any : (("all" : Str) = ("any" : Str)) = False := by have h := w_all_any; simp only [beq_eq_false_iff_ne, ne_eq] at h; exact eq_false h
@[simp] theorem w_all_set : (("all" : Str) == ("set" : Str)) = false := by decide +kernel
@[simp] theorem v_all_set : (("all" : Str) = ("set" : Str)) = False := by have h := w_all_set; simp only [beq_eq_false_iff_ne, ne_eq] at h; exact eq_false h
@[simp] theorem w_all_copy : (("all" : Str) == ("copy" : Str)) = false := by decide +kernel
@[simp] theorem v_all_copy : (("all" : Str) = ("copy" : Str)) = False := by have h := w_all_copy; simp only [beq_eq_false_iff_ne, ne_eq] at h; exact eq_false h
@[simp] theorem w_all_words : (("all" : Str) == ("words" : Str)) = false := by decide +kernel
@[simp] theorem v_all_words : (("all" : Str) = ("words" : Str)) = False := by have h := w_all_words; simp only [beq_eq_false_iff_ne, ne_eq] at h; exact eq_false h
@[simp] theorem w_all_look : (("all" : Str) == ("look" : Str)) = false := by decide +kernel
@[simp] theorem v_all_look : (("all" : Str) = ("look" : Str)) = False := by have h := w_all_look; simp only [beq_eq_false_iff_ne, ne_eq] at h; exact eq_false h
@[simp] theorem w_all_held : (("all" : Str) == ("held" : Str)) = false := by decide +kernel
@[simp] theorem v_all_held : (("all" : Str) = ("held" : Str)) = False := by have h := w_all_held; simp only [beq_eq_false_iff_ne, ne_eq] at h; exact eq_false h
@[simp] theorem w_all_thing : (("all" : Str) == ("thing" : Str)) = false := by decide +kernel
@[simp] theorem v_all_thing : (("all" : Str) = ("thing" : Str)) = False := by have h := w_all_thing; simp only [beq_eq_false_iff_ne, ne_eq] at h; exact eq_false h
@[simp] theorem w_all_fixed : (("all" : Str) == ("fixed" : Str)) = false := by decide +kernel
@[simp] theorem v_all_fixed : (("all" : Str) = ("fixed" : Str)) = False := by have h := w_all_fixed; simp only [beq_eq_false_iff_ne, ne_eq] at h; exact eq_false h
@[simp] theorem w_all_box : (("all" : Str) == ("box" : Str)) = false := by decide +kernel
@[simp] theorem v_all_box : (("all" : Str) = ("box" : Str)) = False := by have h := w_all_box; simp only [beq_eq_false_iff_ne, ne_eq] at h; exact eq_false h
@[simp] theorem w_all_folk : (("all" : Str) == ("folk" : Str)) = false := by decide +kernel
@[simp] theorem v_all_folk : (("all" : Str) = ("folk" : Str)) = False := by have h := w_all_folk; simp only [beq_eq_false_iff_ne, ne_eq] at h; exact eq_false h
@[simp] theorem w_any_is : (("any" : Str) == ("is" : Str)) = false := by decide +kernel
@[simp] theorem v_any_is : (("any" : Str) = ("is" : Str)) = False := by have h := w_any_is; simp only [beq_eq_false_iff_ne, ne_eq] at h; exact eq_false h
@[simp] theorem w_any_same : (("any" : Str) == ("same" : Str)) = false := by decide +kernel
@[simp] theorem v_any_same : (("any" : Str) = ("same" : Str)) = False := by have h := w_any_same; simp only [beq_eq_false_iff_ne, ne_eq] at h; exact eq_false h
@[simp] theorem w_any_not : (("any" : Str) == ("not" : Str)) = false := by decide +kernel
@[simp] theorem v_any_not : (("any" : Str) = ("not" : Str)) = False := by have h := w_any_not; simp only [beq_eq_false_iff_ne, ne_eq] at h; exact eq_false h
@[simp] theorem w_any_all : (("any" : Str) == ("all" : Str)) = false := by decide +kernel
@[simp] theorem v_any_all : (("any" : Str) = ("all" : Str)) = False := by have h := w_any_all; simp only [beq_eq_false_iff_ne, ne_eq] at h; exact eq_false h
@[simp] theorem w_any_set : (("any" : Str) == ("set" : Str)) = false := by decide +kernel
@[simp] theorem v_any_set : (("any" : Str) = ("set" : Str)) = False := by have h := w_any_set; simp only [beq_eq_false_iff_ne, ne_eq] at h; exact eq_false h
@[simp] theorem w_any_copy : (("any" : Str) == ("copy" : Str)) = false := by decide +kernel
@[simp] theorem v_any_copy : (("any" : Str) = ("copy" : Str)) = False := by have h := w_any_copy; simp only [beq_eq_false_iff_ne, ne_eq] at h; exact eq_false h
@[simp] theorem w_any_words : (("any" : Str) == ("words" : Str)) = false := by decide +kernel
@[simp] theorem v_any_words : (("any" : Str) = ("words" : Str)) = False := by have h := w_any_words; simp only [beq_eq_false_iff_ne, ne_eq] at h; exact eq_false h
@[simp] theorem w_any_look : (("any" : Str) == ("look" : Str)) = false := by decide +kernel
@[simp] theorem v_any_look : (("any" : Str) = ("look" : Str)) = False := by have h := w_any_look; simp only [beq_eq_false_iff_ne, ne_eq] at h; exact eq_false h
@[simp] theorem w_any_held : (("any" : Str) == ("held" : Str)) = false := by decide +kernel
@[simp] theorem v_any_held : (("any" : Str) = ("held" : Str)) = False := by have h := w_any_held; simp only [beq_eq_false_iff_ne, ne_eq] at h; exact eq_false h
@[simp] theorem w_any_thing : (("any" : Str) == ("thing" : Str)) = false := by decide +kernel
@[simp] theorem v_any_thing : (("any" : Str) = ("thing" : Str)) = False := by have h := w_any_thing; simp only [beq_eq_false_iff_ne, ne_eq] at h; exact eq_false h
@[simp] theorem w_any_fixed : (("any" : Str) == ("fixed" : Str)) = false := by decide +kernel
@[simp] theorem v_any_fixed : (("any" : Str) = ("fixed" : Str)) = False := by have h := w_any_fixed; simp only [beq_eq_false_iff_ne, ne_eq] at h; exact eq_false h
@[simp] theorem w_any_box : (("any" : Str) == ("box" : Str)) = false := by decide +kernel
@[simp] theorem v_any_box : (("any" : Str) = ("box" : Str)) = False := by have h := w_any_box; simp only [beq_eq_false_iff_ne, ne_eq] at h; exact eq_false h
@[simp] theorem w_any_folk : (("any" : Str) == ("folk" : Str)) = false := by decide +kernel
@[simp] theorem v_any_folk : (("any" : Str) = ("folk" : Str)) = False := by have h := w_any_folk; simp only [beq_eq_false_iff_ne, ne_eq] at h; exact eq_false h
@[simp] theorem w_set_is : (("set" : Str) == ("is" : Str)) = false := by decide +kernel
@[simp] theorem v_set_is : (("set" : Str) = ("is" : Str)) = False := by have h := w_set_is; simp only [beq_eq_false_iff_ne, ne_eq] at h; exact eq_false h
@[simp] theorem w_set_same : (("set" : Str) == ("same" : Str)) = false := by decide +kernel
@[simp] theorem v_set_same : (("set" : Str) = ("same" : Str)) = False := by have h := w_set_same; simp only [beq_eq_false_iff_ne, ne_eq] at h; exact eq_false h
@[simp] theorem w_set_not : (("set" : Str) == ("not" : Str)) = false := by decide +kernel
@[simp] theorem v_set_not : (("set" : Str) = ("not" : Str)) = False := by have h := w_set_not; simp only [beq_eq_false_iff_ne, ne_eq] at h; exact eq_false h
@[simp] theorem w_set_all : (("set" : Str) == ("all" : Str)) = false := by decide +kernel
@[simp] theorem v_set_all : (("set" : Str) = ("all" : Str)) = False := by have h := w_set_all; simp only [beq_eq_false_iff_ne, ne_eq] at h; exact eq_false h
@[simp] theorem w_set_any : (("set" : Str) == ("any" : Str)) = false := by decide +kernel
@[simp] theorem v_set_any : (("set" : Str) = ("any" : Str)) = False := by have h := w_set_any; simp only [beq_eq_false_iff_ne, ne_eq] at h; exact eq_false h
@[simp] theorem w_set_copy : (("set" : Str) == ("copy" : Str)) = false := by decide +kernel
@[simp] theorem v_set_copy : (("set" : Str) = ("copy" : Str)) = False := by have h := w_set_copy; simp only [beq_eq_false_iff_ne, ne_eq] at h; exact eq_false h
@[simp] theorem w_set_words : (("set" : Str) == ("words" : Str)) = false := by decide +kernel
@[simp] theorem v_set_words : (("set" : Str) = ("words" : Str)) = False := by have h := w_set_words; simp only [beq_eq_false_iff_ne, ne_eq] at h; exact eq_false h
@[simp] theorem w_set_look : (("set" : Str) == ("look" : Str)) = false := by decide +kernel
@[simp] theorem v_set_look : (("set" : Str) = ("look" : Str)) = False := by have h := w_set_look; simp only [beq_eq_false_iff_ne, ne_eq] at h; exact eq_false h
@[simp] theorem w_set_held : (("set" : Str) == ("held" : Str)) = false := by decide +kernel
@[simp] theorem v_set_held : (("set" : Str) = ("held" : Str)) = False := by have h := w_set_held; simp only [beq_eq_false_iff_ne, ne_eq] at h; exact eq_false h
@[simp] theorem w_set_thing : (("set" : Str) == ("thing" : Str)) = false := by decide +kernel
@[simp] theorem v_set_thing : (("set" : Str) = ("thing" : Str)) = False := by have h := w_set_thing; simp only [beq_eq_false_iff_ne, ne_eq] at h; exact eq_false h
@[simp] theorem w_set_fixed : (("set" : Str) == ("fixed" : Str)) = false := by decide +kernel
@[simp] theorem v_set_fixed : (("set" : Str) = ("fixed" : Str)) = False := by have h := w_set_fixed; simp only [beq_eq_false_iff_ne, ne_eq] at h; exact eq_false h
@[simp] theorem w_set_box : (("set" : Str) == ("box" : Str)) = false := by decide +kernel
@[simp] theorem v_set_box : (("set" : Str) = ("box" : Str)) = False := by have h := w_set_box; simp only [beq_eq_false_iff_ne, ne_eq] at h; exact eq_false h
@[simp] theorem w_set_folk : (("set" : Str) == ("folk" : Str)) = false := by decide +kernel
@[simp] theorem v_set_folk : (("set" : Str) = ("folk" : Str)) = False := by have h := w_set_folk; simp only [beq_eq_false_iff_ne, ne_eq] at h; exact eq_false h
@[simp] theorem w_copy_is : (("copy" : Str) == ("is" : Str)) = false := by decide +kernel
@[simp] theorem v_copy_is : (("copy" : Str) = ("is" : Str)) = False := by have h := w_copy_is; simp only [beq_eq_false_iff_ne, ne_eq] at h; exact eq_false h
@[simp] theorem w_copy_same : (("copy" : Str) == ("same" : Str)) = false := by decide +kernel
@[simp] theorem v_copy_same : (("copy" : Str) = ("same" : Str)) = False := by have h := w_copy_same; simp only [beq_eq_false_iff_ne, ne_eq] at h; exact eq_false h
@[simp] theorem w_copy_not : (("copy" : Str) == ("not" : Str)) = false := by decide +kernel
@[simp] theorem v_copy_not : (("copy" : Str) = ("not" : Str)) = False := by have h := w_copy_not; simp only [beq_eq_false_iff_ne, ne_eq] at h; exact eq_false h
@[simp] theorem w_copy_all : (("copy" : Str) == ("all" : Str)) = false := by decide +kernel
@[simp] theorem v_copy_all : (("copy" : Str) = ("all" : Str)) = False := by have h := w_copy_all; simp only [beq_eq_false_iff_ne, ne_eq] at h; exact eq_false h
@[simp] theorem w_copy_any : (("copy" : Str) == ("any" : Str)) = false := by decide +kernel
@[simp] theorem v_copy_any : (("copy" : Str) = ("any" : Str)) = False := by have h := w_copy_any; simp only [beq_eq_false_iff_ne, ne_eq] at h; exact eq_false h
@[simp] theorem w_copy_set : (("copy" : Str) == ("set" : Str)) = false := by decide +kernel
@[simp] theorem v_copy_set : (("copy" : Str) = ("set" : Str)) = False := by have h := w_copy_set; simp only [beq_eq_false_iff_ne, ne_eq] at h; exact eq_false h
@[simp] theorem w_copy_words : (("copy" : Str) == ("words" : Str)) = false := by decide +kernel
@[simp] theorem v_copy_words : (("copy" : Str) = ("words" : Str)) = False := by have h := w_copy_words; simp only [beq_eq_false_iff_ne, ne_eq] at h; exact eq_false h
@[simp] theorem w_copy_look : (("copy" : Str) == ("look" : Str)) = false := by decide +kernel
@[simp] theorem v_copy_look : (("copy" : Str) = ("look" : Str)) = False := by have h := w_copy_look; simp only [beq_eq_false_iff_ne, ne_eq] at h; exact eq_false h
@[simp] theorem w_copy_held : (("copy" : Str) == ("held" : Str)) = false := by decide +kernel
@[simp] theorem v_copy_held : (("copy" : Str) = ("held" : Str)) = False := by have h := w_copy_held; simp only [beq_eq_false_iff_ne, ne_eq] at h; exact eq_false h
@[simp] theorem w_copy_thing : (("copy" : Str) == ("thing" : Str)) = false := by decide +kernel
@[simp] theorem v_copy_thing : (("copy" : Str) = ("thing" : Str)) = False := by have h := w_copy_thing; simp only [beq_eq_false_iff_ne, ne_eq] at h; exact eq_false h
@[simp] theorem w_copy_fixed : (("copy" : Str) == ("fixed" : Str)) = false := by decide +kernel
@[simp] theorem v_copy_fixed : (("copy" : Str) = ("fixed" : Str)) = False := by have h := w_copy_fixed; simp only [beq_eq_false_iff_ne, ne_eq] at h; exact eq_false h
@[simp] theorem w_copy_box : (("copy" : Str) == ("box" : Str)) = false := by decide +kernel
@[simp] theorem v_copy_box : (("copy" : Str) = ("box" : Str)) = False := by have h := w_copy_box; simp only [beq_eq_false_iff_ne, ne_eq] at h; exact eq_false h
@[simp] theorem w_copy_folk : (("copy" : Str) == ("folk" : Str)) = false := by decide +kernel
@[simp] theorem v_copy_folk : (("copy" : Str) = ("folk" : Str)) = False := by have h := w_copy_folk; simp only [beq_eq_false_iff_ne, ne_eq] at h; exact eq_false h
@[simp] theorem w_words_is : (("words" : Str) == ("is" : Str)) = false := by decide +kernel
@[simp] theorem v_words_is : (("words" : Str) = ("is" : Str)) = False := by have h := w_words_is; simp only [beq_eq_false_iff_ne, ne_eq] at h; exact eq_false h
@[simp] theorem w_words_same : (("words" : Str) == ("same" : Str)) = false := by decide +kernel
@[simp] theorem v_words_same : (("words" : Str) = ("same" : Str)) = False := by have h := w_words_same; simp only [beq_eq_false_iff_ne, ne_eq] at h; exact eq_false h
@[simp] theorem w_words_not : (("words" : Str) == ("not" : Str)) = false := by decide +kernel
@[simp] theorem v_words_not : (("words" : Str) = ("not" : Str)) = False := by have h := w_words_not; simp only [beq_eq_false_iff_ne, ne_eq] at h; exact eq_false h
@[simp] theorem w_words_all : (("words" : Str) == ("all" : Str)) = false := by decide +kernel
@[simp] theorem v_words_all : (("words" : Str) = ("all" : Str)) = False := by have h := w_words_all; simp only [beq_eq_false_iff_ne, ne_eq] at h; exact eq_false h
@[simp] theorem w_words_any : (("words" : Str) == ("any" : Str)) = false := by decide +kernel
@[simp] theorem v_words_any : (("words" : Str) = ("any" : Str)) = False := by have h := w_words_any; simp only [beq_eq_false_iff_ne, ne_eq] at h; exact eq_false h
@[simp] theorem w_words_set : (("words" : Str) == ("set" : Str)) = false := by decide +kernel
@[simp] theorem v_words_set : (("words" : Str) = ("set" : Str)) = False := by have h := w_words_set; simp only [beq_eq_false_iff_ne, ne_eq] at h; exact eq_false h
@[simp] theorem w_words_copy : (("words" : Str) == ("copy" : Str)) = false := by decide +kernel
@[simp] theorem v_words_copy : (("words" : Str) = ("copy" : Str)) = False := by have h := w_words_copy; simp only [beq_eq_false_iff_ne, ne_eq] at h; exact eq_false h
@[simp] theorem w_words_look : (("words" : Str) == ("look" : Str)) = false := by decide +kernel
@[simp] theorem v_words_look : (("words" : Str) = ("look" : Str)) = False := by have h := w_words_look; simp only [beq_eq_false_iff_ne, ne_eq] at h; exact eq_false h
@[simp] theorem w_words_held : (("words" : Str) == ("held" : Str)) = false := by decide +kernel
@[simp] theorem v_words_held : (("words" : Str) = ("held" : Str)) = False := by have h := w_words_held; simp only [beq_eq_false_iff_ne, ne_eq] at h; exact eq_false h
@[simp] theorem w_words_thing : (("words" : Str) == ("thing" : Str)) = false := by decide +kernel
@[simp] theorem v_words_thing : (("words" : Str) = ("thing" : Str)) = False := by have h := w_words_thing; simp only [beq_eq_false_iff_ne, ne_eq] at h; exact eq_false h
@[simp] theorem w_words_fixed : (("words" : Str) == ("fixed" : Str)) = false := by decide +kernel
@[simp] theorem v_words_fixed : (("words" : Str) = ("fixed" : Str)) = False := by have h := w_words_fixed; simp only [beq_eq_false_iff_ne, ne_eq] at h; exact eq_false h
@[simp] theorem w_words_box : (("words" : Str) == ("box" : Str)) = false := by decide +kernel
@[simp] theorem v_words_box : (("words" : Str) = ("box" : Str)) = False := by have h := w_words_box; simp only [beq_eq_false_iff_ne, ne_eq] at h; exact eq_false h
@[simp] theorem w_words_folk : (("words" : Str) == ("folk" : Str)) = false := by decide +kernel
@[simp] theorem v_words_folk : (("words" : Str) = ("folk" : Str)) = False := by have h := w_words_folk; simp only [beq_eq_false_iff_ne, ne_eq] at h; exact eq_false h
@[simp] theorem w_look_is : (("look" : Str) == ("is" : Str)) = false := by decide +kernel
@[simp] theorem v_look_is : (("look" : Str) = ("is" : Str)) = False := by have h := w_look_is; simp only [beq_eq_false_iff_ne, ne_eq] at h; exact eq_false h
@[simp] theorem w_look_same : (("look" : Str) == ("same" : Str)) = false := by decide +kernel
@[simp] theorem v_look_same : (("look" : Str) = ("same" : Str)) = False := by have h := w_look_same; simp only [beq_eq_false_iff_ne, ne_eq] at h; exact eq_false h
@[simp] theorem w_look_not : (("look" : Str) == ("not" : Str)) = false := by decide +kernel
@[simp] theorem v_look_not : (("look" : Str) = ("not" : Str)) = False := by have h := w_look_not; simp only [beq_eq_false_iff_ne, ne_eq] at h; exact eq_false h
@[simp] theorem w_look_all : (("look" : Str) == ("all" : Str)) = false := by decide +kernel
@[simp] theorem v_look_all : (("look" : Str) = ("all" : Str)) = False := by have h := w_look_all; simp only [beq_eq_false_iff_ne, ne_eq] at h; exact eq_false h
@[simp] theorem w_look_any : (("look" : Str) == ("any" : Str)) = false := by decide +kernel
@[simp] theorem v_look_any : (("look" : Str) = ("any" : Str)) = False := by have h := w_look_any; simp only [beq_eq_false_iff_ne, ne_eq] at h; exact eq_false h
@[simp] theorem w_look_set : (("look" : Str) == ("set" : Str)) = false := by decide +kernel
@[simp] theorem v_look_set : (("look" : Str) = ("set" : Str)) = False := by have h := w_look_set; simp only [beq_eq_false_iff_ne, ne_eq] at h; exact eq_false h
@[simp] theorem w_look_copy : (("look" : Str) == ("copy" : Str)) = false := by decide +kernel
@[simp] theorem v_look_copy : (("look" : Str) = ("copy" : Str)) = False := by have h := w_look_copy; simp only [beq_eq_false_iff_ne, ne_eq] at h; exact eq_false h
@[simp] theorem w_look_words : (("look" : Str) == ("words" : Str)) = false := by decide +kernel
@[simp] theorem v_look_words : (("look" : Str) = ("words" : Str)) = False := by have h := w_look_words; simp only [beq_eq_false_iff_ne, ne_eq] at h; exact eq_false h
@[simp] theorem w_look_held : (("look" : Str) == ("held" : Str)) = false := by decide +kernel
@[simp] theorem v_look_held : (("look" : Str) = ("held" : Str)) = False := by have h := w_look_held; simp only [beq_eq_false_iff_ne, ne_eq] at h; exact eq_false h
@[simp] theorem w_look_thing : (("look" : Str) == ("thing" : Str)) = false := by decide +kernel
@[simp] theorem v_look_thing : (("look" : Str) = ("thing" : Str)) = False := by have h := w_look_thing; simp only [beq_eq_false_iff_ne, ne_eq] at h; exact eq_false h
@[simp] theorem w_look_fixed : (("look" : Str) == ("fixed" : Str)) = false := by decide +kernel
@[simp] theorem v_look_fixed : (("look" : Str) = ("fixed" : Str)) = False := by have h := w_look_fixed; simp only [beq_eq_false_iff_ne, ne_eq] at h; exact eq_false h
@[simp] theorem w_look_box : (("look" : Str) == ("box" : Str)) = false := by decide +kernel
@[simp] theorem v_look_box : (("look" : Str) = ("box" : Str)) = False := by have h := w_look_box; simp only [beq_eq_false_iff_ne, ne_eq] at h; exact eq_false h
@[simp] theorem w_look_folk : (("look" : Str) == ("folk" : Str)) = false := by decide +kernel
@[simp] theorem v_look_folk : (("look" : Str) = ("folk" : Str)) = False := by have h := w_look_folk; simp only [beq_eq_false_iff_ne, ne_eq] at h; exact eq_false h
@[simp] theorem w_held_is : (("held" : Str) == ("is" : Str)) = false := by decide +kernel
@[simp] theorem v_held_is : (("held" : Str) = ("is" : Str)) = False := by have h := w_held_is; simp only [beq_eq_false_iff_ne, ne_eq] at h; exact eq_false h
@[simp] theorem w_held_same : (("held" : Str) == ("same" : Str)) = false := by decide +kernel
@[simp] theorem v_held_same : (("held" : Str) = ("same" : Str)) = False := by have h := w_held_same; simp only [beq_eq_false_iff_ne, ne_eq] at h; exact eq_false h
@[simp] theorem w_held_not : (("held" : Str) == ("not" : Str)) = false := by decide +kernel
@[simp] theorem v_held_not : (("held" : Str) = ("not" : Str)) = False := by have h := w_held_not; simp only [beq_eq_false_iff_ne, ne_eq] at h; exact eq_false h
@[simp] theorem w_held_all : (("held" : Str) == ("all" : Str)) = false := by decide +kernel
@[simp] theorem v_held_all : (("held" : Str) = ("all" : Str)) = False := by have h := w_held_all; simp only [beq_eq_false_iff_ne, ne_eq] at h; exact eq_false h
@[simp] theorem w_held_any : (("held" : Str) == ("any" : Str)) = false := by decide +kernel
@[simp] theorem v_held_any : (("held" : Str) = ("any" : Str)) = False := by have h := w_held_any; simp only [beq_eq_false_iff_ne, ne_eq] at h; exact eq_false h
@[simp] theorem w_held_set : (("held" : Str) == ("set" : Str)) = false := by decide +kernel
@[simp] theorem v_held_set : (("held" : Str) = ("set" : Str)) = False := by have h := w_held_set; simp only [beq_eq_false_iff_ne, ne_eq] at h; exact eq_false h
@[simp] theorem w_held_copy : (("held" : Str) == ("copy" : Str)) = false := by decide +kernel
@[simp] theorem v_held_copy : (("held" : Str) = ("copy" : Str)) = False := by have h := w_held_copy; simp only [beq_eq_false_iff_ne, ne_eq] at h; exact eq_false h
@[simp] theorem w_held_words : (("held" : Str) == ("words" : Str)) = false := by decide +kernel
@[simp] theorem v_held_words : (("held" : Str) = ("words" : Str)) = False := by have h := w_held_words; simp only [beq_eq_false_iff_ne, ne_eq] at h; exact eq_false h
@[simp] theorem w_held_look : (("held" : Str) == ("look" : Str)) = false := by decide +kernel
@[simp] theorem v_held_look : (("held" : Str) = ("look" : Str)) = False := by have h := w_held_look; simp only [beq_eq_false_iff_ne, ne_eq] at h; exact eq_false h
@[simp] theorem w_held_thing : (("held" : Str) == ("thing" : Str)) = false := by decide +kernel
@[simp] theorem v_held_thing : (("held" : Str) = ("thing" : Str)) = False := by have h := w_held_thing; simp only [beq_eq_false_iff_ne, ne_eq] at h; exact eq_false h
@[simp] theorem w_held_fixed : (("held" : Str) == ("fixed" : Str)) = false := by decide +kernel
@[simp] theorem v_held_fixed : (("held" : Str) = ("fixed" : Str)) = False := by have h := w_held_fixed; simp only [beq_eq_false_iff_ne, ne_eq] at h; exact eq_false h
@[simp] theorem w_held_box : (("held" : Str) == ("box" : Str)) = false := by decide +kernel
@[simp] theorem v_held_box : (("held" : Str) = ("box" : Str)) = False := by have h := w_held_box; simp only [beq_eq_false_iff_ne, ne_eq] at h; exact eq_false h
@[simp] theorem w_held_folk : (("held" : Str) == ("folk" : Str)) = false := by decide +kernel
@[simp] theorem v_held_folk : (("held" : Str) = ("folk" : Str)) = False := by have h := w_held_folk; simp only [beq_eq_false_iff_ne, ne_eq] at h; exact eq_false h
@[simp] theorem w_thing_is : (("thing" : Str) == ("is" : Str)) = false := by decide +kernel
@[simp] theorem v_thing_is : (("thing" : Str) = ("is" : Str)) = False := by have h := w_thing_is; simp only [beq_eq_false_iff_ne, ne_eq] at h; exact eq_false h
@[simp] theorem w_thing_same : (("thing" : Str) == ("same" : Str)) = false := by decide +kernel
@[simp] theorem v_thing_same : (("thing" : Str) = ("same" : Str)) = False := by have h := w_thing_same; simp only [beq_eq_false_iff_ne, ne_eq] at h; exact eq_false h
@[simp] theorem w_thing_not : (("thing" : Str) == ("not" : Str)) = false := by decide +kernel
@[simp] theorem v_thing_not : (("thing" : Str) = ("not" : Str)) = False := by have h := w_thing_not; simp only [beq_eq_false_iff_ne, ne_eq] at h; exact eq_false h
@[simp] theorem w_thing_all : (("thing" : Str) == ("all" : Str)) = false := by decide +kernel
@[simp] theorem v_thing_all : (("thing" : Str) = ("all" : Str)) = False := by have h := w_thing_all; simp only [beq_eq_false_iff_ne, ne_eq] at h; exact eq_false h
@[simp] theorem w_thing_any : (("thing" : Str) == ("any" : Str)) = false := by decide +kernel
@[simp] theorem v_thing_any : (("thing" : Str) = ("any" : Str)) = False := by have h := w_thing_any; simp only [beq_eq_false_iff_ne, ne_eq] at h; exact eq_false h
@[simp] theorem w_thing_set : (("thing" : Str) == ("set" : Str)) = false := by decide +kernel
@[simp] theorem v_thing_set : (("thing" : Str) = ("set" : Str)) = False := by have h := w_thing_set; simp only [beq_eq_false_iff_ne, ne_eq] at h; exact eq_false h
@[simp] theorem w_thing_copy : (("thing" : Str) == ("copy" : Str)) = false := by decide +kernel
@[simp] theorem v_thing_copy : (("thing" : Str) = ("copy" : Str)) = False := by have h := w_thing_copy; simp only [beq_eq_false_iff_ne, ne_eq] at h; exact eq_false h
@[simp] theorem w_thing_words : (("thing" : Str) == ("words" : Str)) = false := by decide +kernel
@[simp] theorem v_thing_words : (("thing" : Str) = ("words" : Str)) = False := by have h := w_thing_words; simp only [beq_eq_false_iff_ne, ne_eq] at h; exact eq_false h
@[simp] theorem w_thing_look : (("thing" : Str) == ("look" : Str)) = false := by decide +kernel
@[simp] theorem v_thing_look : (("thing" : Str) = ("look" : Str)) = False := by have h := w_thing_look; simp only [beq_eq_false_iff_ne, ne_eq] at h; exact eq_false h
@[simp] theorem w_thing_held : (("thing" : Str) == ("held" : Str)) = false := by decide +kernel
@[simp] theorem v_thing_held : (("thing" : Str) = ("held" : Str)) = False := by have h := w_thing_held; simp only [beq_eq_false_iff_ne, ne_eq] at h; exact eq_false h
@[simp] theorem w_thing_fixed : (("thing" : Str) == ("fixed" : Str)) = false := by decide +kernel
@[simp] theorem v_thing_fixed : (("thing" : Str) = ("fixed" : Str)) = False := by have h := w_thing_fixed; simp only [beq_eq_false_iff_ne, ne_eq] at h; exact eq_false h
@[simp] theorem w_thing_box : (("thing" : Str) == ("box" : Str)) = false := by decide +kernel
@[simp] theorem v_thing_box : (("thing" : Str) = ("box" : Str)) = False := by have h := w_thing_box; simp only [beq_eq_false_iff_ne, ne_eq] at h; exact eq_false h
@[simp] theorem w_thing_folk : (("thing" : Str) == ("folk" : Str)) = false := by decide +kernel
@[simp] theorem v_thing_folk : (("thing" : Str) = ("folk" : Str)) = False := by have h := w_thing_folk; simp only [beq_eq_false_iff_ne, ne_eq] at h; exact eq_false h
@[simp] theorem w_fixed_is : (("fixed" : Str) == ("is" : Str)) = false := by decide +kernel
@[simp] theorem v_fixed_is : (("fixed" : Str) = ("is" : Str)) = False := by have h := w_fixed_is; simp only [beq_eq_false_iff_ne, ne_eq] at h; exact eq_false h
@[simp] theorem w_fixed_same : (("fixed" : Str) == ("same" : Str)) = false := by decide +kernel
@[simp] theorem v_fixed_same : (("fixed" : Str) = ("same" : Str)) = False := by have h := w_fixed_same; simp only [beq_eq_false_iff_ne, ne_eq] at h; exact eq_false h
@[simp] theorem w_fixed_not : (("fixed" : Str) == ("not" : Str)) = false := by decide +kernel
@[simp] theorem v_fixed_not : (("fixed" : Str) = ("not" : Str)) = False := by have h := w_fixed_not; simp only [beq_eq_false_iff_ne, ne_eq] at h; exact eq_false h
@[simp] theorem w_fixed_all : (("fixed" : Str) == ("all" : Str)) = false := by decide +kernel
@[simp] theorem v_fixed_all : (("fixed" : Str) = ("all" : Str)) = False := by have h := w_fixed_all; simp only [beq_eq_false_iff_ne, ne_eq] at h; exact eq_false h
@[simp] theorem w_fixed_any : (("fixed" : Str) == ("any" : Str)) = false := by decide +kernel
@[simp] theorem v_fixed_any : (("fixed" : Str) = ("any" : Str)) = False := by have h := w_fixed_any; simp only [beq_eq_false_iff_ne, ne_eq] at h; exact eq_false h
@[simp] theorem w_fixed_set : (("fixed" : Str) == ("set" : Str)) = false := by decide +kernel
@[simp] theorem v_fixed_set : (("fixed" : Str) = ("set" : Str)) = False := by have h := w_fixed_set; simp only [beq_eq_false_iff_ne, ne_eq] at h; exact eq_false h
@[simp] theorem w_fixed_copy : (("fixed" : Str) == ("copy" : Str)) = false := by decide +kernel
@[simp] theorem v_fixed_copy : (("fixed" : Str) = ("copy" : Str)) = False := by have h := w_fixed_copy; simp only [beq_eq_false_iff_ne, ne_eq] at h; exact eq_false h
@[simp] theorem w_fixed_words : (("fixed" : Str) == ("words" : Str)) = false := by decide +kernel
@[simp] theorem v_fixed_words : (("fixed" : Str) = ("words" : Str)) = False := by have h := w_fixed_words; simp only [beq_eq_false_iff_ne, ne_eq] at h; exact eq_false h
@[simp] theorem w_fixed_look : (("fixed" : Str) == ("look" : Str)) = false := by decide +kernel
@[simp] theorem v_fixed_look : (("fixed" : Str) = ("look" : Str)) = False := by have h := w_fixed_look; simp only [beq_eq_false_iff_ne, ne_eq] at h; exact eq_false h
@[simp] theorem w_fixed_held : (("fixed" : Str) == ("held" : Str)) = false := by decide +kernel
@[simp] theorem v_fixed_held : (("fixed" : Str) = ("held" : Str)) = False := by have h := w_fixed_held; simp only [beq_eq_false_iff_ne, ne_eq] at h; exact eq_false h
@[simp] theorem w_fixed_thing : (("fixed" : Str) == ("thing" : Str)) = false := by decide +kernel
@[simp] theorem v_fixed_thing : (("fixed" : Str) = ("thing" : Str)) = False := by have h := w_fixed_thing; simp only [beq_eq_false_iff_ne, ne_eq] at h; exact eq_false h
@[simp] theorem w_fixed_box : (("fixed" : Str) == ("box" : Str)) = false := by decide +kernel
@[simp] theorem v_fixed_box : (("fixed" : Str) = ("box" : Str)) = False := by have h := w_fixed_box; simp only [beq_eq_false_iff_ne, ne_eq] at h; exact eq_false h
@[simp] theorem w_fixed_folk : (("fixed" : Str) == ("folk" : Str)) = false := by decide +kernel
@[simp] theorem v_fixed_folk : (("fixed" : Str) = ("folk" : Str)) = False := by have h := w_fixed_folk; simp only [beq_eq_false_iff_ne, ne_eq] at h; exact eq_false h
@[simp] theorem w_box_is : (("box" : Str) == ("is" : Str)) = false := by decide +kernel
@[simp] theorem v_box_is : (("box" : Str) = ("is" : Str)) = False := by have h := w_box_is; simp only [beq_eq_false_iff_ne, ne_eq] at h; exact eq_false h
@[simp] theorem w_box_same : (("box" : Str) == ("same" : Str)) = false := by decide +kernel
@[simp] theorem v_box_same : (("box" : Str) = ("same" : Str)) = False := by have h := w_box_same; simp only [beq_eq_false_iff_ne, ne_eq] at h; exact eq_false h
@[simp] theorem w_box_not : (("box" : Str) == ("not" : Str)) = false := by decide +kernel
@[simp] theorem v_box_not : (("box" : Str) = ("not" : Str)) = False := by have h := w_box_not; simp only [beq_eq_false_iff_ne, ne_eq] at h; exact eq_false h
@[simp] theorem w_box_all : (("box" : Str) == ("all" : Str)) = false := by decide +kernel
@[simp] theorem v_box_all : (("box" : Str) = ("all" : Str)) = False := by have h := w_box_all; simp only [beq_eq_false_iff_ne, ne_eq] at h; exact eq_false h
@[simp] theorem w_box_any : (("box" : Str) == ("any" : Str)) = false := by decide +kernel
@[simp] theorem v_box_any : (("box" : Str) = ("any" : Str)) = False := by have h := w_box_any; simp only [beq_eq_false_iff_ne, ne_eq] at h; exact eq_false h
@[simp] theorem w_box_set : (("box" : Str) == ("set" : Str)) = false := by decide +kernel
@[simp] theorem v_box_set : (("box" : Str) = ("set" : Str)) = False := by have h := w_box_set; simp only [beq_eq_false_iff_ne, ne_eq] at h; exact eq_false h
@[simp] theorem w_box_copy : (("box" : Str) == ("copy" : Str)) = false := by decide +kernel
@[simp] theorem v_box_copy : (("box" : Str) = ("copy" : Str)) = False := by have h := w_box_copy; simp only [beq_eq_false_iff_ne, ne_eq] at h; exact eq_false h
@[simp] theorem w_box_words : (("box" : Str) == ("words" : Str)) = false := by decide +kernel
@[simp] theorem v_box_words : (("box" : Str) = ("words" : Str)) = False := by have h := w_box_words; simp only [beq_eq_false_iff_ne, ne_eq] at h; exact eq_false h
@[simp] theorem w_box_look : (("box" : Str) == ("look" : Str)) = false := by decide +kernel
@[simp] theorem v_box_look : (("box" : Str) = ("look" : Str)) = False := by have h := w_box_look; simp only [beq_eq_false_iff_ne, ne_eq] at h; exact eq_false h
@[simp] theorem w_box_held : (("box" : Str) == ("held" : Str)) = false := by decide +kernel
@[simp] theorem v_box_held : (("box" : Str) = ("held" : Str)) = False := by have h := w_box_held; simp only [beq_eq_false_iff_ne, ne_eq] at h; exact eq_false h
@[simp] theorem w_box_thing : (("box" : Str) == ("thing" : Str)) = false := by decide +kernel
@[simp] theorem v_box_thing : (("box" : Str) = ("thing" : Str)) = False := by have h := w_box_thing; simp only [beq_eq_false_iff_ne, ne_eq] at h; exact eq_false h
@[simp] theorem w_box_fixed : (("box" : Str) == ("fixed" : Str)) = false := by decide +kernel
@[simp] theorem v_box_fixed : (("box" : Str) = ("fixed" : Str)) = False := by have h := w_box_fixed; simp only [beq_eq_false_iff_ne, ne_eq] at h; exact eq_false h
@[simp] theorem w_box_folk : (("box" : Str) == ("folk" : Str)) = false := by decide +kernel
@[simp] theorem v_box_folk : (("box" : Str) = ("folk" : Str)) = False := by have h := w_box_folk; simp only [beq_eq_false_iff_ne, ne_eq] at h; exact eq_false h
@[simp] theorem w_folk_is : (("folk" : Str) == ("is" : Str)) = false := by decide +kernel
@[simp] theorem v_folk_is : (("folk" : Str) = ("is" : Str)) = False := by have h := w_folk_is; simp only [beq_eq_false_iff_ne, ne_eq] at h; exact eq_false h
@[simp] theorem w_folk_same : (("folk" : Str) == ("same" : Str)) = false := by decide +kernel
@[simp] theorem v_folk_same : (("folk" : Str) = ("same" : Str)) = False := by have h := w_folk_same; simp only [beq_eq_false_iff_ne, ne_eq] at h; exact eq_false h
@[simp] theorem w_folk_not : (("folk" : Str) == ("not" : Str)) = false := by decide +kernel
@[simp] theorem v_folk_not : (("folk" : Str) = ("not" : Str)) = False := by have h := w_folk_not; simp only [beq_eq_false_iff_ne, ne_eq] at h; exact eq_false h
@[simp] theorem w_folk_all : (("folk" : Str) == ("all" : Str)) = false := by decide +kernel
@[simp] theorem v_folk_all : (("folk" : Str) = ("all" : Str)) = False := by have h := w_folk_all; simp only [beq_eq_false_iff_ne, ne_eq] at h; exact eq_false h
@[simp] theorem w_folk_any : (("folk" : Str) == ("any" : Str)) = false := by decide +kernel
@[simp] theorem v_folk_any : (("folk" : Str) = ("any" : Str)) = False := by have h := w_folk_any; simp only [beq_eq_false_iff_ne, ne_eq] at h; exact eq_false h
@[simp] theorem w_folk_set : (("folk" : Str) == ("set" : Str)) = false := by decide +kernel
@[simp] theorem v_folk_set : (("folk" : Str) = ("set" : Str)) = False := by have h := w_folk_set; simp only [beq_eq_false_iff_ne, ne_eq] at h; exact eq_false h
@[simp] theorem w_folk_copy : (("folk" : Str) == ("copy" : Str)) = false := by decide +kernel
@[simp] theorem v_folk_copy : (("folk" : Str) = ("copy" : Str)) = False := by have h := w_folk_copy; simp only [beq_eq_false_iff_ne, ne_eq] at h; exact eq_false h
@[simp] theorem w_folk_words : (("folk" : Str) == ("words" : Str)) = false := by decide +kernel
@[simp] theorem v_folk_words : (("folk" : Str) = ("words" : Str)) = False := by have h := w_folk_words; simp only [beq_eq_false_iff_ne, ne_eq] at h; exact eq_false h
@[simp] theorem w_folk_look : (("folk" : Str) == ("look" : Str)) = false := by decide +kernel
@[simp] theorem v_folk_look : (("folk" : Str) = ("look" : Str)) = False := by have h := w_folk_look; simp only [beq_eq_false_iff_ne, ne_eq] at h; exact eq_false h
@[simp] theorem w_folk_held : (("folk" : Str) == ("held" : Str)) = false := by decide +kernel
@[simp] theorem v_folk_held : (("folk" : Str) = ("held" : Str)) = False := by have h := w_folk_held; simp only [beq_eq_false_iff_ne, ne_eq] at h; exact eq_false h
@[simp] theorem w_folk_thing : (("folk" : Str) == ("thing" : Str)) = false := by decide +kernel
@[simp] theorem v_folk_thing : (("folk" : Str) = ("thing" : Str)) = False := by have h := w_folk_thing; simp only [beq_eq_false_iff_ne, ne_eq] at h; exact eq_false h
@[simp] theorem w_folk_fixed : (("folk" : Str) == ("fixed" : Str)) = false := by decide +kernel
@[simp] theorem v_folk_fixed : (("folk" : Str) = ("fixed" : Str)) = False := by have h := w_folk_fixed; simp only [beq_eq_false_iff_ne, ne_eq] at h; exact eq_false h
@[simp] theorem w_folk_box : (("folk" : Str) == ("box" : Str)) = false := by decide +kernel
@[simp] theorem v_folk_box : (("folk" : Str) = ("box" : Str)) = False := by have h := w_folk_box; simp only [beq_eq_false_iff_ne, ne_eq] at h; exact eq_false h
end HT
end

section
set_option Elab.async false
set_option linter.all false
set_option maxRecDepth 100000
set_option maxHeartbeats 4000000
/-! M2: guards, acts, says, rules, turns -/
namespace HT
open PySem PySem.Spec L2 Ev
/-! ### guards -/
def GOk (zs : List Int) : Nat → PyData → Prop
  | 0, _ => False
  | d + 1, g => (∃ (v : Nat) (x z : Int), g = .tuple [.str "is", .int (v : Int), .int x] ∧ zs[v]? = some z ∧ 0 ≤ x ∧ x < z) ∨
    (∃ a b : Nat, g = .tuple [.str "same", .int (a : Int), .int (b : Int)] ∧ a < zs.length ∧ b < zs.length) ∨
    (∃ h, g = .tuple [.str "not", h] ∧ GOk zs d h) ∨
    (∃ gs, g = .tuple [.str "all", .tuple gs] ∧ gs.length ≤ 1000 ∧ ∀ h ∈ gs, GOk zs d h) ∨
    (∃ gs, g = .tuple [.str "any", .tuple gs] ∧ gs.length ≤ 1000 ∧ ∀ h ∈ gs, GOk zs d h)
theorem GOk.up {zs : List Int} : ∀ {d e : Nat} {g : PyData}, d ≤ e → GOk zs d g → GOk zs e g
  | 0, _, _, _, h => h.elim
  | d + 1, 0, _, h, _ => absurd h (by omega)
  | d + 1, e + 1, g, le, h => by
    rcases h with h | h | ⟨k, h1, h2⟩ | ⟨gs, h1, h2, h3⟩ | ⟨gs, h1, h2, h3⟩
    · exact .inl h
    · exact .inr (.inl h)
    · exact .inr (.inr (.inl ⟨k, h1, GOk.up (by omega) h2⟩))
    · exact .inr (.inr (.inr (.inl ⟨gs, h1, h2, fun k hk => GOk.up (by omega) (h3 k hk)⟩)))
    · exact .inr (.inr (.inr (.inr ⟨gs, h1, h2, fun k hk => GOk.up (by omega) (h3 k hk)⟩)))
def holds (vs : List Int) : Nat → PyData → Bool
  | 0, _ => false
  | d + 1, g => match g with
    | .tuple [.str w, .int a, .int b] => if w = "is" then decide (vs.getD a.toNat 0 = b) else decide (vs.getD a.toNat 0 = vs.getD b.toNat 0)
    | .tuple [.str w, h] => if w = "not" then !holds vs d h else match h with
      | .tuple gs => if w = "all" then gs.all (holds vs d) else gs.any (holds vs d)
      | _ => false
    | _ => false
theorem ints_at {vs : List Int} {i : Nat} {v : Int} (h : vs[i]? = some v) : atI (vs.map PyData.int) (i : Int) = some (.int v) := atI_nat (by rw [List.getElem?_map, h]; rfl)
theorem at_lt {zs vs : List Int} {i : Nat} (h : InR zs vs) (hi : i < zs.length) : ∃ v, vs[i]? = some v := by
  obtain ⟨v, h1, _⟩ := h.get (List.getElem?_eq_getElem hi)
  exact ⟨v, h1⟩
theorem r_is_guard_in {l : List Va} : ∀ (d : Nat) (g : PyData), GOk (szs l) d g → ∀ (n : Nat), d + 4 < n → ∀ (k : Int), (d : Int) ≤ k → ∀ S, sem G T n 13 [.d (varsD l), .d g, .d (.int k)] S = .ok (.d (.bool true)) S
  | 0, _, h, _, _, _, _, _ => h.elim
  | d + 1, g, h, n, hn, k, hk, S => by
    obtain ⟨m, rfl⟩ : ∃ m, n = m + 1 := ⟨n - 1, by omega⟩
    refine ok_of (gets_sem t_is_guard_in rfl ?_)
    have k0 : k ≠ 0 := by omega
    rcases h with ⟨v, x, z, rfl, hz, h0, h1⟩ | ⟨a, b, rfl, ha, hb⟩ | ⟨q, rfl, hq⟩ | ⟨gs, rfl, hl, hq⟩ | ⟨gs, rfl, hl, hq⟩
    · simp [dSs, dS, dE, dEs, dAnd, dOr, dT, Ev.tAnd, Ev.tOr, dU, dN, dB2, dIf, dVar, dCst, dO, dC, dI, dCall, dKall, pick, entry, isiV, isiV2, isTys, isTy, tobV, truO, truV, okIf, datOf, seqOf, lstOf, datas, lstV, tupV, elsOf, Out.bind_ok, f_is_guard_in, tgt, k0, r_is_value_in (n := m) (by omega) hz h0 h1]
    · simp at ha hb
      simp [dSs, dS, dE, dEs, dAnd, dOr, dT, Ev.tAnd, Ev.tOr, dU, dN, dB2, dIf, dVar, dCst, dO, dC, dI, dCall, dKall, pick, entry, isiV, isiV2, isTys, isTy, tobV, truO, truV, okIf, datOf, seqOf, lstOf, datas, lstV, tupV, elsOf, Out.bind_ok, f_is_guard_in, tgt, k0, r_is_place_in (n := m) (by omega) ha, r_is_place_in (n := m) (by omega) hb]
    · have ih := r_is_guard_in d q hq m (by omega) (k - 1) (by omega)
      simp [dSs, dS, dE, dEs, dAnd, dOr, dT, Ev.tAnd, Ev.tOr, dU, dN, dB2, dIf, dVar, dCst, dO, dC, dI, dCall, dKall, pick, entry, isiV, isiV2, isTys, isTy, tobV, truO, truV, okIf, datOf, seqOf, lstOf, datas, lstV, tupV, elsOf, Out.bind_ok, f_is_guard_in, tgt, k0, ih]
    · simp [dSs, dS, dE, dEs, dAnd, dOr, dT, Ev.tAnd, Ev.tOr, dU, dN, dB2, dIf, dVar, dCst, dO, dC, dI, dCall, dKall, pick, entry, isiV, isiV2, isTys, isTy, tobV, truO, truV, okIf, datOf, seqOf, lstOf, datas, lstV, tupV, elsOf, Out.bind_ok, f_is_guard_in, tgt, k0]
      refine gets_each (fun k : PyData => Val.d k) (fun k => .bool true) gs (n := none) (S := S) (by simp [dSs, dS, dE, dEs, dAnd, dOr, dT, Ev.tAnd, Ev.tOr, dU, dN, dB2, dIf, dVar, dCst, dO, dC, dI, dCall, dKall, pick, entry, isiV, isiV2, isTys, isTy, tobV, truO, truV, okIf, datOf, seqOf, lstOf, datas, lstV, tupV, elsOf, Out.bind_ok]) (by simp) (fun q hm => ⟨_, rfl, by simp [dSs, dS, dE, dEs, dAnd, dOr, dT, Ev.tAnd, Ev.tOr, dU, dN, dB2, dIf, dVar, dCst, dO, dC, dI, dCall, dKall, pick, entry, isiV, isiV2, isTys, isTy, tobV, truO, truV, okIf, datOf, seqOf, lstOf, datas, lstV, tupV, elsOf, Out.bind_ok, wipeD, r_is_guard_in d q (hq q hm) m (by omega) (k - 1) (by omega)]⟩) (line_of (by omega)) ?_
      simp [dSs, dS, dE, dEs, dAnd, dOr, dT, Ev.tAnd, Ev.tOr, dU, dN, dB2, dIf, dVar, dCst, dO, dC, dI, dCall, dKall, pick, entry, isiV, isiV2, isTys, isTy, tobV, truO, truV, okIf, datOf, seqOf, lstOf, datas, lstV, tupV, elsOf, Out.bind_ok]
    · simp [dSs, dS, dE, dEs, dAnd, dOr, dT, Ev.tAnd, Ev.tOr, dU, dN, dB2, dIf, dVar, dCst, dO, dC, dI, dCall, dKall, pick, entry, isiV, isiV2, isTys, isTy, tobV, truO, truV, okIf, datOf, seqOf, lstOf, datas, lstV, tupV, elsOf, Out.bind_ok, f_is_guard_in, tgt, k0]
      refine gets_each (fun k : PyData => Val.d k) (fun k => .bool true) gs (n := none) (S := S) (by simp [dSs, dS, dE, dEs, dAnd, dOr, dT, Ev.tAnd, Ev.tOr, dU, dN, dB2, dIf, dVar, dCst, dO, dC, dI, dCall, dKall, pick, entry, isiV, isiV2, isTys, isTy, tobV, truO, truV, okIf, datOf, seqOf, lstOf, datas, lstV, tupV, elsOf, Out.bind_ok]) (by simp) (fun q hm => ⟨_, rfl, by simp [dSs, dS, dE, dEs, dAnd, dOr, dT, Ev.tAnd, Ev.tOr, dU, dN, dB2, dIf, dVar, dCst, dO, dC, dI, dCall, dKall, pick, entry, isiV, isiV2, isTys, isTy, tobV, truO, truV, okIf, datOf, seqOf, lstOf, datas, lstV, tupV, elsOf, Out.bind_ok, wipeD, r_is_guard_in d q (hq q hm) m (by omega) (k - 1) (by omega)]⟩) (line_of (by omega)) ?_
      simp [dSs, dS, dE, dEs, dAnd, dOr, dT, Ev.tAnd, Ev.tOr, dU, dN, dB2, dIf, dVar, dCst, dO, dC, dI, dCall, dKall, pick, entry, isiV, isiV2, isTys, isTy, tobV, truO, truV, okIf, datOf, seqOf, lstOf, datas, lstV, tupV, elsOf, Out.bind_ok]
end HT
end

section
set_option Elab.async false
set_option linter.all false
set_option maxRecDepth 100000
set_option maxHeartbeats 4000000
/-! M3: acts, says, rules, turns -/
namespace HT
open PySem PySem.Spec L2 Ev
/-! ### acts -/
def ActOk (zs : List Int) (a : PyData) : Prop := (∃ (v : Nat) (x z : Int), a = .tuple [.str "set", .int (v : Int), .int x] ∧ zs[v]? = some z ∧ 0 ≤ x ∧ x < z) ∨
  (∃ (v u : Nat) (z y : Int), a = .tuple [.str "copy", .int (v : Int), .int (u : Int)] ∧ zs[v]? = some z ∧ zs[u]? = some y ∧ y ≤ z)
def actF (vs : List Int) : PyData → List Int
  | .tuple [.str w, .int v, .int x] => vs.set v.toNat (if w = "set" then x else vs.getD x.toNat 0)
  | _ => vs
def actsF (vs : List Int) (as : List PyData) : List Int := as.foldl actF vs
theorem act_in {zs vs : List Int} {a : PyData} (h : ActOk zs a) (hr : InR zs vs) : InR zs (actF vs a) := by
  rcases h with ⟨v, x, z, rfl, hz, h0, h1⟩ | ⟨v, u, z, y, rfl, hz, hy, hle⟩
  · simp [actF]
    exact hr.set hz h0 h1
  · obtain ⟨w, hw, w0, w1⟩ := hr.get hy
    simp [actF, hw]
    exact hr.set hz w0 (by omega)
theorem acts_in {zs : List Int} : ∀ {as : List PyData} {vs : List Int}, (∀ a ∈ as, ActOk zs a) → InR zs vs → InR zs (actsF vs as)
  | [], _, _, hr => hr
  | a :: as, vs, h, hr => acts_in (as := as) (fun b hb => h b (List.mem_cons_of_mem _ hb)) (act_in (h a List.mem_cons_self) hr)
theorem ixN_nat {n i : Nat} (h : i < n) : ixN n (i : Int) = some i := by
  unfold ixN
  rw [if_pos (by omega), if_pos (by omega)]
  rfl
def IAct (zs : List Int) (A B : Option Val) (as0 : List PyData) (vs0 : List Int) (S : Store) (its : List Val) (ρ : EnvD) (S' : Store) : Prop := ∃ (as : List PyData) (vs : List Int) (x y z : Option Val), its = as.map Val.d ∧ ρ = [A, B, some (.loc S.length), x, y, z] ∧ (∀ a ∈ as, ActOk zs a) ∧ InR zs vs ∧
  actsF vs as = actsF vs0 as0 ∧ S' = S ++ [.lst (vs.map .int)]
/-! ### says -/
def SayOk (s : PyData) : Prop := (∃ x, Txt x ∧ s = .tuple [.str "words", .str x]) ∨ s = .tuple [.str "look"] ∨ s = .tuple [.str "held"]
def sayF (vs : List Int) : PyData → PyData
  | .tuple [w] => .tuple [w, Ints vs]
  | s => s
theorem r_is_act_in {n : Nat} (hn : 4 < n) {l : List Va} {a : PyData} (h : ActOk (szs l) a) (S : Store) : sem G T n 14 [.d (varsD l), .d a] S = .ok (.d (.bool true)) S := by
  obtain ⟨m, rfl⟩ : ∃ m, n = m + 1 := ⟨n - 1, by omega⟩
  refine ok_of (gets_sem t_is_act_in rfl ?_)
  rcases h with ⟨v, x, z, rfl, hz, h0, h1⟩ | ⟨v, u, z, y, rfl, hz, hy, hle⟩
  · simp [dSs, dS, dE, dEs, dAnd, dOr, dT, Ev.tAnd, Ev.tOr, dU, dN, dB2, dIf, dVar, dCst, dO, dC, dI, dCall, dKall, pick, entry, isiV, isiV2, isTys, isTy, tobV, truO, truV, okIf, datOf, seqOf, lstOf, datas, lstV, tupV, elsOf, Out.bind_ok, f_is_act_in, r_is_tuple (n := m) (by omega), tupN, r_is_value_in (n := m) (by omega) hz h0 h1]
  · obtain ⟨w, hw, e1⟩ := var_at hz
    obtain ⟨w2, hw2, e2⟩ := var_at hy
    have l1 : v < l.length := (List.getElem?_eq_some_iff.mp hw).1
    have l2 : u < l.length := (List.getElem?_eq_some_iff.mp hw2).1
    have a1 : atI (l.map varD) (v : Int) = some (varD w) := atI_nat (by rw [List.getElem?_map, hw]; rfl)
    have a2 : atI (l.map varD) (u : Int) = some (varD w2) := atI_nat (by rw [List.getElem?_map, hw2]; rfl)
    simp [dSs, dS, dE, dEs, dAnd, dOr, dT, Ev.tAnd, Ev.tOr, dU, dN, dB2, dIf, dVar, dCst, dO, dC, dI, dCall, dKall, pick, entry, isiV, isiV2, isTys, isTy, tobV, truO, truV, okIf, datOf, seqOf, lstOf, datas, lstV, tupV, elsOf, Out.bind_ok, f_is_act_in, r_is_tuple (n := m) (by omega), tupN, r_is_place_in (n := m) (by omega) l1, r_is_place_in (n := m) (by omega) l2, a1, a2]
    omega
theorem r_is_say {n : Nat} (hn : 1 < n) {s : PyData} (h : SayOk s) (S : Store) : sem G T n 15 [.d s] S = .ok (.d (.bool true)) S := by
  obtain ⟨m, rfl⟩ : ∃ m, n = m + 1 := ⟨n - 1, by omega⟩
  refine ok_of (gets_sem t_is_say rfl ?_)
  rcases h with ⟨x, hx, rfl⟩ | rfl | rfl
  · simp [dSs, dS, dE, dEs, dAnd, dOr, dT, Ev.tAnd, Ev.tOr, dU, dN, dB2, dIf, dVar, dCst, dO, dC, dI, dCall, dKall, pick, entry, isiV, isiV2, isTys, isTy, tobV, truO, truV, okIf, datOf, seqOf, lstOf, datas, lstV, tupV, elsOf, Out.bind_ok, f_is_say, r_is_text (n := m) (by omega) hx]
  · simp [dSs, dS, dE, dEs, dAnd, dOr, dT, Ev.tAnd, Ev.tOr, dU, dN, dB2, dIf, dVar, dCst, dO, dC, dI, dCall, dKall, pick, entry, isiV, isiV2, isTys, isTy, tobV, truO, truV, okIf, datOf, seqOf, lstOf, datas, lstV, tupV, elsOf, Out.bind_ok, f_is_say]
  · simp [dSs, dS, dE, dEs, dAnd, dOr, dT, Ev.tAnd, Ev.tOr, dU, dN, dB2, dIf, dVar, dCst, dO, dC, dI, dCall, dKall, pick, entry, isiV, isiV2, isTys, isTy, tobV, truO, truV, okIf, datOf, seqOf, lstOf, datas, lstV, tupV, elsOf, Out.bind_ok, f_is_say]
/-! ### rules -/
structure Do where
  g : PyData
  as : List PyData
  ss : List PyData
structure DoOk (zs : List Int) (d : Nat) (r : Do) : Prop where
  g : GOk zs d r.g
  as : ∀ a ∈ r.as, ActOk zs a
  ss : ∀ s ∈ r.ss, SayOk s
  la : r.as.length ≤ 1000
  ls : r.ss.length ≤ 1000
theorem r_are_doings {n : Nat} (hn : 20 < n) {l : List Va} {d : Nat} {r : Do} (hd : d ≤ 14) (h : DoOk (szs l) d r) (S : Store) : sem G T n 16 [.d (varsD l), .d r.g, .d (.tuple r.as), .d (.tuple r.ss)] S = .ok (.d (.bool true)) S := by
  obtain ⟨m, rfl⟩ : ∃ m, n = m + 1 := ⟨n - 1, by omega⟩
  refine ok_of (gets_sem t_are_doings rfl ?_)
  have hg : G[5]? = some (.int 14) := rfl
  have hla := h.la
  have hls := h.ls
  simp [dSs, dS, dE, dEs, dAnd, dOr, dT, Ev.tAnd, Ev.tOr, dU, dN, dB2, dIf, dVar, dCst, dO, dC, dI, dCall, dKall, pick, entry, isiV, isiV2, isTys, isTy, tobV, truO, truV, okIf, datOf, seqOf, lstOf, datas, lstV, tupV, elsOf, Out.bind_ok, f_are_doings, hg, r_is_guard_in d r.g h.g m (by omega) 14 (by omega)]
  refine gets_each (fun s : PyData => Val.d s) (fun _ => .bool true) r.as (n := none) (S := S) (by simp [dSs, dS, dE, dEs, dAnd, dOr, dT, Ev.tAnd, Ev.tOr, dU, dN, dB2, dIf, dVar, dCst, dO, dC, dI, dCall, dKall, pick, entry, isiV, isiV2, isTys, isTy, tobV, truO, truV, okIf, datOf, seqOf, lstOf, datas, lstV, tupV, elsOf, Out.bind_ok]) (by simp) (fun s hm => ⟨_, rfl, by simp [dSs, dS, dE, dEs, dAnd, dOr, dT, Ev.tAnd, Ev.tOr, dU, dN, dB2, dIf, dVar, dCst, dO, dC, dI, dCall, dKall, pick, entry, isiV, isiV2, isTys, isTy, tobV, truO, truV, okIf, datOf, seqOf, lstOf, datas, lstV, tupV, elsOf, Out.bind_ok, wipeD, r_is_act_in (n := m) (by omega) (h.as s hm)]⟩) (line_of (by omega)) ?_
  simp
  refine gets_each (fun s : PyData => Val.d s) (fun _ => .bool true) r.ss (n := none) (S := S) (by simp [dSs, dS, dE, dEs, dAnd, dOr, dT, Ev.tAnd, Ev.tOr, dU, dN, dB2, dIf, dVar, dCst, dO, dC, dI, dCall, dKall, pick, entry, isiV, isiV2, isTys, isTy, tobV, truO, truV, okIf, datOf, seqOf, lstOf, datas, lstV, tupV, elsOf, Out.bind_ok]) (by simp) (fun s hm => ⟨_, rfl, by simp [dSs, dS, dE, dEs, dAnd, dOr, dT, Ev.tAnd, Ev.tOr, dU, dN, dB2, dIf, dVar, dCst, dO, dC, dI, dCall, dKall, pick, entry, isiV, isiV2, isTys, isTy, tobV, truO, truV, okIf, datOf, seqOf, lstOf, datas, lstV, tupV, elsOf, Out.bind_ok, wipeD, r_is_say (n := m) (by omega) (h.ss s hm)]⟩) (line_of (by omega)) ?_
  simp
structure Ru where
  r : Do
  k : Int
abbrev doD (r : Do) : PyData := .tuple [r.g, .tuple r.as, .tuple r.ss]
abbrev ruD (r : Ru) : PyData := .tuple [r.r.g, .tuple r.r.as, .tuple r.r.ss, .int r.k]
structure TbOk (zs : List Int) (d : Nat) (t : List Ru) : Prop where
  each : ∀ r ∈ t, DoOk zs d r.r ∧ (r.k = 0 ∨ r.k = 1)
  last : ∃ t' r, t = t' ++ [r] ∧ r.r.g = .tuple [.str "all", .tuple []]
  few : t.length ≤ 1000
abbrev tbD (t : List Ru) : PyData := .tuple (t.map ruD)
theorem r_is_table_in {n : Nat} (hn : 21 < n) {l : List Va} {d : Nat} {t : List Ru} (hd : d ≤ 14) (h : TbOk (szs l) d t) (S : Store) : sem G T n 17 [.d (varsD l), .d (tbD t)] S = .ok (.d (.bool true)) S := by
  obtain ⟨m, rfl⟩ : ∃ m, n = m + 1 := ⟨n - 1, by omega⟩
  refine ok_of (gets_sem t_is_table_in rfl ?_)
  obtain ⟨t', r0, e0, e1⟩ := h.last
  have hf := h.few
  have ne : t.length ≠ 0 := by rw [e0]; simp
  have i1 : atI (t.map ruD) (-1) = some (ruD r0) := by
    rw [e0, List.map_append]
    exact atI_end
  simp [dSs, dS, dE, dEs, dAnd, dOr, dT, Ev.tAnd, Ev.tOr, dU, dN, dB2, dIf, dVar, dCst, dO, dC, dI, dCall, dKall, pick, entry, isiV, isiV2, isTys, isTy, tobV, truO, truV, okIf, datOf, seqOf, lstOf, datas, lstV, tupV, elsOf, Out.bind_ok, f_is_table_in]
  refine ⟨fun z => absurd (by rw [z]; rfl) ne, fun _ => ?_⟩
  refine gets_each (fun r : Ru => Val.d (ruD r)) (fun _ => .bool true) t (n := none) (S := S) (by simp [dSs, dS, dE, dEs, dAnd, dOr, dT, Ev.tAnd, Ev.tOr, dU, dN, dB2, dIf, dVar, dCst, dO, dC, dI, dCall, dKall, pick, entry, isiV, isiV2, isTys, isTy, tobV, truO, truV, okIf, datOf, seqOf, lstOf, datas, lstV, tupV, elsOf, Out.bind_ok]) (by simp) (fun s hm => ⟨_, rfl, by simp [dSs, dS, dE, dEs, dAnd, dOr, dT, Ev.tAnd, Ev.tOr, dU, dN, dB2, dIf, dVar, dCst, dO, dC, dI, dCall, dKall, pick, entry, isiV, isiV2, isTys, isTy, tobV, truO, truV, okIf, datOf, seqOf, lstOf, datas, lstV, tupV, elsOf, Out.bind_ok, wipeD, r_is_tuple (n := m) (by omega), tupN]⟩) (line_of (by omega)) ?_
  simp
  refine gets_each (fun r : Ru => Val.d (ruD r)) (fun _ => .bool true) t (n := none) (S := S) (by simp [dSs, dS, dE, dEs, dAnd, dOr, dT, Ev.tAnd, Ev.tOr, dU, dN, dB2, dIf, dVar, dCst, dO, dC, dI, dCall, dKall, pick, entry, isiV, isiV2, isTys, isTy, tobV, truO, truV, okIf, datOf, seqOf, lstOf, datas, lstV, tupV, elsOf, Out.bind_ok]) (by simp) (fun s hm => ⟨_, rfl, ?_⟩) (line_of (by omega)) ?_
  · obtain ⟨q1, q2⟩ := h.each s hm
    have q3 : within 0 1 (.int s.k) = true := by
      simp [within]
      omega
    simp [dSs, dS, dE, dEs, dAnd, dOr, dT, Ev.tAnd, Ev.tOr, dU, dN, dB2, dIf, dVar, dCst, dO, dC, dI, dCall, dKall, pick, entry, isiV, isiV2, isTys, isTy, tobV, truO, truV, okIf, datOf, seqOf, lstOf, datas, lstV, tupV, elsOf, Out.bind_ok, wipeD, r_is_within (n := m) (by omega), q3, r_are_doings (n := m) (by omega) hd q1]
  · simp [dSs, dS, dE, dEs, dAnd, dOr, dT, Ev.tAnd, Ev.tOr, dU, dN, dB2, dIf, dVar, dCst, dO, dC, dI, dCall, dKall, pick, entry, isiV, isiV2, isTys, isTy, tobV, truO, truV, okIf, datOf, seqOf, lstOf, datas, lstV, tupV, elsOf, Out.bind_ok, i1, e1]
    rw [eq_dd (by decide +kernel) (by decide +kernel)]
    have e : PyData.eqv (.tuple [.str "all", .tuple []]) (.tuple [.str "all", .tuple []]) = true := by decide +kernel
    rw [e]
    simp
end HT
end

section
set_option Elab.async false
set_option linter.all false
set_option maxRecDepth 100000
set_option maxHeartbeats 4000000
/-! M4: groups, endings, views, the middle form -/
namespace HT
open PySem PySem.Spec L2 Ev
structure GrOk (zs : List Int) (d : Nat) (t : List Do) : Prop where
  each : ∀ r ∈ t, DoOk zs d r
  few : t.length ≤ 1000
abbrev grD (t : List Do) : PyData := .tuple (t.map doD)
theorem r_is_group_in {n : Nat} (hn : 21 < n) {l : List Va} {d : Nat} {t : List Do} (hd : d ≤ 14) (h : GrOk (szs l) d t) (S : Store) : sem G T n 18 [.d (varsD l), .d (grD t)] S = .ok (.d (.bool true)) S := by
  obtain ⟨m, rfl⟩ : ∃ m, n = m + 1 := ⟨n - 1, by omega⟩
  refine ok_of (gets_sem t_is_group_in rfl ?_)
  have hf := h.few
  simp [dSs, dS, dE, dEs, dAnd, dOr, dT, Ev.tAnd, Ev.tOr, dU, dN, dB2, dIf, dVar, dCst, dO, dC, dI, dCall, dKall, pick, entry, isiV, isiV2, isTys, isTy, tobV, truO, truV, okIf, datOf, seqOf, lstOf, datas, lstV, tupV, elsOf, Out.bind_ok, f_is_group_in]
  refine gets_each (fun r : Do => Val.d (doD r)) (fun _ => .bool true) t (n := none) (S := S) (by simp [dSs, dS, dE, dEs, dAnd, dOr, dT, Ev.tAnd, Ev.tOr, dU, dN, dB2, dIf, dVar, dCst, dO, dC, dI, dCall, dKall, pick, entry, isiV, isiV2, isTys, isTy, tobV, truO, truV, okIf, datOf, seqOf, lstOf, datas, lstV, tupV, elsOf, Out.bind_ok]) (by simp) (fun s hm => ⟨_, rfl, by simp [dSs, dS, dE, dEs, dAnd, dOr, dT, Ev.tAnd, Ev.tOr, dU, dN, dB2, dIf, dVar, dCst, dO, dC, dI, dCall, dKall, pick, entry, isiV, isiV2, isTys, isTy, tobV, truO, truV, okIf, datOf, seqOf, lstOf, datas, lstV, tupV, elsOf, Out.bind_ok, wipeD, r_is_tuple (n := m) (by omega), tupN]⟩) (line_of (by omega)) ?_
  simp
  refine gets_each (fun r : Do => Val.d (doD r)) (fun _ => .bool true) t (n := none) (S := S) (by simp [dSs, dS, dE, dEs, dAnd, dOr, dT, Ev.tAnd, Ev.tOr, dU, dN, dB2, dIf, dVar, dCst, dO, dC, dI, dCall, dKall, pick, entry, isiV, isiV2, isTys, isTy, tobV, truO, truV, okIf, datOf, seqOf, lstOf, datas, lstV, tupV, elsOf, Out.bind_ok]) (by simp) (fun s hm => ⟨_, rfl, by simp [dSs, dS, dE, dEs, dAnd, dOr, dT, Ev.tAnd, Ev.tOr, dU, dN, dB2, dIf, dVar, dCst, dO, dC, dI, dCall, dKall, pick, entry, isiV, isiV2, isTys, isTy, tobV, truO, truV, okIf, datOf, seqOf, lstOf, datas, lstV, tupV, elsOf, Out.bind_ok, wipeD, r_are_doings (n := m) (by omega) hd (h.each s hm)]⟩) (line_of (by omega)) ?_
  simp
structure En0 where
  v : Int
  g : PyData
  ss : List PyData
abbrev enD (e : En0) : PyData := .tuple [.int e.v, e.g, .tuple e.ss]
structure EnOk (zs : List Int) (d : Nat) (z : Int) (e : En0) : Prop where
  v : 1 ≤ e.v ∧ e.v < z
  g : GOk zs d e.g
  ss : ∀ s ∈ e.ss, SayOk s
  ls : e.ss.length ≤ 1000
theorem r_is_ending_in {n : Nat} (hn : 21 < n) {l l' : List Va} {w : Va} {d : Nat} {e : En0} (hd : d ≤ 14) (hl : l = l' ++ [w]) (h : EnOk (szs l) d w.2.length e) (S : Store) : sem G T n 19 [.d (varsD l), .d (enD e)] S = .ok (.d (.bool true)) S := by
  obtain ⟨m, rfl⟩ : ∃ m, n = m + 1 := ⟨n - 1, by omega⟩
  refine ok_of (gets_sem t_is_ending_in rfl ?_)
  have i1 : atI (l.map varD) (-1) = some (varD w) := by
    rw [hl, List.map_append]
    exact atI_end
  have q := r_are_doings (n := m) (by omega) (l := l) (r := ⟨e.g, [], e.ss⟩) hd ⟨h.g, (fun _ z => by cases z), h.ss, by simp, h.ls⟩
  dsimp only at q
  have hv := h.v
  have q3 : within 1 ((w.2.length : Int) - 1) (.int e.v) = true := by
    simp [within]
    omega
  simp [dSs, dS, dE, dEs, dAnd, dOr, dT, Ev.tAnd, Ev.tOr, dU, dN, dB2, dIf, dVar, dCst, dO, dC, dI, dCall, dKall, pick, entry, isiV, isiV2, isTys, isTy, tobV, truO, truV, okIf, datOf, seqOf, lstOf, datas, lstV, tupV, elsOf, Out.bind_ok, f_is_ending_in, r_is_tuple (n := m) (by omega), tupN, i1, r_is_within (n := m) (by omega), q3, q]
/-! ### views -/
def ways6 : List Str := ["north", "south", "east", "west", "up", "down"]
def DwOk (k : Nat) (w : PyData) : Prop := ∃ x ∈ ways6, (w = .tuple [.str x, .none] ∨ ∃ v : Nat, v < k ∧ w = .tuple [.str x, .int (v : Int)])
def ShOk (l : List Va) (rooms : Nat) (w : PyData) : Prop := ∃ x, Txt x ∧ ((∃ (v : Nat) (z : Int), w = .tuple [.str "thing", .str x, .int (v : Int)] ∧ (szs l)[v]? = some z ∧ (rooms : Int) < z) ∨
  (∃ r : Int, w = .tuple [.str "fixed", .str x, .int r] ∧ 0 ≤ r ∧ r < rooms) ∨
  (∃ (r k : Int) (v : Nat), w = .tuple [.str "box", .str x, .int r, .int (v : Int), .int k] ∧ 0 ≤ r ∧ r < rooms ∧ v < l.length ∧ (rooms : Int) < k) ∨
  (∃ (v : Nat) (rs : List Int), w = .tuple [.str "folk", .str x, .int (v : Int), Ints rs] ∧ (szs l)[v]? = some (rs.length : Int) ∧ rs.length ≤ 1000 ∧ ∀ r ∈ rs, 0 ≤ r ∧ r < rooms))
theorem r_is_door_way {n : Nat} (hn : 3 < n) {l : List Va} {w : PyData} (h : DwOk l.length w) (S : Store) : sem G T n 20 [.d (varsD l), .d w] S = .ok (.d (.bool true)) S := by
  obtain ⟨m, rfl⟩ : ∃ m, n = m + 1 := ⟨n - 1, by omega⟩
  refine ok_of (gets_sem t_is_door_way rfl ?_)
  have hg : G[6]? = some (.tuple [.str "north", .str "south", .str "east", .str "west", .str "up", .str "down"]) := rfl
  obtain ⟨x, hx, h⟩ := h
  have ne : ∀ S, cmpV .NotIn (.d (.str x)) (.d (.tuple [.str "north", .str "south", .str "east", .str "west", .str "up", .str "down"])) S = .ok (.d (.bool false)) S := by
    intro S
    simp [ways6] at hx
    rcases hx with rfl | rfl | rfl | rfl | rfl | rfl <;> (refine (notin_tuple6 (by decide +kernel) (by decide +kernel) (by decide +kernel) (by decide +kernel) (by decide +kernel) (by decide +kernel) (by decide +kernel)).trans ?_; congr 3)
  rcases h with rfl | ⟨v, hv, rfl⟩
  · simp [dSs, dS, dE, dEs, dAnd, dOr, dT, Ev.tAnd, Ev.tOr, dU, dN, dB2, dIf, dVar, dCst, dO, dC, dI, dCall, dKall, pick, entry, isiV, isiV2, isTys, isTy, tobV, truO, truV, okIf, datOf, seqOf, lstOf, datas, lstV, tupV, elsOf, Out.bind_ok, f_is_door_way, r_is_tuple (n := m) (by omega), tupN, hg, ne]
  · simp [dSs, dS, dE, dEs, dAnd, dOr, dT, Ev.tAnd, Ev.tOr, dU, dN, dB2, dIf, dVar, dCst, dO, dC, dI, dCall, dKall, pick, entry, isiV, isiV2, isTys, isTy, tobV, truO, truV, okIf, datOf, seqOf, lstOf, datas, lstV, tupV, elsOf, Out.bind_ok, f_is_door_way, r_is_tuple (n := m) (by omega), tupN, hg, ne, r_is_place_in (n := m) (by omega) hv]
theorem r_is_shown_in {n : Nat} (hn : 3 < n) {l r : List Va} {w : Va} (hl : l = w :: r) {x : PyData} (h : ShOk l w.2.length x) (S : Store) : sem G T n 21 [.d (varsD l), .d x] S = .ok (.d (.bool true)) S := by
  obtain ⟨m, rfl⟩ : ∃ m, n = m + 1 := ⟨n - 1, by omega⟩
  refine ok_of (gets_sem t_is_shown_in rfl ?_)
  have i0 : atI (l.map varD) 0 = some (varD w) := by rw [hl]; simp
  obtain ⟨t, ht, h⟩ := h
  have q := fun S => r_is_text (n := m) (by omega) ht S
  rcases h with ⟨v, z, rfl, hz, hlt⟩ | ⟨y, rfl, h0, h1⟩ | ⟨y, k, v, rfl, h0, h1, hv, hk⟩ | ⟨v, rs, rfl, hz, hf, hr⟩
  · obtain ⟨u, hu, e1⟩ := var_at hz
    have l1 : v < l.length := (List.getElem?_eq_some_iff.mp hu).1
    have a1 : atI (l.map varD) (v : Int) = some (varD u) := atI_nat (by rw [List.getElem?_map, hu]; rfl)
    simp [dSs, dS, dE, dEs, dAnd, dOr, dT, Ev.tAnd, Ev.tOr, dU, dN, dB2, dIf, dVar, dCst, dO, dC, dI, dCall, dKall, pick, entry, isiV, isiV2, isTys, isTy, tobV, truO, truV, okIf, datOf, seqOf, lstOf, datas, lstV, tupV, elsOf, Out.bind_ok, f_is_shown_in, tgt, i0, q, a1, r_is_place_in (n := m) (by omega) l1]
    omega
  · have q3 : within 0 ((w.2.length : Int) - 1) (.int y) = true := by
      simp [within]
      omega
    simp [dSs, dS, dE, dEs, dAnd, dOr, dT, Ev.tAnd, Ev.tOr, dU, dN, dB2, dIf, dVar, dCst, dO, dC, dI, dCall, dKall, pick, entry, isiV, isiV2, isTys, isTy, tobV, truO, truV, okIf, datOf, seqOf, lstOf, datas, lstV, tupV, elsOf, Out.bind_ok, f_is_shown_in, tgt, i0, q, r_is_within (n := m) (by omega), q3]
  · have q3 : within 0 ((w.2.length : Int) - 1) (.int y) = true := by
      simp [within]
      omega
    simp [dSs, dS, dE, dEs, dAnd, dOr, dT, Ev.tAnd, Ev.tOr, dU, dN, dB2, dIf, dVar, dCst, dO, dC, dI, dCall, dKall, pick, entry, isiV, isiV2, isTys, isTy, tobV, truO, truV, okIf, datOf, seqOf, lstOf, datas, lstV, tupV, elsOf, Out.bind_ok, f_is_shown_in, tgt, i0, q, r_is_within (n := m) (by omega), q3, r_is_place_in (n := m) (by omega) hv, r_is_integer (n := m) (by omega), isInt]
    omega
  · obtain ⟨u, hu, e1⟩ := var_at hz
    have l1 : v < l.length := (List.getElem?_eq_some_iff.mp hu).1
    have a1 : atI (l.map varD) (v : Int) = some (varD u) := atI_nat (by rw [List.getElem?_map, hu]; rfl)
    have e2 : u.2.length = rs.length := by omega
    simp [dSs, dS, dE, dEs, dAnd, dOr, dT, Ev.tAnd, Ev.tOr, dU, dN, dB2, dIf, dVar, dCst, dO, dC, dI, dCall, dKall, pick, entry, isiV, isiV2, isTys, isTy, tobV, truO, truV, okIf, datOf, seqOf, lstOf, datas, lstV, tupV, elsOf, Out.bind_ok, f_is_shown_in, tgt, i0, q, a1, r_is_place_in (n := m) (by omega) l1, e2]
    refine gets_each (fun i : Int => Val.d (.int i)) (fun _ => .bool true) rs (n := none) (S := S) (by simp [dSs, dS, dE, dEs, dAnd, dOr, dT, Ev.tAnd, Ev.tOr, dU, dN, dB2, dIf, dVar, dCst, dO, dC, dI, dCall, dKall, pick, entry, isiV, isiV2, isTys, isTy, tobV, truO, truV, okIf, datOf, seqOf, lstOf, datas, lstV, tupV, elsOf, Out.bind_ok]) (by simp) (fun s hm => ⟨_, rfl, ?_⟩) (line_of (by omega)) ?_
    · have h1 := hr s hm
      have q3 : within 0 ((w.2.length : Int) - 1) (.int s) = true := by
        simp [within]
        omega
      simp [dSs, dS, dE, dEs, dAnd, dOr, dT, Ev.tAnd, Ev.tOr, dU, dN, dB2, dIf, dVar, dCst, dO, dC, dI, dCall, dKall, pick, entry, isiV, isiV2, isTys, isTy, tobV, truO, truV, okIf, datOf, seqOf, lstOf, datas, lstV, tupV, elsOf, Out.bind_ok, wipeD, r_is_within (n := m) (by omega), q3]
    · simp
structure Vw where
  texts : List Str
  ways : List (List PyData)
  shown : List PyData
structure VwOk (l : List Va) (rooms : Nat) (v : Vw) : Prop where
  lt : v.texts.length = rooms
  lw : v.ways.length = rooms
  ls : v.shown.length ≤ 1000
  texts : ∀ x ∈ v.texts, Txt x
  ways : ∀ w ∈ v.ways, w.length ≤ 1000 ∧ ∀ x ∈ w, DwOk l.length x
  shown : ∀ x ∈ v.shown, ShOk l rooms x
abbrev vwD (v : Vw) : PyData := .tuple [.tuple (v.texts.map .str), .tuple (v.ways.map .tuple), .tuple v.shown]
theorem r_are_views {n : Nat} (hn : 4 < n) {l r : List Va} {w : Va} (hl : l = w :: r) (hw : w.2.length ≤ 1000) {v : Vw} (h : VwOk l w.2.length v) (S : Store) : sem G T n 22 [.d (varsD l), .d (vwD v)] S = .ok (.d (.bool true)) S := by
  obtain ⟨m, rfl⟩ : ∃ m, n = m + 1 := ⟨n - 1, by omega⟩
  refine ok_of (gets_sem t_are_views rfl ?_)
  have i0 : atI (l.map varD) 0 = some (varD w) := by rw [hl]; simp
  have e1 := h.lt
  have e2 := h.lw
  have e3 := h.ls
  simp [dSs, dS, dE, dEs, dAnd, dOr, dT, Ev.tAnd, Ev.tOr, dU, dN, dB2, dIf, dVar, dCst, dO, dC, dI, dCall, dKall, pick, entry, isiV, isiV2, isTys, isTy, tobV, truO, truV, okIf, datOf, seqOf, lstOf, datas, lstV, tupV, elsOf, Out.bind_ok, f_are_views, tgt, i0, r_is_tuple (n := m) (by omega), tupN, e1, e2]
  refine gets_each (fun x : Str => Val.d (.str x)) (fun _ => .bool true) v.texts (n := none) (S := S) (by simp [dSs, dS, dE, dEs, dAnd, dOr, dT, Ev.tAnd, Ev.tOr, dU, dN, dB2, dIf, dVar, dCst, dO, dC, dI, dCall, dKall, pick, entry, isiV, isiV2, isTys, isTy, tobV, truO, truV, okIf, datOf, seqOf, lstOf, datas, lstV, tupV, elsOf, Out.bind_ok]) (by simp) (fun x hx => ⟨_, rfl, by simp [dSs, dS, dE, dEs, dAnd, dOr, dT, Ev.tAnd, Ev.tOr, dU, dN, dB2, dIf, dVar, dCst, dO, dC, dI, dCall, dKall, pick, entry, isiV, isiV2, isTys, isTy, tobV, truO, truV, okIf, datOf, seqOf, lstOf, datas, lstV, tupV, elsOf, Out.bind_ok, wipeD, r_is_text (n := m) (by omega) (h.texts x hx)]⟩) (line_of (by omega)) ?_
  simp
  refine gets_each (fun x : List PyData => Val.d (.tuple x)) (fun _ => .bool true) v.ways (n := none) (S := S) (by simp [dSs, dS, dE, dEs, dAnd, dOr, dT, Ev.tAnd, Ev.tOr, dU, dN, dB2, dIf, dVar, dCst, dO, dC, dI, dCall, dKall, pick, entry, isiV, isiV2, isTys, isTy, tobV, truO, truV, okIf, datOf, seqOf, lstOf, datas, lstV, tupV, elsOf, Out.bind_ok]) (by simp) (fun x hx => ⟨_, rfl, by simp [dSs, dS, dE, dEs, dAnd, dOr, dT, Ev.tAnd, Ev.tOr, dU, dN, dB2, dIf, dVar, dCst, dO, dC, dI, dCall, dKall, pick, entry, isiV, isiV2, isTys, isTy, tobV, truO, truV, okIf, datOf, seqOf, lstOf, datas, lstV, tupV, elsOf, Out.bind_ok, wipeD]⟩) (line_of (by omega)) ?_
  simp
  refine gets_each (fun x : List PyData => Val.d (.tuple x)) (fun _ => .bool true) v.ways (n := none) (S := S) (by simp [dSs, dS, dE, dEs, dAnd, dOr, dT, Ev.tAnd, Ev.tOr, dU, dN, dB2, dIf, dVar, dCst, dO, dC, dI, dCall, dKall, pick, entry, isiV, isiV2, isTys, isTy, tobV, truO, truV, okIf, datOf, seqOf, lstOf, datas, lstV, tupV, elsOf, Out.bind_ok]) (by simp) (fun x hx => ⟨_, rfl, ?_⟩) (line_of (by omega)) ?_
  · obtain ⟨q1, q2⟩ := h.ways x hx
    refine ok_of ?_
    simp [dSs, dS, dE, dEs, dAnd, dOr, dT, Ev.tAnd, Ev.tOr, dU, dN, dB2, dIf, dVar, dCst, dO, dC, dI, dCall, dKall, pick, entry, isiV, isiV2, isTys, isTy, tobV, truO, truV, okIf, datOf, seqOf, lstOf, datas, lstV, tupV, elsOf, Out.bind_ok, wipeD]
    refine gets_each (fun x : PyData => Val.d x) (fun _ => .bool true) x (n := none) (S := S) (by simp [dSs, dS, dE, dEs, dAnd, dOr, dT, Ev.tAnd, Ev.tOr, dU, dN, dB2, dIf, dVar, dCst, dO, dC, dI, dCall, dKall, pick, entry, isiV, isiV2, isTys, isTy, tobV, truO, truV, okIf, datOf, seqOf, lstOf, datas, lstV, tupV, elsOf, Out.bind_ok]) (by simp) (fun y hy => ⟨_, rfl, by simp [dSs, dS, dE, dEs, dAnd, dOr, dT, Ev.tAnd, Ev.tOr, dU, dN, dB2, dIf, dVar, dCst, dO, dC, dI, dCall, dKall, pick, entry, isiV, isiV2, isTys, isTy, tobV, truO, truV, okIf, datOf, seqOf, lstOf, datas, lstV, tupV, elsOf, Out.bind_ok, wipeD, r_is_door_way (n := m) (by omega) (q2 y hy)]⟩) (line_of (by omega)) ?_
    simp
  · simp
    refine gets_each (fun x : PyData => Val.d x) (fun _ => .bool true) v.shown (n := none) (S := S) (by simp [dSs, dS, dE, dEs, dAnd, dOr, dT, Ev.tAnd, Ev.tOr, dU, dN, dB2, dIf, dVar, dCst, dO, dC, dI, dCall, dKall, pick, entry, isiV, isiV2, isTys, isTy, tobV, truO, truV, okIf, datOf, seqOf, lstOf, datas, lstV, tupV, elsOf, Out.bind_ok]) (by simp) (fun y hy => ⟨_, rfl, by simp [dSs, dS, dE, dEs, dAnd, dOr, dT, Ev.tAnd, Ev.tOr, dU, dN, dB2, dIf, dVar, dCst, dO, dC, dI, dCall, dKall, pick, entry, isiV, isiV2, isTys, isTy, tobV, truO, truV, okIf, datOf, seqOf, lstOf, datas, lstV, tupV, elsOf, Out.bind_ok, wipeD, r_is_shown_in (n := m) (by omega) hl (h.shown y hy)]⟩) (line_of (by omega)) ?_
    simp
/-! ### the middle form -/
structure Mid where
  vars : List Va
  start : List Int
  tables : List (List Ru)
  groups : List (List Do)
  ends : List En0
  views : Vw
abbrev midD (M : Mid) : PyData := .tuple [varsD M.vars, Ints M.start, .tuple (M.tables.map tbD), .tuple (M.groups.map grD), .tuple (M.ends.map enD), vwD M.views]
structure MidOk (M : Mid) : Prop where
  vars : VasOk M.vars
  start : InR (szs M.vars) M.start
  tables : ∀ t ∈ M.tables, TbOk (szs M.vars) 14 t
  groups : ∀ t ∈ M.groups, GrOk (szs M.vars) 14 t
  ends : ∀ w r, M.vars = r ++ [w] → ∀ e ∈ M.ends, EnOk (szs M.vars) 14 w.2.length e
  views : ∀ w r, M.vars = w :: r → VwOk M.vars w.2.length M.views
  lt : M.tables.length ≤ 1000
  lg : M.groups.length ≤ 1000
  le : M.ends.length ≤ 1000
theorem r_is_middle {n : Nat} (hn : 22 < n) {M : Mid} (h : MidOk M) (S : Store) : sem G T n 23 [.d (midD M)] S = .ok (.d (.bool true)) S := by
  obtain ⟨m, rfl⟩ : ∃ m, n = m + 1 := ⟨n - 1, by omega⟩
  refine ok_of (gets_sem t_is_middle_value rfl ?_)
  obtain ⟨w, r, e1, _⟩ := h.vars.room
  obtain ⟨w', r', ns, e2, _, _⟩ := h.vars.ended
  have hw := (h.vars.each w (by rw [e1]; exact List.mem_cons_self)).few
  have c1 := fun S => r_are_variables (n := m) (by omega) h.vars S
  have c2 := fun S => r_are_values_of (n := m) (by omega) h.vars h.start S
  have c3 := fun S => r_are_views (n := m) (by omega) e1 (by omega) (h.views w r e1) S
  have l1 := h.lt
  have l2 := h.lg
  have l3 := h.le
  have cut : cutD [varsD M.vars, Ints M.start, .tuple (M.tables.map tbD), .tuple (M.groups.map grD), .tuple (M.ends.map enD), vwD M.views] (some 2) (some 5) = [.tuple (M.tables.map tbD), .tuple (M.groups.map grD), .tuple (M.ends.map enD)] := rfl
  simp [dSs, dS, dE, dEs, dAnd, dOr, dT, Ev.tAnd, Ev.tOr, dU, dN, dB2, dIf, dVar, dCst, dO, dC, dI, dCall, dKall, pick, entry, isiV, isiV2, isTys, isTy, tobV, truO, truV, okIf, datOf, seqOf, lstOf, datas, lstV, tupV, elsOf, Out.bind_ok, f_is_middle_value, tgt, r_is_tuple (n := m) (by omega), tupN, c1, c2]
  refine gets_each (fun x : PyData => Val.d x) (fun _ => .bool true) [.tuple (M.tables.map tbD), .tuple (M.groups.map grD), .tuple (M.ends.map enD)] (n := none) (S := S) (by simp [dSs, dS, dE, dEs, dAnd, dOr, dT, Ev.tAnd, Ev.tOr, dU, dN, dB2, dIf, dVar, dCst, dO, dC, dI, dCall, dKall, pick, entry, isiV, isiV2, isTys, isTy, tobV, truO, truV, okIf, datOf, seqOf, lstOf, datas, lstV, tupV, elsOf, Out.bind_ok, cut]) (by simp) (fun x hx => ⟨_, rfl, ?_⟩) (line_of (by simp)) ?_
  · simp at hx
    rcases hx with rfl | rfl | rfl <;> simp [dSs, dS, dE, dEs, dAnd, dOr, dT, Ev.tAnd, Ev.tOr, dU, dN, dB2, dIf, dVar, dCst, dO, dC, dI, dCall, dKall, pick, entry, isiV, isiV2, isTys, isTy, tobV, truO, truV, okIf, datOf, seqOf, lstOf, datas, lstV, tupV, elsOf, Out.bind_ok, wipeD]
  · simp
    refine gets_each (fun x : List Ru => Val.d (tbD x)) (fun _ => .bool true) M.tables (n := none) (S := S) (by simp [dSs, dS, dE, dEs, dAnd, dOr, dT, Ev.tAnd, Ev.tOr, dU, dN, dB2, dIf, dVar, dCst, dO, dC, dI, dCall, dKall, pick, entry, isiV, isiV2, isTys, isTy, tobV, truO, truV, okIf, datOf, seqOf, lstOf, datas, lstV, tupV, elsOf, Out.bind_ok]) (by simp) (fun y hy => ⟨_, rfl, by simp [dSs, dS, dE, dEs, dAnd, dOr, dT, Ev.tAnd, Ev.tOr, dU, dN, dB2, dIf, dVar, dCst, dO, dC, dI, dCall, dKall, pick, entry, isiV, isiV2, isTys, isTy, tobV, truO, truV, okIf, datOf, seqOf, lstOf, datas, lstV, tupV, elsOf, Out.bind_ok, wipeD, r_is_table_in (n := m) (by omega) (Nat.le_refl _) (h.tables y hy)]⟩) (line_of (by omega)) ?_
    simp
    refine gets_each (fun x : List Do => Val.d (grD x)) (fun _ => .bool true) M.groups (n := none) (S := S) (by simp [dSs, dS, dE, dEs, dAnd, dOr, dT, Ev.tAnd, Ev.tOr, dU, dN, dB2, dIf, dVar, dCst, dO, dC, dI, dCall, dKall, pick, entry, isiV, isiV2, isTys, isTy, tobV, truO, truV, okIf, datOf, seqOf, lstOf, datas, lstV, tupV, elsOf, Out.bind_ok]) (by simp) (fun y hy => ⟨_, rfl, by simp [dSs, dS, dE, dEs, dAnd, dOr, dT, Ev.tAnd, Ev.tOr, dU, dN, dB2, dIf, dVar, dCst, dO, dC, dI, dCall, dKall, pick, entry, isiV, isiV2, isTys, isTy, tobV, truO, truV, okIf, datOf, seqOf, lstOf, datas, lstV, tupV, elsOf, Out.bind_ok, wipeD, r_is_group_in (n := m) (by omega) (Nat.le_refl _) (h.groups y hy)]⟩) (line_of (by omega)) ?_
    simp
    refine gets_each (fun x : En0 => Val.d (enD x)) (fun _ => .bool true) M.ends (n := none) (S := S) (by simp [dSs, dS, dE, dEs, dAnd, dOr, dT, Ev.tAnd, Ev.tOr, dU, dN, dB2, dIf, dVar, dCst, dO, dC, dI, dCall, dKall, pick, entry, isiV, isiV2, isTys, isTy, tobV, truO, truV, okIf, datOf, seqOf, lstOf, datas, lstV, tupV, elsOf, Out.bind_ok]) (by simp) (fun y hy => ⟨_, rfl, by simp [dSs, dS, dE, dEs, dAnd, dOr, dT, Ev.tAnd, Ev.tOr, dU, dN, dB2, dIf, dVar, dCst, dO, dC, dI, dCall, dKall, pick, entry, isiV, isiV2, isTys, isTy, tobV, truO, truV, okIf, datOf, seqOf, lstOf, datas, lstV, tupV, elsOf, Out.bind_ok, wipeD, r_is_ending_in (n := m) (by omega) (Nat.le_refl _) e2 (h.ends w' r' e2 y hy)]⟩) (line_of (by omega)) ?_
    simp [c3]
theorem r_want_middle {n : Nat} (hn : 23 < n) {M : Mid} (h : MidOk M) (S : Store) : sem G T n 24 [.d (midD M)] S = .ok (.d .none) S := by
  obtain ⟨m, rfl⟩ : ∃ m, n = m + 1 := ⟨n - 1, by omega⟩
  refine ok_of (gets_sem t_want_middle rfl ?_)
  simp [dSs, dS, dE, dEs, dAnd, dOr, dT, Ev.tAnd, Ev.tOr, dU, dN, dB2, dIf, dVar, dCst, dO, dC, dI, dCall, dKall, pick, entry, isiV, isiV2, isTys, isTy, tobV, truO, truV, okIf, datOf, seqOf, lstOf, datas, lstV, tupV, elsOf, Out.bind_ok, f_want_middle, r_is_middle (n := m) (by omega) h]
end HT
end

section
set_option Elab.async false
set_option linter.all false
set_option maxRecDepth 100000
set_option maxHeartbeats 4000000
/-! QP: draws -/
namespace HT
open PySem PySem.Spec L2 Ev
def PotO (o : Ob) : Prop := ∃ a b : Int, o = .lst [.int a, .int b] ∧ 0 ≤ a ∧ 0 ≤ b ∧ b < 2147483587
def Pot (p : Nat) (S : Store) : Prop := ∃ o, S[p]? = some o ∧ PotO o
theorem Pot.lt {p : Nat} {S : Store} (h : Pot p S) : p < S.length := let ⟨_, e, _⟩ := h; (List.getElem?_eq_some_iff.mp e).1
theorem Pot.set {p : Nat} {S : Store} {o : Ob} (h : Pot p S) (ho : PotO o) : Pot p (S.set p o) := ⟨o, List.getElem?_set_self h.lt, ho⟩
theorem Pot.app {p : Nat} {S T : Store} (h : Pot p S) : Pot p (S ++ T) := let ⟨o, e, ho⟩ := h; ⟨o, by rw [List.getElem?_append_left (List.getElem?_eq_some_iff.mp e).1]; exact e, ho⟩
theorem r_draw {n : Nat} (hn : 0 < n) {p : Nat} {m : Int} {S : Store} (h : Pot p S) (hm : 0 < m) (hm2 : m < 1073741824) :
    Gets (sem G T n 32 [.loc p, .d (.int m)] S) fun v S' => ∃ d o, v = .d (.int d) ∧ 0 ≤ d ∧ d < m ∧ PotO o ∧ S' = S.set p o := by
  obtain ⟨n', rfl⟩ : ∃ m, n = m + 1 := ⟨n - 1, by omega⟩
  have hp := h.lt
  obtain ⟨_, hS, a, b, rfl, ha, hb, hb2⟩ := h
  refine gets_sem t_law_draw rfl ?_
  have g1 := fun (o : Ob) => List.getElem?_set_self (l := S) (i := p) (a := o) hp
  simp [dSs, dS, dE, dEs, dAnd, dOr, dT, Ev.tAnd, Ev.tOr, dU, dN, dB2, dIf, dVar, dCst, dO, dC, dI, dCall, dKall, pick, entry, isiV, isiV2, isTys, isTy, tobV, truO, truV, okIf, datOf, seqOf, lstOf, datas, lstV, tupV, elsOf, Out.bind_ok, f_law_draw, atI, unpD, ixN, idx_loc hS, set_loc hS, idx_loc (g1 _), hm, hm2]
  refine ⟨fun _ => ?_, fun _ => ?_⟩
  · exact ⟨Int.emod_nonneg _ (by omega), Int.emod_lt_of_pos _ hm, _, ⟨_, _, rfl, Int.ediv_nonneg ha (by omega), hb, hb2⟩, rfl⟩
  · have e1 := Int.fmod_nonneg_of_pos (b * 39373 + 35073) (b := 2147483587) (by decide)
    have e2 := Int.fmod_lt_of_pos (b * 39373 + 35073) (b := 2147483587) (by decide)
    refine ⟨fun _ _ => ?_, by omega, by omega⟩
    exact ⟨by omega, fun _ => ⟨Int.fmod_nonneg_of_pos _ hm, Int.fmod_lt_of_pos _ hm, _, ⟨_, _, rfl, ha, e1, e2⟩, rfl⟩⟩
/-- some[draw] -/
theorem r_pick {n : Nat} (hn : 1 < n) {p : Nat} {some : List PyData} {S : Store} (h : Pot p S) (h0 : some ≠ []) (hm : some.length < 1073741824) (x : PyData) (hx : x = .list some ∨ x = .tuple some) :
    Gets (sem G T n 33 [.loc p, .d x] S) fun v S' => ∃ d ∈ some, ∃ o, v = .d d ∧ PotO o ∧ S' = S.set p o := by
  obtain ⟨n', rfl⟩ : ∃ m, n = m + 1 := ⟨n - 1, by omega⟩
  refine gets_sem t_law_pick rfl ?_
  have hl : 0 < some.length := List.length_pos_iff.mpr h0
  obtain ⟨v, S', e, d, o, rfl, h1, h2, h3, rfl⟩ := r_draw (n := n') (by omega) h (m := some.length) (by omega) (by omega)
  have hd : d.toNat < some.length := by omega
  have e2 : atI some d = some[d.toNat]? := by
    unfold atI ixN
    rw [if_pos h1, if_pos h2]
    rfl
  rcases hx with rfl | rfl
  · simp [dSs, dS, dE, dEs, dAnd, dOr, dT, Ev.tAnd, Ev.tOr, dU, dN, dB2, dIf, dVar, dCst, dO, dC, dI, dCall, dKall, pick, entry, isiV, isiV2, isTys, isTy, tobV, truO, truV, okIf, datOf, seqOf, lstOf, datas, lstV, tupV, elsOf, Out.bind_ok, f_law_pick, e, e2, List.getElem?_eq_getElem hd]
    exact ⟨_, List.getElem_mem hd, rfl, o, h3, rfl⟩
  · simp [dSs, dS, dE, dEs, dAnd, dOr, dT, Ev.tAnd, Ev.tOr, dU, dN, dB2, dIf, dVar, dCst, dO, dC, dI, dCall, dKall, pick, entry, isiV, isiV2, isTys, isTy, tobV, truO, truV, okIf, datOf, seqOf, lstOf, datas, lstV, tupV, elsOf, Out.bind_ok, f_law_pick, e, e2, List.getElem?_eq_getElem hd]
    exact ⟨_, List.getElem_mem hd, rfl, o, h3, rfl⟩
theorem pot_o (c k : Int) : PotO (.lst [.int (if 1000000000000000000 < c then c - 1000000000000000000 else 0), .int ((c.fmod 2147483549 * 40692 + 21043 * k + 13351).fmod 2147483563 + 1)]) := by
  refine ⟨_, _, rfl, ?_, ?_, ?_⟩
  · split <;> omega
  · have e1 := Int.fmod_nonneg_of_pos (c.fmod 2147483549 * 40692 + 21043 * k + 13351) (b := 2147483563) (by decide)
    omega
  · have e2 := Int.fmod_lt_of_pos (c.fmod 2147483549 * 40692 + 21043 * k + 13351) (b := 2147483563) (by decide)
    omega
/-! ### comprehensions of draws -/
def Rel2 {α β : Type} (R : α → β → Prop) : List α → List β → Prop
  | [], [] => True
  | a :: as, b :: bs => R a b ∧ Rel2 R as bs
  | _, _ => False
theorem Rel2.len {α β : Type} {R : α → β → Prop} : ∀ {as : List α} {bs : List β}, Rel2 R as bs → bs.length = as.length
  | [], [], _ => rfl
  | _ :: _, _ :: _, h => congrArg Nat.succ (Rel2.len h.2)
  | [], _ :: _, h => h.elim
  | _ :: _, [], h => h.elim
theorem Rel2.mem {α β : Type} {R : α → β → Prop} : ∀ {as : List α} {bs : List β}, Rel2 R as bs → ∀ b ∈ bs, ∃ a ∈ as, R a b
  | [], [], _, b, hb => by cases hb
  | a :: as, c :: bs, h, b, hb => by
    rcases List.mem_cons.mp hb with e | hb
    · rw [e]; exact ⟨a, List.mem_cons_self, h.1⟩
    · obtain ⟨x, h1, h2⟩ := Rel2.mem h.2 b hb
      exact ⟨x, List.mem_cons_of_mem _ h1, h2⟩
  | [], _ :: _, h, _, _ => h.elim
  | _ :: _, [], h, _, _ => h.elim
theorem gets_lcR {α : Type} {p : Nat} {w : Itm} {tg : Tg} {elt : TD Val} {ρ : EnvD} {R : α → PyData → Prop} (g : α → Val) (hck : w.n = none) : ∀ (l : List α) (acc : List PyData) (S : Store), acc.length + l.length ≤ sizeLine → Pot p S →
    (∀ a ∈ l, ∀ S, Pot p S → ∃ ρ1, tgt tg (g a) ρ = some ρ1 ∧ Gets (elt ρ1 S) fun x S' => ∃ d o, x = .d d ∧ R a d ∧ PotO o ∧ S' = S.set p o) →
    Gets (lcD w tg (fun _ S => .ok true S) elt ρ (l.map g) acc S) fun ds S' => ∃ es o, ds = acc ++ es ∧ Rel2 R l es ∧ PotO o ∧ S' = S.set p o
  | [], acc, S, _, hp, _ => by
    have hc : w.ck S := by unfold Itm.ck; rw [hck]; trivial
    obtain ⟨o, ho, hpo⟩ := hp
    rw [List.map_nil]
    unfold lcD
    rw [if_pos hc]
    refine ⟨_, _, rfl, [], o, by simp, True.intro, hpo, ?_⟩
    obtain ⟨hl, e⟩ := List.getElem?_eq_some_iff.mp ho
    rw [← e, List.set_getElem_self]
  | a :: l, acc, S, hz, hp, h => by
    have hc : w.ck S := by unfold Itm.ck; rw [hck]; trivial
    obtain ⟨ρ1, h1, x, S1, h2, d, o, rfl, hR, hpo, rfl⟩ := h a List.mem_cons_self S hp
    rw [List.length_cons] at hz
    rw [List.map_cons]
    unfold lcD
    rw [if_pos hc, h1]
    dsimp only
    rw [h2]
    dsimp only
    rw [if_pos (by omega)]
    obtain ⟨ds, S2, e, es, o2, rfl, hr, hp2, rfl⟩ := gets_lcR g hck l (acc ++ [d]) (S.set p o) (by rw [List.length_append, List.length_singleton]; omega) (hp.set hpo) fun b hb => h b (List.mem_cons_of_mem _ hb)
    refine ⟨_, _, e, d :: es, o2, by simp, ⟨hR, hr⟩, hp2, by rw [List.set_set]⟩
/-- a comprehension whose turns draw -/
theorem gets_lcD {α : Type} {p : Nat} {it : TD Itm} {tg : Tg} {own : List Nat} {elt : TD Val} {ρ : EnvD} {R : α → PyData → Prop} {S S0 : Store} {Q : Val → Store → Prop} (g : α → Val) (l : List α) (hi : it ρ S0 = .ok ⟨l.map g, none⟩ S) (hz : l.length ≤ sizeLine) (hp : Pot p S)
    (h : ∀ a ∈ l, ∀ S, Pot p S → ∃ ρ1, tgt tg (g a) (wipeD ρ own) = some ρ1 ∧ Gets (elt ρ1 S) fun x S' => ∃ d o, x = .d d ∧ R a d ∧ PotO o ∧ S' = S.set p o)
    (q : ∀ es o, Rel2 R l es → PotO o → Q (.d (.list es)) (S.set p o)) : Gets (dLc false it own tg (fun _ S => .ok true S) elt ρ S0) Q := by
  refine gets_dLc ⟨_, _, hi, ?_⟩
  obtain ⟨ds, S2, e, es, o, rfl, hr, hp2, rfl⟩ := gets_lcR (w := ⟨l.map g, none⟩) g rfl l [] S (by simpa using hz) hp h
  refine ⟨_, _, e, ?_⟩
  simp
  exact q _ o hr hp2
/-- .. over range(k) -/
theorem gets_lcN {p : Nat} {it : TD Itm} {tg : Tg} {own : List Nat} {elt : TD Val} {ρ : EnvD} {R : PyData → Prop} {S S0 : Store} {Q : Val → Store → Prop} (lo : Int) (k : Nat) (hi : it ρ S0 = .ok (rngI lo k) S) (hz : k ≤ sizeLine) (hp : Pot p S)
    (h : ∀ i, i < k → ∀ S, Pot p S → ∃ ρ1, tgt tg (.d (.int (lo + (i : Int)))) (wipeD ρ own) = some ρ1 ∧ Gets (elt ρ1 S) fun x S' => ∃ d o, x = .d d ∧ R d ∧ PotO o ∧ S' = S.set p o)
    (q : ∀ es o, es.length = k → (∀ d ∈ es, R d) → PotO o → Q (.d (.list es)) (S.set p o)) : Gets (dLc false it own tg (fun _ S => .ok true S) elt ρ S0) Q := by
  refine gets_lcD (R := fun _ d => R d) (fun (i : Nat) => Val.d (.int (lo + (i : Int)))) (List.range k) hi (by simpa using hz) hp (fun i hi => h i (List.mem_range.mp hi)) fun es o hr ho => q es o (by simpa using hr.len) (fun d hd => ?_) ho
  obtain ⟨_, _, h⟩ := hr.mem d hd
  exact h
end HT
end

section
set_option Elab.async false
set_option linter.all false
set_option maxRecDepth 100000
set_option maxHeartbeats 4000000
/-! CL: data that equality can look at -/
namespace HT
open PySem PySem.Spec L2 Ev
def Cl (k : Nat) (d : PyData) : Prop := d.canLay0 = true ∧ d.depth ≤ k
theorem Cl.all {k : Nat} : ∀ {ds : List PyData}, (∀ d ∈ ds, Cl k d) → PyData.canLayAll0 ds = true ∧ PyData.depthAll ds ≤ k
  | [], _ => ⟨rfl, Nat.zero_le _⟩
  | d :: ds, h => by
    obtain ⟨h1, h2⟩ := Cl.all (ds := ds) fun x hx => h x (List.mem_cons_of_mem _ hx)
    have h3 := h d List.mem_cons_self
    refine ⟨by unfold PyData.canLayAll0; rw [h3.1, h1] <;> rfl, by unfold PyData.depthAll; exact Nat.max_le.mpr ⟨h3.2, h2⟩⟩
theorem Cl.tup {k : Nat} {ds : List PyData} (h : ∀ d ∈ ds, Cl k d) : Cl (k + 1) (.tuple ds) := by
  obtain ⟨h1, h2⟩ := Cl.all h
  exact ⟨by unfold PyData.canLay0; exact h1, by unfold PyData.depth; exact Nat.succ_le_succ h2⟩
theorem Cl.list {k : Nat} {ds : List PyData} (h : ∀ d ∈ ds, Cl k d) : Cl (k + 1) (.list ds) := by
  obtain ⟨h1, h2⟩ := Cl.all h
  exact ⟨by unfold PyData.canLay0; exact h1, by unfold PyData.depth; exact Nat.succ_le_succ h2⟩
theorem Cl.int {k : Nat} {i : Int} : Cl k (.int i) := ⟨rfl, Nat.zero_le _⟩
theorem Cl.str {k : Nat} {x : Str} (h : PyData.strOk x = true) : Cl k (.str x) := ⟨by unfold PyData.canLay0; exact h, Nat.zero_le _⟩
theorem Cl.up {k j : Nat} {d : PyData} (h : Cl k d) (hk : k ≤ j) : Cl j d := ⟨h.1, Nat.le_trans h.2 hk⟩
theorem Cl.sh {d : PyData} (h : Cl 64 d) : SeqAt.shaped d = true := by
  unfold SeqAt.shaped
  rw [h.1, Bool.true_and]
  exact decide_eq_true h.2
theorem g_cl {zs : List Int} : ∀ {d : Nat} {g : PyData}, GOk zs d g → Cl (2 * d) g
  | 0, _, h => h.elim
  | d + 1, g, h => by
    have up : ∀ {k : PyData}, Cl 1 k → Cl (2 * (d + 1)) k := fun h => h.up (by omega)
    rcases h with ⟨v, x, z, rfl, _⟩ | ⟨a, b, rfl, _⟩ | ⟨k, rfl, hk⟩ | ⟨gs, rfl, _, hk⟩ | ⟨gs, rfl, _, hk⟩
    · refine up (Cl.tup (k := 0) fun e he => ?_)
      simp at he
      rcases he with rfl | rfl | rfl
      · exact .str (by simp)
      · exact .int
      · exact .int
    · refine up (Cl.tup (k := 0) fun e he => ?_)
      simp at he
      rcases he with rfl | rfl | rfl
      · exact .str (by simp)
      · exact .int
      · exact .int
    · refine (Cl.tup (k := 2 * d) fun e he => ?_).up (by omega)
      simp at he
      rcases he with rfl | rfl
      · exact .str (by simp)
      · exact g_cl hk
    · refine (Cl.tup (k := 2 * d + 1) fun e he => ?_).up (by omega)
      simp at he
      rcases he with rfl | rfl
      · exact .str (by simp)
      · exact .tup fun k hm => g_cl (hk k hm)
    · refine (Cl.tup (k := 2 * d + 1) fun e he => ?_).up (by omega)
      simp at he
      rcases he with rfl | rfl
      · exact .str (by simp)
      · exact .tup fun k hm => g_cl (hk k hm)
theorem txt_ok {x : Str} (h : Txt x) : PyData.strOk x = true := by
  unfold PyData.strOk
  rw [Array.all_eq_true_iff_forall_mem]
  intro c hc
  have := h.2.2 c (by simpa using hc)
  simp
  omega
theorem act_cl {zs : List Int} {a : PyData} (h : ActOk zs a) : Cl 1 a := by
  rcases h with ⟨v, x, z, rfl, _⟩ | ⟨v, u, z, y, rfl, _⟩
  · refine Cl.tup (k := 0) fun e he => ?_
    simp at he
    rcases he with rfl | rfl | rfl
    · exact .str (by simp)
    · exact .int
    · exact .int
  · refine Cl.tup (k := 0) fun e he => ?_
    simp at he
    rcases he with rfl | rfl | rfl
    · exact .str (by simp)
    · exact .int
    · exact .int
theorem say_cl {s : PyData} (h : SayOk s) : Cl 1 s := by
  rcases h with ⟨x, hx, rfl⟩ | rfl | rfl
  · refine Cl.tup (k := 0) fun e he => ?_
    simp at he
    rcases he with rfl | rfl
    · exact .str (by simp)
    · exact .str (txt_ok hx)
  · exact Cl.tup (k := 0) fun e he => by simp at he; subst he; exact .str (by simp)
  · exact Cl.tup (k := 0) fun e he => by simp at he; subst he; exact .str (by simp)
theorem do_cl {zs : List Int} {r : Do} (h : DoOk zs 14 r) : Cl 30 (doD r) := by
  refine Cl.tup (k := 29) fun e he => ?_
  simp at he
  rcases he with rfl | rfl | rfl
  · exact (g_cl h.g).up (by decide)
  · exact (Cl.tup fun a ha => act_cl (h.as a ha)).up (by decide)
  · exact (Cl.tup fun a ha => say_cl (h.ss a ha)).up (by decide)
theorem en_cl {zs : List Int} {z : Int} {e : En0} (h : EnOk zs 14 z e) : Cl 30 (enD e) := by
  refine Cl.tup (k := 29) fun e he => ?_
  simp at he
  rcases he with rfl | rfl | rfl
  · exact .int
  · exact (g_cl h.g).up (by decide)
  · exact (Cl.tup fun a ha => say_cl (h.ss a ha)).up (by decide)
/-- a list is told from the empty one -/
theorem ne_nil {ds : List PyData} (h : ∀ d ∈ ds, Cl 63 d) (S : Store) : cmpV .NotEq (.d (.list ds)) (.d (.list [])) S = .ok (.d (.bool (!ds.isEmpty))) S := by
  rw [ne_dd (Cl.list h).sh (by decide +kernel)]
  cases ds <;> simp [PyData.eqv, PyData.eqvAll]
end HT
end

section
set_option Elab.async false
set_option linter.all false
set_option maxRecDepth 100000
set_option maxHeartbeats 4000000
/-! B1: boxes, what they tell -/
namespace HT
open PySem PySem.Spec L2 Ev
@[simp] theorem is_bn {b : Bool} {S : Store} : cmpV .Is (.d (.bool b)) (.d .none) S = .ok (.d (.bool false)) S := rfl
@[simp] theorem isnot_bn {b : Bool} {S : Store} : cmpV .IsNot (.d (.bool b)) (.d .none) S = .ok (.d (.bool true)) S := rfl
@[simp] theorem is_bb {a b : Bool} {S : Store} : cmpV .Is (.d (.bool a)) (.d (.bool b)) S = .ok (.d (.bool (decide (a = b)))) S := rfl
@[simp] theorem is_nb {b : Bool} {S : Store} : cmpV .Is (.d .none) (.d (.bool b)) S = .ok (.d (.bool false)) S := rfl
@[simp] theorem eq_bb {a b : Bool} {S : Store} : cmpV .Eq (.d (.bool a)) (.d (.bool b)) S = .ok (.d (.bool (a == b))) S := by rw [eq_dd rfl rfl, eqv_bool]
@[simp] theorem ne_bb {a b : Bool} {S : Store} : cmpV .NotEq (.d (.bool a)) (.d (.bool b)) S = .ok (.d (.bool (!(a == b)))) S := by rw [ne_dd rfl rfl, eqv_bool]
theorem any_int (x : Int) : ∀ s : List Int, ((s.map PyData.int).any fun z => PyData.eqv z (.int x)) = decide (x ∈ s)
  | [] => rfl
  | y :: s => by
    rw [List.map_cons, List.any_cons, any_int x s, eqv_int]
    by_cases h : y = x
    · subst h; simp
    · have h2 : ¬ x = y := fun z => h z.symm
      simp [h, h2]
theorem cl_ints {s : List Int} {k : Nat} : ∀ d ∈ s.map PyData.int, Cl k d := fun d hd => by
  obtain ⟨x, _, rfl⟩ := List.mem_map.mp hd
  exact .int
theorem sh_list {ds : List PyData} (h : ∀ d ∈ ds, Cl 63 d) : SeqAt.shaped (.list ds) = true := (Cl.list h).sh
@[simp] theorem in_ints {x : Int} {s : List Int} {S : Store} : cmpV .In (.d (.int x)) (.d (Ints s)) S = .ok (.d (.bool (decide (x ∈ s)))) S := by
  show okIf (SeqAt.shaped (.int x) = true ∧ SeqAt.shaped (.list (s.map PyData.int)) = true) _ S = _
  unfold okIf
  rw [if_pos ⟨rfl, sh_list cl_ints⟩, any_int]
@[simp] theorem notin_ints {x : Int} {s : List Int} {S : Store} : cmpV .NotIn (.d (.int x)) (.d (Ints s)) S = .ok (.d (.bool (!decide (x ∈ s)))) S := by
  show okIf (SeqAt.shaped (.int x) = true ∧ SeqAt.shaped (.list (s.map PyData.int)) = true) _ S = _
  unfold okIf
  rw [if_pos ⟨rfl, sh_list cl_ints⟩, any_int]
/-- told: true, false, or nothing -/
def toldD : Option Bool → PyData
  | none => .none
  | some t => .bool t
theorem told_cl {k : Nat} (t : Option Bool) : Cl k (toldD t) := by
  cases t with
  | none => exact ⟨rfl, Nat.zero_le _⟩
  | some t => exact ⟨rfl, Nat.zero_le _⟩
theorem eqv_told (t u : Option Bool) : PyData.eqv (toldD t) (toldD u) = decide (t = u) := by
  cases t <;> cases u <;> simp [toldD, PyData.eqv]
  rename_i a b
  cases a <;> cases b <;> rfl
theorem any_told {α : Type} (f : α → Option Bool) (u : Option Bool) : ∀ s : List α, ((s.map fun x => toldD (f x)).any fun z => PyData.eqv z (toldD u)) = decide (u ∈ s.map f)
  | [] => rfl
  | y :: s => by
    rw [List.map_cons, List.any_cons, any_told f u s, eqv_told]
    by_cases h : f y = u
    · simp [h]
    · have h2 : ¬ u = f y := fun z => h z.symm
      simp [h, h2]
theorem in_told {α : Type} (f : α → Option Bool) (u : Option Bool) (s : List α) (S : Store) : cmpV .In (.d (toldD u)) (.d (.list (s.map fun x => toldD (f x)))) S = .ok (.d (.bool (decide (u ∈ s.map f)))) S := by
  have h1 : SeqAt.shaped (toldD u) = true := (told_cl u).sh
  have h2 : SeqAt.shaped (.list (s.map fun x => toldD (f x))) = true := sh_list fun d hd => by
    obtain ⟨x, _, rfl⟩ := List.mem_map.mp hd
    exact told_cl _
  have h3 : cmpV .In (.d (toldD u)) (.d (.list (s.map fun x => toldD (f x)))) S = okIf (SeqAt.shaped (toldD u) = true ∧ SeqAt.shaped (.list (s.map fun x => toldD (f x))) = true) (.bool ((s.map fun x => toldD (f x)).any fun z => PyData.eqv z (toldD u))) S := rfl
  rw [h3]
  unfold okIf
  rw [if_pos ⟨h1, h2⟩, any_told]
theorem in_told_f {α : Type} (f : α → Option Bool) (s : List α) (b : Bool) (S : Store) : cmpV .In (.d (.bool b)) (.d (.list (s.map fun x => toldD (f x)))) S = .ok (.d (.bool (decide (some b ∈ s.map f)))) S := in_told f (some b) s S
theorem in_told_n {α : Type} (f : α → Option Bool) (s : List α) (S : Store) : cmpV .In (.d .none) (.d (.list (s.map fun x => toldD (f x)))) S = .ok (.d (.bool (decide (none ∈ s.map f)))) S := in_told f none s S
/-! ### boxes -/
structure LotOk (z : Int) (s : List Int) : Prop where
  up : s.Pairwise (· < ·)
  within : ∀ x ∈ s, 0 ≤ x ∧ x < z
  ne : s ≠ []
  few : s.length ≤ 100
abbrev boxD (b : List (List Int)) : PyData := .tuple (b.map Ints)
abbrev BoxOk (zs : List Int) (b : List (List Int)) : Prop := Rel2 LotOk zs b
theorem Rel2.get {α β : Type} {R : α → β → Prop} : ∀ {as : List α} {bs : List β} {i : Nat} {a : α}, Rel2 R as bs → as[i]? = some a → ∃ b, bs[i]? = some b ∧ R a b
  | [], [], i, a, _, e => by simp at e
  | x :: as, y :: bs, 0, a, h, e => by simp at e; subst e; exact ⟨y, rfl, h.1⟩
  | x :: as, y :: bs, i + 1, a, h, e => by
    obtain ⟨u, h1, h2⟩ := Rel2.get (i := i) h.2 (by simpa using e)
    exact ⟨u, by simpa using h1, h2⟩
  | [], _ :: _, _, _, h, _ => h.elim
  | _ :: _, [], _, _, h, _ => h.elim
theorem box_at {b : List (List Int)} {i : Nat} {s : List Int} (h : b[i]? = some s) : atI (b.map Ints) (i : Int) = some (Ints s) := atI_nat (by rw [List.getElem?_map, h]; rfl)
def allT (ts : List (Option Bool)) (due : Bool) : Option Bool := if some due ∈ ts then some due else if none ∈ ts then none else some (!due)
def sameT (s t : List Int) (e : Bool) : Option Bool := if s.any (fun y => decide (y ∈ t)) = true then (if e = true ∨ (s.length = 1 ∧ t.length = 1) then some true else none) else some false
/-- what a box tells of a guard -/
def told (b : List (List Int)) : Nat → PyData → Option Bool
  | 0, _ => none
  | d + 1, g => match g with
    | .tuple [.str w, .int a, .int x] => if w = "is" then (if x ∈ b.getD a.toNat [] then (if (b.getD a.toNat []).length = 1 then some true else none) else some false)
      else sameT (b.getD a.toNat []) (b.getD x.toNat []) (decide (a = x))
    | .tuple [.str w, h] => if w = "not" then (told b d h).map (!·) else match h with
      | .tuple gs => if w = "all" then allT (gs.map (told b d)) false else allT (gs.map (told b d)) true
      | _ => none
    | _ => none
theorem g_all : G[0]? = some (.str "all") := rfl
theorem g_not : G[1]? = some (.str "not") := rfl
theorem g_same : G[2]? = some (.str "same") := rfl
theorem g_is : G[3]? = some (.str "is") := rfl
theorem r_truth_in {zs : List Int} {b : List (List Int)} (hb : BoxOk zs b) : ∀ (d : Nat) (g : PyData), GOk zs d g → ∀ (n : Nat), d < n → ∀ S, sem G T n 6 [.d (boxD b), .d g] S = .ok (.d (toldD (told b d g))) S
  | 0, _, h, _, _, _ => h.elim
  | d + 1, g, h, n, hn, S => by
    obtain ⟨m, rfl⟩ : ∃ m, n = m + 1 := ⟨n - 1, by omega⟩
    refine ok_of (gets_sem t_truth_in rfl ?_)
    rcases h with ⟨v, x, z, rfl, hz, h0, h1⟩ | ⟨a, c, rfl, ha, hc⟩ | ⟨k, rfl, hk⟩ | ⟨gs, rfl, hl, hk⟩ | ⟨gs, rfl, hl, hk⟩
    · obtain ⟨s, hs, ok⟩ := hb.get hz
      simp [dSs, dS, dE, dEs, dAnd, dOr, dT, Ev.tAnd, Ev.tOr, dU, dN, dB2, dIf, dVar, dCst, dO, dC, dI, dCall, dKall, pick, entry, isiV, isiV2, isTys, isTy, tobV, truO, truV, okIf, datOf, seqOf, lstOf, datas, lstV, tupV, elsOf, Out.bind_ok, f_truth_in, tgt, g_is, box_at hs, told, hs]
      by_cases hx : x ∈ s
      · by_cases h1 : s.length = 1
        · simp [hx, h1, toldD]
        · have h2 : ¬ (s.length : Int) = 1 := by omega
          simp [hx, h1, h2, toldD]
      · simp [hx, toldD]
    · obtain ⟨s, hs, ok⟩ := hb.get (List.getElem?_eq_getElem ha)
      obtain ⟨t, ht, ok2⟩ := hb.get (List.getElem?_eq_getElem hc)
      simp [dSs, dS, dE, dEs, dAnd, dOr, dT, Ev.tAnd, Ev.tOr, dU, dN, dB2, dIf, dVar, dCst, dO, dC, dI, dCall, dKall, pick, entry, isiV, isiV2, isTys, isTy, tobV, truO, truV, okIf, datOf, seqOf, lstOf, datas, lstV, tupV, elsOf, Out.bind_ok, f_truth_in, tgt, setAll, g_is, g_same, box_at hs, box_at ht, told, hs, ht]
      refine gets_each (fun k : Int => Val.d (.int k)) (fun k => .bool (decide (k ∈ t))) s (n := none) (S := S) (by simp [dSs, dS, dE, dEs, dAnd, dOr, dT, Ev.tAnd, Ev.tOr, dU, dN, dB2, dIf, dVar, dCst, dO, dC, dI, dCall, dKall, pick, entry, isiV, isiV2, isTys, isTy, tobV, truO, truV, okIf, datOf, seqOf, lstOf, datas, lstV, tupV, elsOf, Out.bind_ok]) (by simp) (fun k hm => ⟨_, rfl, by simp [dSs, dS, dE, dEs, dAnd, dOr, dT, Ev.tAnd, Ev.tOr, dU, dN, dB2, dIf, dVar, dCst, dO, dC, dI, dCall, dKall, pick, entry, isiV, isiV2, isTys, isTy, tobV, truO, truV, okIf, datOf, seqOf, lstOf, datas, lstV, tupV, elsOf, Out.bind_ok, wipeD]⟩) (line_of (by have := ok.few; omega)) ?_
      simp [-List.any_eq_true, -List.any_eq_false, dSs, dS, dE, dEs, dAnd, dOr, dT, Ev.tAnd, Ev.tOr, dU, dN, dB2, dIf, dVar, dCst, dO, dC, dI, dCall, dKall, pick, entry, isiV, isiV2, isTys, isTy, tobV, truO, truV, okIf, datOf, seqOf, lstOf, datas, lstV, tupV, elsOf, Out.bind_ok, Function.comp_def]
      have e1 : ((s.length : Int) = 1) ↔ s.length = 1 := by omega
      have e2 : ((t.length : Int) = 1) ↔ t.length = 1 := by omega
      rw [e1, e2]
      unfold sameT
      cases s.any fun y => decide (y ∈ t) with
      | false => simp [toldD]
      | true =>
        by_cases h1 : (a : Int) = c
        · simp [h1, toldD]
        · by_cases h2 : s.length = 1
          · by_cases h3 : t.length = 1
            · simp [h1, h2, h3, toldD]
            · simp [h1, h2, h3, toldD]
          · simp [h1, h2, toldD]
    · have ih := r_truth_in hb d k hk m (by omega)
      simp [dSs, dS, dE, dEs, dAnd, dOr, dT, Ev.tAnd, Ev.tOr, dU, dN, dB2, dIf, dVar, dCst, dO, dC, dI, dCall, dKall, pick, entry, isiV, isiV2, isTys, isTy, tobV, truO, truV, okIf, datOf, seqOf, lstOf, datas, lstV, tupV, elsOf, Out.bind_ok, f_truth_in, tgt, g_is, g_same, g_not, ih, told]
      cases told b d k with
      | none => simp [toldD]
      | some t => simp [toldD]
    · simp [dSs, dS, dE, dEs, dAnd, dOr, dT, Ev.tAnd, Ev.tOr, dU, dN, dB2, dIf, dVar, dCst, dO, dC, dI, dCall, dKall, pick, entry, isiV, isiV2, isTys, isTy, tobV, truO, truV, okIf, datOf, seqOf, lstOf, datas, lstV, tupV, elsOf, Out.bind_ok, f_truth_in, tgt, g_is, g_same, g_not]
      refine gets_each (fun k : PyData => Val.d k) (fun k => toldD (told b d k)) gs (n := none) (S := S) (by simp [dSs, dS, dE, dEs, dAnd, dOr, dT, Ev.tAnd, Ev.tOr, dU, dN, dB2, dIf, dVar, dCst, dO, dC, dI, dCall, dKall, pick, entry, isiV, isiV2, isTys, isTy, tobV, truO, truV, okIf, datOf, seqOf, lstOf, datas, lstV, tupV, elsOf, Out.bind_ok]) (by simp) (fun k hm => ⟨_, rfl, by simp [dSs, dS, dE, dEs, dAnd, dOr, dT, Ev.tAnd, Ev.tOr, dU, dN, dB2, dIf, dVar, dCst, dO, dC, dI, dCall, dKall, pick, entry, isiV, isiV2, isTys, isTy, tobV, truO, truV, okIf, datOf, seqOf, lstOf, datas, lstV, tupV, elsOf, Out.bind_ok, wipeD, r_truth_in hb d k (hk k hm) m (by omega)]⟩) (line_of (by omega)) ?_
      simp [-List.mem_map, dSs, dS, dE, dEs, dAnd, dOr, dT, Ev.tAnd, Ev.tOr, dU, dN, dB2, dIf, dVar, dCst, dO, dC, dI, dCall, dKall, pick, entry, isiV, isiV2, isTys, isTy, tobV, truO, truV, okIf, datOf, seqOf, lstOf, datas, lstV, tupV, elsOf, Out.bind_ok, g_all, in_told_f, in_told_n, told, allT]
      generalize gs.map (told b d) = ts
      by_cases h1 : some false ∈ ts
      · simp [h1, toldD]
      · by_cases h2 : none ∈ ts
        · simp [h1, h2, toldD]
        · simp [h1, h2, toldD]
    · simp [dSs, dS, dE, dEs, dAnd, dOr, dT, Ev.tAnd, Ev.tOr, dU, dN, dB2, dIf, dVar, dCst, dO, dC, dI, dCall, dKall, pick, entry, isiV, isiV2, isTys, isTy, tobV, truO, truV, okIf, datOf, seqOf, lstOf, datas, lstV, tupV, elsOf, Out.bind_ok, f_truth_in, tgt, g_is, g_same, g_not]
      refine gets_each (fun k : PyData => Val.d k) (fun k => toldD (told b d k)) gs (n := none) (S := S) (by simp [dSs, dS, dE, dEs, dAnd, dOr, dT, Ev.tAnd, Ev.tOr, dU, dN, dB2, dIf, dVar, dCst, dO, dC, dI, dCall, dKall, pick, entry, isiV, isiV2, isTys, isTy, tobV, truO, truV, okIf, datOf, seqOf, lstOf, datas, lstV, tupV, elsOf, Out.bind_ok]) (by simp) (fun k hm => ⟨_, rfl, by simp [dSs, dS, dE, dEs, dAnd, dOr, dT, Ev.tAnd, Ev.tOr, dU, dN, dB2, dIf, dVar, dCst, dO, dC, dI, dCall, dKall, pick, entry, isiV, isiV2, isTys, isTy, tobV, truO, truV, okIf, datOf, seqOf, lstOf, datas, lstV, tupV, elsOf, Out.bind_ok, wipeD, r_truth_in hb d k (hk k hm) m (by omega)]⟩) (line_of (by omega)) ?_
      simp [-List.mem_map, dSs, dS, dE, dEs, dAnd, dOr, dT, Ev.tAnd, Ev.tOr, dU, dN, dB2, dIf, dVar, dCst, dO, dC, dI, dCall, dKall, pick, entry, isiV, isiV2, isTys, isTy, tobV, truO, truV, okIf, datOf, seqOf, lstOf, datas, lstV, tupV, elsOf, Out.bind_ok, g_all, in_told_f, in_told_n, told, allT]
      generalize gs.map (told b d) = ts
      by_cases h1 : some true ∈ ts
      · simp [h1, toldD]
      · by_cases h2 : none ∈ ts
        · simp [h1, h2, toldD]
        · simp [h1, h2, toldD]
end HT
end

section
set_option Elab.async false
set_option linter.all false
set_option maxRecDepth 100000
set_option maxHeartbeats 4000000
/-! B2: the checks of a box, the law's own telling -/
namespace HT
open PySem PySem.Spec L2 Ev
theorem rise_zip : ∀ {s : List Int}, s.Pairwise (· < ·) → ∀ p ∈ s.zip (s.drop 1), p.1 < p.2
  | [], _, p, hp => by simp at hp
  | [x], _, p, hp => by simp at hp
  | x :: y :: s, h, p, hp => by
    obtain ⟨h1, h2⟩ := List.pairwise_cons.mp h
    simp at hp
    rcases hp with rfl | hp
    · exact h1 y (by simp)
    · exact rise_zip h2 p (by simpa using hp)
theorem zip_ints (s t : List Int) : ((s.map PyData.int).zip (t.map PyData.int)).map (fun p => Val.d (.tuple [p.1, p.2])) = (s.zip t).map fun p => Val.d (.tuple [.int p.1, .int p.2]) := by
  rw [List.zip_map, List.map_map]
  rfl
theorem r_are_rising {n : Nat} (hn : 0 < n) {z : Int} {s : List Int} (h : LotOk z s) (S : Store) : sem G T n 3 [.d (Ints s)] S = .ok (.d (.bool true)) S := by
  obtain ⟨m, rfl⟩ : ∃ m, n = m + 1 := ⟨n - 1, by omega⟩
  refine ok_of (gets_sem t_are_rising rfl ?_)
  have hf := h.few
  have e1 : cutL s (some 1) none = s.drop 1 := cut_from s 1
  simp [dSs, dS, dE, dEs, dAnd, dOr, dT, Ev.tAnd, Ev.tOr, dU, dN, dB2, dIf, dVar, dCst, dO, dC, dI, dCall, dKall, pick, entry, isiV, isiV2, isTys, isTy, tobV, truO, truV, okIf, datOf, seqOf, lstOf, datas, lstV, tupV, elsOf, Out.bind_ok, f_are_rising, e1]
  refine gets_each (fun p : Int × Int => Val.d (.tuple [.int p.1, .int p.2])) (fun _ => .bool true) (s.zip (s.drop 1)) (n := none) (S := S) (by rw [← zip_ints]; simp [dSs, dS, dE, dEs, dAnd, dOr, dT, Ev.tAnd, Ev.tOr, dU, dN, dB2, dIf, dVar, dCst, dO, dC, dI, dCall, dKall, pick, entry, isiV, isiV2, isTys, isTy, tobV, truO, truV, okIf, datOf, seqOf, lstOf, datas, lstV, tupV, elsOf, Out.bind_ok, e1]) (by simp) (fun p hp => ⟨_, rfl, ?_⟩) (line_of (by simp; omega)) ?_
  · have := rise_zip h.up p hp
    simp [dSs, dS, dE, dEs, dAnd, dOr, dT, Ev.tAnd, Ev.tOr, dU, dN, dB2, dIf, dVar, dCst, dO, dC, dI, dCall, dKall, pick, entry, isiV, isiV2, isTys, isTy, tobV, truO, truV, okIf, datOf, seqOf, lstOf, datas, lstV, tupV, elsOf, Out.bind_ok, wipeD, setAll, this]
  · simp
theorem r_is_lot_of {n : Nat} (hn : 2 < n) {z : Int} {s : List Int} (h : LotOk z s) (S : Store) : sem G T n 4 [.d (Ints s), .d (.int z)] S = .ok (.d (.bool true)) S := by
  obtain ⟨m, rfl⟩ : ∃ m, n = m + 1 := ⟨n - 1, by omega⟩
  refine ok_of (gets_sem t_is_lot_of rfl ?_)
  have hf := h.few
  simp [dSs, dS, dE, dEs, dAnd, dOr, dT, Ev.tAnd, Ev.tOr, dU, dN, dB2, dIf, dVar, dCst, dO, dC, dI, dCall, dKall, pick, entry, isiV, isiV2, isTys, isTy, tobV, truO, truV, okIf, datOf, seqOf, lstOf, datas, lstV, tupV, elsOf, Out.bind_ok, f_is_lot_of, r_are_rising (n := m) (by omega) h]
  refine gets_each (fun p : Int => Val.d (.int p)) (fun _ => .bool true) s (n := none) (S := S) (by simp [dSs, dS, dE, dEs, dAnd, dOr, dT, Ev.tAnd, Ev.tOr, dU, dN, dB2, dIf, dVar, dCst, dO, dC, dI, dCall, dKall, pick, entry, isiV, isiV2, isTys, isTy, tobV, truO, truV, okIf, datOf, seqOf, lstOf, datas, lstV, tupV, elsOf, Out.bind_ok]) (by simp) (fun p hp => ⟨_, rfl, ?_⟩) (line_of (by omega)) ?_
  · obtain ⟨h1, h2⟩ := h.within p hp
    simp [dSs, dS, dE, dEs, dAnd, dOr, dT, Ev.tAnd, Ev.tOr, dU, dN, dB2, dIf, dVar, dCst, dO, dC, dI, dCall, dKall, pick, entry, isiV, isiV2, isTys, isTy, tobV, truO, truV, okIf, datOf, seqOf, lstOf, datas, lstV, tupV, elsOf, Out.bind_ok, wipeD, r_is_within (n := m) (by omega), within]
    omega
  · simp
theorem ne_nilT {s : List Int} {S : Store} : cmpV .NotEq (.d (Ints s)) (.d (.tuple [])) S = .ok (.d (.bool (!s.isEmpty))) S := by
  rw [ne_dd (Cl.tup cl_ints).sh (by decide +kernel)]
  cases s <;> simp [PyData.eqv, PyData.eqvAll]
theorem eq_nilL {s : List Int} {S : Store} : cmpV .Eq (.d (.list (s.map PyData.int))) (.d (.list [])) S = .ok (.d (.bool s.isEmpty)) S := by
  rw [eq_dd (Cl.list cl_ints).sh (by decide +kernel)]
  cases s <;> simp [PyData.eqv, PyData.eqvAll]
theorem Rel2.zip {α β : Type} {R : α → β → Prop} : ∀ {as : List α} {bs : List β}, Rel2 R as bs → ∀ p ∈ bs.zip as, R p.2 p.1
  | [], [], _, p, hp => by simp at hp
  | a :: as, b :: bs, h, p, hp => by
    rw [List.zip_cons_cons] at hp
    rcases List.mem_cons.mp hp with rfl | hp
    · exact h.1
    · exact Rel2.zip h.2 p hp
  | [], _ :: _, h, _, _ => h.elim
  | _ :: _, [], h, _, _ => h.elim
theorem Rel2.map_l {α α' β : Type} {f : α → α'} {R : α' → β → Prop} : ∀ {as : List α} {bs : List β}, Rel2 R (as.map f) bs ↔ Rel2 (fun a b => R (f a) b) as bs
  | [], [] => Iff.rfl
  | a :: as, b :: bs => and_congr Iff.rfl Rel2.map_l
  | [], _ :: _ => Iff.rfl
  | _ :: _, [] => Iff.rfl
theorem r_is_box_of {n : Nat} (hn : 3 < n) {M : Mid} (hM : MidOk M) {b : List (List Int)} (h : BoxOk (szs M.vars) b) (S : Store) : sem G T n 5 [.d (midD M), .d (boxD b)] S = .ok (.d (.bool true)) S := by
  obtain ⟨m, rfl⟩ : ∃ m, n = m + 1 := ⟨n - 1, by omega⟩
  refine ok_of (gets_sem t_is_box_of rfl ?_)
  have hl := h.len
  have hf := hM.vars.few
  simp at hl
  have hz := Rel2.zip (Rel2.map_l.mp (show Rel2 LotOk (M.vars.map fun v => (v.2.length : Int)) b from h))
  simp [dSs, dS, dE, dEs, dAnd, dOr, dT, Ev.tAnd, Ev.tOr, dU, dN, dB2, dIf, dVar, dCst, dO, dC, dI, dCall, dKall, pick, entry, isiV, isiV2, isTys, isTy, tobV, truO, truV, okIf, datOf, seqOf, lstOf, datas, lstV, tupV, elsOf, Out.bind_ok, f_is_box_of, hl]
  refine gets_each (fun p : List Int × Va => Val.d (.tuple [Ints p.1, varD p.2])) (fun _ => .bool true) (b.zip M.vars) (n := none) (S := S) (by simp [dSs, dS, dE, dEs, dAnd, dOr, dT, Ev.tAnd, Ev.tOr, dU, dN, dB2, dIf, dVar, dCst, dO, dC, dI, dCall, dKall, pick, entry, isiV, isiV2, isTys, isTy, tobV, truO, truV, okIf, datOf, seqOf, lstOf, datas, lstV, tupV, elsOf, Out.bind_ok, List.zip_map, List.map_map, Function.comp_def, Prod.map, List.zipWith_map, List.zip]) (by simp) (fun p hp => ⟨_, rfl, ?_⟩) (line_of (by simp; omega)) ?_
  · have q := hz p hp
    have q2 : p.1 ≠ [] := q.ne
    simp [dSs, dS, dE, dEs, dAnd, dOr, dT, Ev.tAnd, Ev.tOr, dU, dN, dB2, dIf, dVar, dCst, dO, dC, dI, dCall, dKall, pick, entry, isiV, isiV2, isTys, isTy, tobV, truO, truV, okIf, datOf, seqOf, lstOf, datas, lstV, tupV, elsOf, Out.bind_ok, wipeD, setAll, r_is_lot_of (n := m) (by omega) q, ne_nilT, q2]
  · simp
theorem r_want_guard_box {n : Nat} (hn : 24 < n) {M : Mid} (hM : MidOk M) {b : List (List Int)} (h : BoxOk (szs M.vars) b) {d : Nat} {g : PyData} (hd : d ≤ 14) (hg : GOk (szs M.vars) d g) (S : Store) : sem G T n 28 [.d (midD M), .d (boxD b), .d g] S = .ok (.d .none) S := by
  obtain ⟨m, rfl⟩ : ∃ m, n = m + 1 := ⟨n - 1, by omega⟩
  refine ok_of (gets_sem t_want_guard_box rfl ?_)
  have hz : G[5]? = some (.int 14) := rfl
  have a1 := fun S => r_want_middle (n := m) (by omega) hM S
  have a2 := fun S => r_is_box_of (n := m) (by omega) hM h S
  have a3 := fun S => r_is_guard_in d g hg m (by omega) 14 (by omega) S
  simp [dSs, dS, dE, dEs, dAnd, dOr, dT, Ev.tAnd, Ev.tOr, dU, dN, dB2, dIf, dVar, dCst, dO, dC, dI, dCall, dKall, pick, entry, isiV, isiV2, isTys, isTy, tobV, truO, truV, okIf, datOf, seqOf, lstOf, datas, lstV, tupV, elsOf, Out.bind_ok, f_want_guard_box, hz, a1, a2, a3]
/-! ### the law's own -/
theorem r_law_is_true {zs vs : List Int} (hr : InR zs vs) {x : PyData} (hx : x = Ints vs ∨ x = .list (vs.map .int)) : ∀ (d : Nat) (g : PyData), GOk zs d g → ∀ (n : Nat), d < n → ∀ S, sem G T n 42 [.d x, .d g] S = .ok (.d (.bool (holds vs d g))) S
  | 0, _, h, _, _, _ => h.elim
  | d + 1, g, h, n, hn, S => by
    obtain ⟨m, rfl⟩ : ∃ m, n = m + 1 := ⟨n - 1, by omega⟩
    refine ok_of (gets_sem t_law_is_true rfl ?_)
    rcases h with ⟨v, x, z, rfl, hz, h0, h1⟩ | ⟨a, b, rfl, ha, hb⟩ | ⟨k, rfl, hk⟩ | ⟨gs, rfl, hl, hk⟩ | ⟨gs, rfl, hl, hk⟩
    · obtain ⟨u, hu, _⟩ := hr.get hz
      rcases hx with rfl | rfl <;> simp [dSs, dS, dE, dEs, dAnd, dOr, dT, Ev.tAnd, Ev.tOr, dU, dN, dB2, dIf, dVar, dCst, dO, dC, dI, dCall, dKall, pick, entry, isiV, isiV2, isTys, isTy, tobV, truO, truV, okIf, datOf, seqOf, lstOf, datas, lstV, tupV, elsOf, Out.bind_ok, f_law_is_true, tgt, ints_at hu, holds, hu]
    · obtain ⟨u, hu⟩ := at_lt hr ha
      obtain ⟨y, hy⟩ := at_lt hr hb
      rcases hx with rfl | rfl <;> simp [dSs, dS, dE, dEs, dAnd, dOr, dT, Ev.tAnd, Ev.tOr, dU, dN, dB2, dIf, dVar, dCst, dO, dC, dI, dCall, dKall, pick, entry, isiV, isiV2, isTys, isTy, tobV, truO, truV, okIf, datOf, seqOf, lstOf, datas, lstV, tupV, elsOf, Out.bind_ok, f_law_is_true, tgt, ints_at hu, ints_at hy, holds, hu, hy]
    · have ih := r_law_is_true hr hx d k hk m (by omega)
      simp [dSs, dS, dE, dEs, dAnd, dOr, dT, Ev.tAnd, Ev.tOr, dU, dN, dB2, dIf, dVar, dCst, dO, dC, dI, dCall, dKall, pick, entry, isiV, isiV2, isTys, isTy, tobV, truO, truV, okIf, datOf, seqOf, lstOf, datas, lstV, tupV, elsOf, Out.bind_ok, f_law_is_true, tgt, ih, holds]
    · simp [dSs, dS, dE, dEs, dAnd, dOr, dT, Ev.tAnd, Ev.tOr, dU, dN, dB2, dIf, dVar, dCst, dO, dC, dI, dCall, dKall, pick, entry, isiV, isiV2, isTys, isTy, tobV, truO, truV, okIf, datOf, seqOf, lstOf, datas, lstV, tupV, elsOf, Out.bind_ok, f_law_is_true, tgt]
      refine gets_each (fun k : PyData => Val.d k) (fun k => .bool (holds vs d k)) gs (n := none) (S := S) (by simp [dSs, dS, dE, dEs, dAnd, dOr, dT, Ev.tAnd, Ev.tOr, dU, dN, dB2, dIf, dVar, dCst, dO, dC, dI, dCall, dKall, pick, entry, isiV, isiV2, isTys, isTy, tobV, truO, truV, okIf, datOf, seqOf, lstOf, datas, lstV, tupV, elsOf, Out.bind_ok]) (by simp) (fun k hm => ⟨_, rfl, by simp [dSs, dS, dE, dEs, dAnd, dOr, dT, Ev.tAnd, Ev.tOr, dU, dN, dB2, dIf, dVar, dCst, dO, dC, dI, dCall, dKall, pick, entry, isiV, isiV2, isTys, isTy, tobV, truO, truV, okIf, datOf, seqOf, lstOf, datas, lstV, tupV, elsOf, Out.bind_ok, wipeD, r_law_is_true hr hx d k (hk k hm) m (by omega)]⟩) (line_of (by omega)) ?_
      simp [dSs, dS, dE, dEs, dAnd, dOr, dT, Ev.tAnd, Ev.tOr, dU, dN, dB2, dIf, dVar, dCst, dO, dC, dI, dCall, dKall, pick, entry, isiV, isiV2, isTys, isTy, tobV, truO, truV, okIf, datOf, seqOf, lstOf, datas, lstV, tupV, elsOf, Out.bind_ok, holds, Function.comp_def]
    · simp [dSs, dS, dE, dEs, dAnd, dOr, dT, Ev.tAnd, Ev.tOr, dU, dN, dB2, dIf, dVar, dCst, dO, dC, dI, dCall, dKall, pick, entry, isiV, isiV2, isTys, isTy, tobV, truO, truV, okIf, datOf, seqOf, lstOf, datas, lstV, tupV, elsOf, Out.bind_ok, f_law_is_true, tgt]
      refine gets_each (fun k : PyData => Val.d k) (fun k => .bool (holds vs d k)) gs (n := none) (S := S) (by simp [dSs, dS, dE, dEs, dAnd, dOr, dT, Ev.tAnd, Ev.tOr, dU, dN, dB2, dIf, dVar, dCst, dO, dC, dI, dCall, dKall, pick, entry, isiV, isiV2, isTys, isTy, tobV, truO, truV, okIf, datOf, seqOf, lstOf, datas, lstV, tupV, elsOf, Out.bind_ok]) (by simp) (fun k hm => ⟨_, rfl, by simp [dSs, dS, dE, dEs, dAnd, dOr, dT, Ev.tAnd, Ev.tOr, dU, dN, dB2, dIf, dVar, dCst, dO, dC, dI, dCall, dKall, pick, entry, isiV, isiV2, isTys, isTy, tobV, truO, truV, okIf, datOf, seqOf, lstOf, datas, lstV, tupV, elsOf, Out.bind_ok, wipeD, r_law_is_true hr hx d k (hk k hm) m (by omega)]⟩) (line_of (by omega)) ?_
      simp [dSs, dS, dE, dEs, dAnd, dOr, dT, Ev.tAnd, Ev.tOr, dU, dN, dB2, dIf, dVar, dCst, dO, dC, dI, dCall, dKall, pick, entry, isiV, isiV2, isTys, isTy, tobV, truO, truV, okIf, datOf, seqOf, lstOf, datas, lstV, tupV, elsOf, Out.bind_ok, holds, Function.comp_def]
theorem r_law_told {zs : List Int} {b : List (List Int)} (hb : BoxOk zs b) : ∀ (d : Nat) (g : PyData), GOk zs d g → ∀ (n : Nat), d < n → ∀ S, sem G T n 45 [.d (boxD b), .d g] S = .ok (.d (toldD (told b d g))) S
  | 0, _, h, _, _, _ => h.elim
  | d + 1, g, h, n, hn, S => by
    obtain ⟨m, rfl⟩ : ∃ m, n = m + 1 := ⟨n - 1, by omega⟩
    refine ok_of (gets_sem t_law_told rfl ?_)
    rcases h with ⟨v, x, z, rfl, hz, h0, h1⟩ | ⟨a, c, rfl, ha, hc⟩ | ⟨k, rfl, hk⟩ | ⟨gs, rfl, hl, hk⟩ | ⟨gs, rfl, hl, hk⟩
    · obtain ⟨s, hs, ok⟩ := hb.get hz
      simp [dSs, dS, dE, dEs, dAnd, dOr, dT, Ev.tAnd, Ev.tOr, dU, dN, dB2, dIf, dVar, dCst, dO, dC, dI, dCall, dKall, pick, entry, isiV, isiV2, isTys, isTy, tobV, truO, truV, okIf, datOf, seqOf, lstOf, datas, lstV, tupV, elsOf, Out.bind_ok, f_law_told, tgt, box_at hs, told, hs]
      by_cases hx : x ∈ s
      · by_cases h1 : s.length = 1
        · simp [hx, h1, toldD]
        · have h2 : ¬ (s.length : Int) = 1 := by omega
          simp [hx, h1, h2, toldD]
      · simp [hx, toldD]
    · obtain ⟨s, hs, ok⟩ := hb.get (List.getElem?_eq_getElem ha)
      obtain ⟨t, ht, ok2⟩ := hb.get (List.getElem?_eq_getElem hc)
      simp [dSs, dS, dE, dEs, dAnd, dOr, dT, Ev.tAnd, Ev.tOr, dU, dN, dB2, dIf, dVar, dCst, dO, dC, dI, dCall, dKall, pick, entry, isiV, isiV2, isTys, isTy, tobV, truO, truV, okIf, datOf, seqOf, lstOf, datas, lstV, tupV, elsOf, Out.bind_ok, f_law_told, tgt, setAll, box_at hs, box_at ht, told, hs, ht]
      refine gets_filter (fun k : Int => Val.d (.int k)) (fun k => decide (k ∈ t)) PyData.int s (n := none) (S := S) (by simp [dSs, dS, dE, dEs, dAnd, dOr, dT, Ev.tAnd, Ev.tOr, dU, dN, dB2, dIf, dVar, dCst, dO, dC, dI, dCall, dKall, pick, entry, isiV, isiV2, isTys, isTy, tobV, truO, truV, okIf, datOf, seqOf, lstOf, datas, lstV, tupV, elsOf, Out.bind_ok, box_at hs]) (by simp) (fun k hm => ⟨_, rfl, by simp [dSs, dS, dE, dEs, dAnd, dOr, dT, Ev.tAnd, Ev.tOr, dU, dN, dB2, dIf, dVar, dCst, dO, dC, dI, dCall, dKall, pick, entry, isiV, isiV2, isTys, isTy, tobV, truO, truV, okIf, datOf, seqOf, lstOf, datas, lstV, tupV, elsOf, Out.bind_ok, wipeD, box_at ht], fun _ => by simp [dSs, dS, dE, dEs, dAnd, dOr, dT, Ev.tAnd, Ev.tOr, dU, dN, dB2, dIf, dVar, dCst, dO, dC, dI, dCall, dKall, pick, entry, isiV, isiV2, isTys, isTy, tobV, truO, truV, okIf, datOf, seqOf, lstOf, datas, lstV, tupV, elsOf, Out.bind_ok, wipeD]⟩) (line_of (by have := ok.few; omega)) ?_
      simp [-List.any_eq_true, -List.any_eq_false, -List.isEmpty_iff, dSs, dS, dE, dEs, dAnd, dOr, dT, Ev.tAnd, Ev.tOr, dU, dN, dB2, dIf, dVar, dCst, dO, dC, dI, dCall, dKall, pick, entry, isiV, isiV2, isTys, isTy, tobV, truO, truV, okIf, datOf, seqOf, lstOf, datas, lstV, tupV, elsOf, Out.bind_ok, eq_nilL, box_at hs, box_at ht, Function.comp_def]
      have n1 : 1 ≤ s.length := by have := List.length_pos_iff.mpr ok.ne; omega
      have n2 : 1 ≤ t.length := by have := List.length_pos_iff.mpr ok2.ne; omega
      have e1 : ((s.length : Int) + t.length = 2) ↔ (s.length = 1 ∧ t.length = 1) := by omega
      have e2 : (s.filter fun k => decide (k ∈ t)).isEmpty = !(s.any fun y => decide (y ∈ t)) := by
        rw [Bool.eq_iff_iff]
        simp
      rw [e1, e2]
      unfold sameT
      cases hany : s.any fun y => decide (y ∈ t) with
      | false =>
        simp [toldD]
        simp at hany
        intro x h1 h2
        exact absurd h2 (hany x h1)
      | true =>
        by_cases h1 : (a : Int) = c
        · simp [h1, toldD]
        · by_cases h2 : s.length = 1 ∧ t.length = 1
          · simp [h1, h2, toldD]
          · simp [h1, h2, toldD]
    · have ih := r_law_told hb d k hk m (by omega)
      simp [dSs, dS, dE, dEs, dAnd, dOr, dT, Ev.tAnd, Ev.tOr, dU, dN, dB2, dIf, dVar, dCst, dO, dC, dI, dCall, dKall, pick, entry, isiV, isiV2, isTys, isTy, tobV, truO, truV, okIf, datOf, seqOf, lstOf, datas, lstV, tupV, elsOf, Out.bind_ok, f_law_told, tgt, ih, told]
      cases told b d k with
      | none => simp [toldD]
      | some t => simp [toldD]
    · simp [dSs, dS, dE, dEs, dAnd, dOr, dT, Ev.tAnd, Ev.tOr, dU, dN, dB2, dIf, dVar, dCst, dO, dC, dI, dCall, dKall, pick, entry, isiV, isiV2, isTys, isTy, tobV, truO, truV, okIf, datOf, seqOf, lstOf, datas, lstV, tupV, elsOf, Out.bind_ok, f_law_told, tgt]
      refine gets_each (fun k : PyData => Val.d k) (fun k => toldD (told b d k)) gs (n := none) (S := S) (by simp [dSs, dS, dE, dEs, dAnd, dOr, dT, Ev.tAnd, Ev.tOr, dU, dN, dB2, dIf, dVar, dCst, dO, dC, dI, dCall, dKall, pick, entry, isiV, isiV2, isTys, isTy, tobV, truO, truV, okIf, datOf, seqOf, lstOf, datas, lstV, tupV, elsOf, Out.bind_ok]) (by simp) (fun k hm => ⟨_, rfl, by simp [dSs, dS, dE, dEs, dAnd, dOr, dT, Ev.tAnd, Ev.tOr, dU, dN, dB2, dIf, dVar, dCst, dO, dC, dI, dCall, dKall, pick, entry, isiV, isiV2, isTys, isTy, tobV, truO, truV, okIf, datOf, seqOf, lstOf, datas, lstV, tupV, elsOf, Out.bind_ok, wipeD, r_law_told hb d k (hk k hm) m (by omega)]⟩) (line_of (by omega)) ?_
      simp [-List.mem_map, dSs, dS, dE, dEs, dAnd, dOr, dT, Ev.tAnd, Ev.tOr, dU, dN, dB2, dIf, dVar, dCst, dO, dC, dI, dCall, dKall, pick, entry, isiV, isiV2, isTys, isTy, tobV, truO, truV, okIf, datOf, seqOf, lstOf, datas, lstV, tupV, elsOf, Out.bind_ok, parD, in_told_f, in_told_n, told, allT]
      generalize gs.map (told b d) = ts
      by_cases h1 : some false ∈ ts
      · simp [h1, toldD]
      · by_cases h2 : none ∈ ts
        · simp [h1, h2, toldD]
        · simp [h1, h2, toldD]
    · simp [dSs, dS, dE, dEs, dAnd, dOr, dT, Ev.tAnd, Ev.tOr, dU, dN, dB2, dIf, dVar, dCst, dO, dC, dI, dCall, dKall, pick, entry, isiV, isiV2, isTys, isTy, tobV, truO, truV, okIf, datOf, seqOf, lstOf, datas, lstV, tupV, elsOf, Out.bind_ok, f_law_told, tgt]
      refine gets_each (fun k : PyData => Val.d k) (fun k => toldD (told b d k)) gs (n := none) (S := S) (by simp [dSs, dS, dE, dEs, dAnd, dOr, dT, Ev.tAnd, Ev.tOr, dU, dN, dB2, dIf, dVar, dCst, dO, dC, dI, dCall, dKall, pick, entry, isiV, isiV2, isTys, isTy, tobV, truO, truV, okIf, datOf, seqOf, lstOf, datas, lstV, tupV, elsOf, Out.bind_ok]) (by simp) (fun k hm => ⟨_, rfl, by simp [dSs, dS, dE, dEs, dAnd, dOr, dT, Ev.tAnd, Ev.tOr, dU, dN, dB2, dIf, dVar, dCst, dO, dC, dI, dCall, dKall, pick, entry, isiV, isiV2, isTys, isTy, tobV, truO, truV, okIf, datOf, seqOf, lstOf, datas, lstV, tupV, elsOf, Out.bind_ok, wipeD, r_law_told hb d k (hk k hm) m (by omega)]⟩) (line_of (by omega)) ?_
      simp [-List.mem_map, dSs, dS, dE, dEs, dAnd, dOr, dT, Ev.tAnd, Ev.tOr, dU, dN, dB2, dIf, dVar, dCst, dO, dC, dI, dCall, dKall, pick, entry, isiV, isiV2, isTys, isTy, tobV, truO, truV, okIf, datOf, seqOf, lstOf, datas, lstV, tupV, elsOf, Out.bind_ok, parD, in_told_f, in_told_n, told, allT]
      generalize gs.map (told b d) = ts
      by_cases h1 : some true ∈ ts
      · simp [h1, toldD]
      · by_cases h2 : none ∈ ts
        · simp [h1, h2, toldD]
        · simp [h1, h2, toldD]
end HT
end

section
set_option Elab.async false
set_option linter.all false
set_option maxRecDepth 100000
set_option maxHeartbeats 4000000
/-! B3: what is told holds; narrowing keeps what it must (plain) -/
namespace HT
open PySem PySem.Spec L2 Ev
/-- a row of a box -/
abbrev InBox (b : List (List Int)) (vs : List Int) : Prop := Rel2 (fun s v => v ∈ s) b vs
abbrev SubB (b b' : List (List Int)) : Prop := Rel2 (fun s s' => ∀ x ∈ s', x ∈ s) b b'
theorem Rel2.set {α β : Type} {R : α → β → Prop} : ∀ {as : List α} {bs : List β} {i : Nat} {a : α} {y : β}, Rel2 R as bs → as[i]? = some a → R a y → Rel2 R as (bs.set i y)
  | [], [], i, a, y, h, e, _ => by simp at e
  | x :: as, z :: bs, 0, a, y, h, e, r => by simp at e; subst e; exact ⟨r, h.2⟩
  | x :: as, z :: bs, i + 1, a, y, h, e, r => ⟨h.1, Rel2.set (i := i) h.2 (by simpa using e) r⟩
  | [], _ :: _, _, _, _, h, _, _ => h.elim
  | _ :: _, [], _, _, _, h, _, _ => h.elim
theorem Rel2.set_l {α β : Type} {R : α → β → Prop} : ∀ {as : List α} {bs : List β} {i : Nat} {a : α} {y : β}, Rel2 R as bs → bs[i]? = some y → R a y → Rel2 R (as.set i a) bs
  | [], [], i, a, y, h, e, _ => by simp at e
  | x :: as, z :: bs, 0, a, y, h, e, r => by simp at e; subst e; exact ⟨r, h.2⟩
  | x :: as, z :: bs, i + 1, a, y, h, e, r => ⟨h.1, Rel2.set_l (i := i) h.2 (by simpa using e) r⟩
  | [], _ :: _, _, _, _, h, _, _ => h.elim
  | _ :: _, [], _, _, _, h, _, _ => h.elim
theorem SubB.refl : ∀ b : List (List Int), SubB b b
  | [] => True.intro
  | s :: b => ⟨fun _ h => h, SubB.refl b⟩
theorem SubB.trans : ∀ {a b c : List (List Int)}, SubB a b → SubB b c → SubB a c
  | [], [], [], _, _ => True.intro
  | x :: a, y :: b, z :: c, h, g => ⟨fun v hv => h.1 v (g.1 v hv), SubB.trans h.2 g.2⟩
  | [], _ :: _, _, h, _ => h.elim
  | _ :: _, [], _, h, _ => h.elim
  | _, [], _ :: _, _, h => h.elim
  | _, _ :: _, [], _, h => h.elim
theorem InBox.sub : ∀ {b b' : List (List Int)} {vs : List Int}, SubB b b' → InBox b' vs → InBox b vs
  | [], [], [], _, _ => True.intro
  | x :: a, y :: b, v :: vs, h, g => ⟨h.1 v g.1, InBox.sub h.2 g.2⟩
  | [], _ :: _, _, h, _ => h.elim
  | _ :: _, [], _, h, _ => h.elim
  | _, [], _ :: _, _, h => h.elim
  | _, _ :: _, [], _, h => h.elim
theorem InBox.inr : ∀ {zs : List Int} {b : List (List Int)} {vs : List Int}, BoxOk zs b → InBox b vs → InR zs vs
  | [], [], [], _, _ => True.intro
  | z :: zs, s :: b, v :: vs, h, g => ⟨h.1.within v g.1, InBox.inr h.2 g.2⟩
  | [], _ :: _, _, h, _ => h.elim
  | _ :: _, [], _, h, _ => h.elim
  | _, [], _ :: _, _, h => h.elim
  | _, _ :: _, [], _, h => h.elim
theorem len_one {s : List Int} {x : Int} (h : s.length = 1) (hx : x ∈ s) : s = [x] := by
  match s, h with
  | [y], _ => rw [List.mem_singleton.mp hx]
theorem allT_some {ts : List (Option Bool)} {due t : Bool} (h : allT ts due = some t) : (t = due ∧ some due ∈ ts) ∨ (t = !due ∧ ∀ u ∈ ts, u = some (!due)) := by
  unfold allT at h
  split at h
  · rename_i h1; cases h; exact .inl ⟨rfl, h1⟩
  · rename_i h1
    split at h
    · cases h
    · rename_i h2
      cases h
      refine .inr ⟨rfl, fun u hu => ?_⟩
      cases u with
      | none => exact absurd hu h2
      | some b =>
        by_cases e : b = due
        · subst e; exact absurd hu h1
        · cases b <;> cases due <;> simp_all
theorem allT_none {ts : List (Option Bool)} {due : Bool} (h : allT ts due = none) : some due ∉ ts ∧ none ∈ ts := by
  unfold allT at h
  split at h
  · cases h
  · rename_i h1
    split at h
    · rename_i h2; exact ⟨h1, h2⟩
    · cases h
theorem told_sound {zs : List Int} {b : List (List Int)} (hb : BoxOk zs b) {vs : List Int} (hv : InBox b vs) : ∀ (d : Nat) (g : PyData), GOk zs d g → ∀ t, told b d g = some t → holds vs d g = t
  | 0, _, h, _, _ => h.elim
  | d + 1, g, h, t, e => by
    rcases h with ⟨v, x, z, rfl, hz, h0, h1⟩ | ⟨a, c, rfl, ha, hc⟩ | ⟨k, rfl, hk⟩ | ⟨gs, rfl, hl, hk⟩ | ⟨gs, rfl, hl, hk⟩
    · obtain ⟨s, hs, ok⟩ := hb.get hz
      obtain ⟨u, hu, hm⟩ := hv.get hs
      simp [told, hs] at e
      simp [holds, hu]
      split at e
      · rename_i hx
        split at e
        · rename_i h1
          have := len_one h1 hx
          rw [this] at hm
          simp at e hm
          subst e
          simp [hm]
        · cases e
      · rename_i hx
        cases e
        simp
        exact fun z => hx (z ▸ hm)
    · obtain ⟨s, hs, ok⟩ := hb.get (List.getElem?_eq_getElem ha)
      obtain ⟨q, hq, ok2⟩ := hb.get (List.getElem?_eq_getElem hc)
      obtain ⟨u, hu, hm⟩ := hv.get hs
      obtain ⟨y, hy, hn⟩ := hv.get hq
      simp [told, hs, hq] at e
      simp [holds, hu, hy]
      unfold sameT at e
      split at e
      · rename_i hany
        split at e
        · rename_i h1
          cases e
          rcases h1 with h1 | ⟨h1, h2⟩
          · have h2 : a = c := by have h3 : (a : Int) = c := by simpa using h1
                                  omega
            subst h2
            rw [hu] at hy
            cases hy
            simp
          · obtain ⟨w, w1, w2⟩ := List.any_eq_true.mp hany
            have w3 := of_decide_eq_true w2
            rw [len_one h1 w1] at hm
            rw [len_one h2 w3] at hn
            simp at hm hn
            simp [hm, hn]
        · cases e
      · rename_i hany
        cases e
        simp
        intro z
        subst z
        exact hany (List.any_eq_true.mpr ⟨u, hm, decide_eq_true hn⟩)
    · have ih := told_sound hb hv d k hk
      simp [told] at e
      simp [holds]
      cases hq : told b d k with
      | none => rw [hq] at e; simp at e
      | some u =>
        rw [hq] at e
        rw [ih u hq]
        simpa using e
    · have ih := fun k hm => told_sound hb hv d k (hk k hm)
      simp [-List.mem_map, told] at e
      simp [holds]
      rcases allT_some e with ⟨rfl, hm⟩ | ⟨rfl, hm⟩
      · obtain ⟨k, k1, k2⟩ := List.mem_map.mp hm
        rw [List.all_eq_false]
        exact ⟨k, k1, by rw [ih k k1 _ k2]; simp⟩
      · show gs.all (holds vs d) = true
        rw [List.all_eq_true]
        exact fun k k1 => ih k k1 _ (hm _ (List.mem_map.mpr ⟨k, k1, rfl⟩))
    · have ih := fun k hm => told_sound hb hv d k (hk k hm)
      simp [-List.mem_map, told] at e
      simp [holds]
      rcases allT_some e with ⟨rfl, hm⟩ | ⟨rfl, hm⟩
      · obtain ⟨k, k1, k2⟩ := List.mem_map.mp hm
        rw [List.any_eq_true]
        exact ⟨k, k1, ih k k1 _ k2⟩
      · show gs.any (holds vs d) = false
        rw [List.any_eq_false]
        exact fun k k1 => by rw [ih k k1 _ (hm _ (List.mem_map.mpr ⟨k, k1, rfl⟩))]; simp
theorem told_one {zs : List Int} {b : List (List Int)} (hb : BoxOk zs b) (h1 : ∀ s ∈ b, s.length = 1) : ∀ (d : Nat) (g : PyData), GOk zs d g → told b d g ≠ none
  | 0, _, h => h.elim
  | d + 1, g, h => by
    rcases h with ⟨v, x, z, rfl, hz, h0, hx⟩ | ⟨a, c, rfl, ha, hc⟩ | ⟨k, rfl, hk⟩ | ⟨gs, rfl, hl, hk⟩ | ⟨gs, rfl, hl, hk⟩
    · obtain ⟨s, hs, ok⟩ := hb.get hz
      have := h1 s (List.mem_of_getElem? hs)
      simp [told, hs, this]
      split <;> simp
    · obtain ⟨s, hs, ok⟩ := hb.get (List.getElem?_eq_getElem ha)
      obtain ⟨q, hq, ok2⟩ := hb.get (List.getElem?_eq_getElem hc)
      have e1 := h1 s (List.mem_of_getElem? hs)
      have e2 := h1 q (List.mem_of_getElem? hq)
      simp [told, hs, hq, sameT, e1, e2]
      split <;> simp
    · have ih := told_one hb h1 d k hk
      simp [told]
      exact ih
    · intro e
      simp [-List.mem_map, told] at e
      obtain ⟨k, k1, k2⟩ := List.mem_map.mp (allT_none e).2
      exact told_one hb h1 d k (hk k k1) k2
    · intro e
      simp [-List.mem_map, told] at e
      obtain ⟨k, k1, k2⟩ := List.mem_map.mp (allT_none e).2
      exact told_one hb h1 d k (hk k k1) k2
/-! ### narrowing -/
def narrowS (b : List (List Int)) (a c : Nat) (t : Bool) : List (List Int) :=
  if t = true then (b.set a ((b.getD a []).filter fun y => decide (y ∈ b.getD c []))).set c ((b.getD a []).filter fun y => decide (y ∈ b.getD c []))
  else if (b.getD c []).length = 1 then b.set a ((b.getD a []).filter fun y => !decide (y = (b.getD c []).getD 0 0))
  else if (b.getD a []).length = 1 then b.set c ((b.getD c []).filter fun y => !decide (y = (b.getD a []).getD 0 0))
  else b
def narrow : Nat → List (List Int) → PyData → Bool → Option (List (List Int))
  | 0, _, _, _ => none
  | d + 1, b, g, t => match told b (d + 1) g with
    | some u => if u = t then some b else none
    | none => match g with
      | .tuple [.str w, .int a, .int x] => if w = "is" then some (b.set a.toNat ((b.getD a.toNat []).filter fun y => decide (y = x) == t)) else some (narrowS b a.toNat x.toNat t)
      | .tuple [.str w, h] => if w = "not" then narrow d b h (!t) else match h with
        | .tuple gs => if decide (w = "all") = t then gs.foldl (fun ob k => ob.bind fun b => narrow d b k t) (some b)
          else (match gs.filter fun k => decide (told b d k = none) with
            | [k] => narrow d b k t
            | _ => some b)
        | _ => none
      | _ => none
/-- what narrowing must do -/
def NarOk (zs : List Int) (b : List (List Int)) (P : List Int → Prop) : Option (List (List Int)) → Prop
  | none => ∀ vs, InBox b vs → ¬ P vs
  | some b' => BoxOk zs b' ∧ SubB b b' ∧ ∀ vs, InBox b vs → P vs → InBox b' vs
theorem lot_filter {z : Int} {s : List Int} {p : Int → Bool} (h : LotOk z s) {x : Int} (hx : x ∈ s) (hp : p x = true) : LotOk z (s.filter p) :=
  { up := h.up.filter _
    within := fun y hy => h.within y (List.mem_filter.mp hy).1
    ne := fun e => by
      have : x ∈ s.filter p := List.mem_filter.mpr ⟨hx, hp⟩
      rw [e] at this
      cases this
    few := Nat.le_trans (List.length_filter_le _ _) h.few }
/-- one lot made smaller -/
theorem nar_set {zs : List Int} {b : List (List Int)} (hb : BoxOk zs b) {i : Nat} {s : List Int} (hs : b[i]? = some s) {p : Int → Bool} {x : Int} (hx : x ∈ s) (hp : p x = true) {P : List Int → Prop}
    (h : ∀ vs v, InBox b vs → vs[i]? = some v → P vs → p v = true) : NarOk zs b P (some (b.set i (s.filter p))) := by
  have hi : i < zs.length := by rw [← hb.len]; exact (List.getElem?_eq_some_iff.mp hs).1
  obtain ⟨s', hs', ok⟩ := hb.get (List.getElem?_eq_getElem hi)
  rw [hs] at hs'
  cases hs'
  refine ⟨hb.set (List.getElem?_eq_getElem hi) (lot_filter ok hx hp), (SubB.refl b).set hs fun y hy => (List.mem_filter.mp hy).1, fun vs hv hP => ?_⟩
  obtain ⟨v, hv1, hv2⟩ := hv.get hs
  exact hv.set_l hv1 (List.mem_filter.mpr ⟨hv2, h vs v hv hv1 hP⟩)
theorem other {z : Int} {s : List Int} (h : LotOk z s) (h1 : s.length ≠ 1) (x : Int) : ∃ y ∈ s, y ≠ x := by
  obtain ⟨up, _, ne, _⟩ := h
  match s, ne, h1, up with
  | a :: c :: r, _, _, up =>
    have := (List.pairwise_cons.mp up).1 c (by simp)
    by_cases e : a = x
    · exact ⟨c, by simp, by omega⟩
    · exact ⟨a, by simp, e⟩
end HT
end

section
set_option Elab.async false
set_option linter.all false
set_option maxRecDepth 100000
set_option maxHeartbeats 4000000
/-! F1: folding (plain) -/
namespace HT
open PySem PySem.Spec L2 Ev
def tests : Nat → PyData → Nat
  | 0, _ => 0
  | d + 1, g => match g with
    | .tuple [.str _, .int _, .int _] => 1
    | .tuple [.str w, h] => if w = "not" then tests d h else match h with
      | .tuple gs => (gs.map (tests d)).sum
      | _ => 0
    | _ => 0
def wd : PyData → Str
  | .tuple (.str w :: _) => w
  | _ => ""
def prt : PyData → List PyData
  | .tuple [_, .tuple gs] => gs
  | _ => []
def snd1 : PyData → PyData
  | .tuple [_, h] => h
  | _ => .none
abbrev gTru : PyData := .tuple [.str "all", .tuple []]
abbrev gFls : PyData := .tuple [.str "any", .tuple []]
def addP (acc : List PyData) (x : PyData) : List PyData := if acc.any (fun z => PyData.eqv z x) = true then acc else acc ++ [x]
def endP (w : Str) (ps : List PyData) : PyData := if ps.length = 1 then ps.headD .none else .tuple [.str w, .tuple ps]
def sameF (b : List (List Int)) (a c : Nat) : PyData := if (b.getD a []).length = 1 then .tuple [.str "is", .int (c : Int), .int ((b.getD a []).getD 0 0)]
  else if (b.getD c []).length = 1 then .tuple [.str "is", .int (a : Int), .int ((b.getD c []).getD 0 0)] else .tuple [.str "same", .int (a : Int), .int (c : Int)]
/-- the parts that one of the guards gives -/
def give (w : Str) (l : PyData) : List PyData := if wd l = w then prt l else [l]
def fold (b : List (List Int)) : Nat → PyData → PyData
  | 0, _ => .none
  | d + 1, g => match told b (d + 1) g with
    | some t => if t = true then gTru else gFls
    | none => match g with
      | .tuple [.str w, .int a, .int x] => if w = "is" then g else sameF b a.toNat x.toNat
      | .tuple [.str w, h] => if w = "not" then (if wd (fold b d h) = "not" then snd1 (fold b d h) else .tuple [.str "not", fold b d h])
        else match h with
          | .tuple gs => endP w (gs.foldl (fun acc k => (give w (fold b d k)).foldl addP acc) [])
          | _ => .none
      | _ => .none
/-! ### fuel -/
theorem told_up {zs : List Int} {b : List (List Int)} : ∀ {d e : Nat} {g : PyData}, d ≤ e → GOk zs d g → told b e g = told b d g
  | 0, _, _, _, h => h.elim
  | d + 1, 0, _, h, _ => absurd h (by omega)
  | d + 1, e + 1, g, le, h => by
    rcases h with ⟨v, x, z, rfl, _⟩ | ⟨a, c, rfl, _⟩ | ⟨k, rfl, hk⟩ | ⟨gs, rfl, _, hk⟩ | ⟨gs, rfl, _, hk⟩
    · simp [told]
    · simp [told]
    · have ih := told_up (b := b) (show d ≤ e by omega) hk
      simp [told, ih]
    · have ih : gs.map (told b e) = gs.map (told b d) := List.map_congr_left fun k hm => told_up (by omega) (hk k hm)
      simp [told, ih]
    · have ih : gs.map (told b e) = gs.map (told b d) := List.map_congr_left fun k hm => told_up (by omega) (hk k hm)
      simp [told, ih]
theorem holds_up {zs vs : List Int} : ∀ {d e : Nat} {g : PyData}, d ≤ e → GOk zs d g → holds vs e g = holds vs d g
  | 0, _, _, _, h => h.elim
  | d + 1, 0, _, h, _ => absurd h (by omega)
  | d + 1, e + 1, g, le, h => by
    rcases h with ⟨v, x, z, rfl, _⟩ | ⟨a, c, rfl, _⟩ | ⟨k, rfl, hk⟩ | ⟨gs, rfl, _, hk⟩ | ⟨gs, rfl, _, hk⟩
    · simp [holds]
    · simp [holds]
    · have ih := holds_up (vs := vs) (show d ≤ e by omega) hk
      simp [holds, ih]
    · have ih : gs.all (holds vs e) = gs.all (holds vs d) := by
        rw [Bool.eq_iff_iff, List.all_eq_true, List.all_eq_true]
        exact ⟨fun q k hm => by rw [← holds_up (d := d) (e := e) (by omega) (hk k hm)]; exact q k hm, fun q k hm => by rw [holds_up (d := d) (e := e) (by omega) (hk k hm)]; exact q k hm⟩
      simp only [holds]
      simp
      exact ih
    · have ih : gs.any (holds vs e) = gs.any (holds vs d) := by
        rw [Bool.eq_iff_iff, List.any_eq_true, List.any_eq_true]
        exact ⟨fun ⟨k, hm, q⟩ => ⟨k, hm, by rw [← holds_up (d := d) (e := e) (by omega) (hk k hm)]; exact q⟩, fun ⟨k, hm, q⟩ => ⟨k, hm, by rw [holds_up (d := d) (e := e) (by omega) (hk k hm)]; exact q⟩⟩
      simp only [holds]
      simp
      exact ih
theorem tests_up {zs : List Int} : ∀ {d e : Nat} {g : PyData}, d ≤ e → GOk zs d g → tests e g = tests d g
  | 0, _, _, _, h => h.elim
  | d + 1, 0, _, h, _ => absurd h (by omega)
  | d + 1, e + 1, g, le, h => by
    rcases h with ⟨v, x, z, rfl, _⟩ | ⟨a, c, rfl, _⟩ | ⟨k, rfl, hk⟩ | ⟨gs, rfl, _, hk⟩ | ⟨gs, rfl, _, hk⟩
    · simp [tests]
    · simp [tests]
    · have ih := tests_up (show d ≤ e by omega) hk
      simp [tests, ih]
    · have ih : gs.map (tests e) = gs.map (tests d) := List.map_congr_left fun k hm => tests_up (by omega) (hk k hm)
      simp [tests, ih]
    · have ih : gs.map (tests e) = gs.map (tests d) := List.map_congr_left fun k hm => tests_up (by omega) (hk k hm)
      simp [tests, ih]
theorem tests_bulk {zs : List Int} : ∀ {d : Nat} {g : PyData}, GOk zs d g → tests d g ≤ g.bulk
  | 0, _, h => h.elim
  | d + 1, g, h => by
    have sum : ∀ gs : List PyData, (∀ k ∈ gs, GOk zs d k) → (gs.map (tests d)).sum ≤ PyData.bulkAll gs := by
      intro gs
      induction gs with
      | nil => intro _; simp
      | cons k gs ih =>
        intro hk
        have h1 := tests_bulk (hk k List.mem_cons_self)
        have h2 := ih fun j hj => hk j (List.mem_cons_of_mem _ hj)
        unfold PyData.bulkAll
        simp
        omega
    rcases h with ⟨v, x, z, rfl, _⟩ | ⟨a, c, rfl, _⟩ | ⟨k, rfl, hk⟩ | ⟨gs, rfl, _, hk⟩ | ⟨gs, rfl, _, hk⟩
    · simp [tests, PyData.bulk, PyData.bulkAll]
      all_goals omega
    · simp [tests, PyData.bulk, PyData.bulkAll]
      all_goals omega
    · have h1 := tests_bulk hk
      simp [tests, PyData.bulk, PyData.bulkAll]
      omega
    · have h1 := sum gs hk
      simp [tests, PyData.bulk, PyData.bulkAll]
      omega
    · have h1 := sum gs hk
      simp [tests, PyData.bulk, PyData.bulkAll]
      omega
/-! ### folded forms -/
def Good (zs : List Int) (b : List (List Int)) : Nat → PyData → Prop
  | 0, _ => False
  | d + 1, g => (∃ (v : Nat) (x z : Int) (s : List Int), g = .tuple [.str "is", .int (v : Int), .int x] ∧ zs[v]? = some z ∧ 0 ≤ x ∧ x < z ∧ b[v]? = some s ∧ x ∈ s ∧ s.length ≠ 1) ∨
    (∃ (a c : Nat) (s q : List Int), g = .tuple [.str "same", .int (a : Int), .int (c : Int)] ∧ a < zs.length ∧ c < zs.length ∧ b[a]? = some s ∧ b[c]? = some q ∧ sameT s q (decide ((a : Int) = c)) = none ∧ s.length ≠ 1 ∧ q.length ≠ 1) ∨
    (∃ h, g = .tuple [.str "not", h] ∧ Good zs b d h ∧ wd h ≠ "not") ∨
    (∃ gs, g = .tuple [.str "all", .tuple gs] ∧ 2 ≤ gs.length ∧ gs.length ≤ 1000 ∧ gs.Nodup ∧ ∀ h ∈ gs, Good zs b d h ∧ wd h ≠ "all") ∨
    (∃ gs, g = .tuple [.str "any", .tuple gs] ∧ 2 ≤ gs.length ∧ gs.length ≤ 1000 ∧ gs.Nodup ∧ ∀ h ∈ gs, Good zs b d h ∧ wd h ≠ "any")
theorem Good.gok {zs : List Int} {b : List (List Int)} : ∀ {d : Nat} {g : PyData}, Good zs b d g → GOk zs d g
  | 0, _, h => h.elim
  | d + 1, g, h => by
    rcases h with ⟨v, x, z, s, rfl, h1, h2, h3, _⟩ | ⟨a, c, s, q, rfl, h1, h2, _⟩ | ⟨k, rfl, hk, _⟩ | ⟨gs, rfl, _, hl, _, hk⟩ | ⟨gs, rfl, _, hl, _, hk⟩
    · exact .inl ⟨v, x, z, rfl, h1, h2, h3⟩
    · exact .inr (.inl ⟨a, c, rfl, h1, h2⟩)
    · exact .inr (.inr (.inl ⟨k, rfl, hk.gok⟩))
    · exact .inr (.inr (.inr (.inl ⟨gs, rfl, hl, fun k hm => (hk k hm).1.gok⟩)))
    · exact .inr (.inr (.inr (.inr ⟨gs, rfl, hl, fun k hm => (hk k hm).1.gok⟩)))
theorem Good.up {zs : List Int} {b : List (List Int)} : ∀ {d e : Nat} {g : PyData}, d ≤ e → Good zs b d g → Good zs b e g
  | 0, _, _, _, h => h.elim
  | d + 1, 0, _, h, _ => absurd h (by omega)
  | d + 1, e + 1, g, le, h => by
    rcases h with h | h | ⟨k, rfl, hk, hw⟩ | ⟨gs, rfl, h2, hl, hn, hk⟩ | ⟨gs, rfl, h2, hl, hn, hk⟩
    · exact .inl h
    · exact .inr (.inl h)
    · exact .inr (.inr (.inl ⟨k, rfl, hk.up (by omega), hw⟩))
    · exact .inr (.inr (.inr (.inl ⟨gs, rfl, h2, hl, hn, fun k hm => ⟨(hk k hm).1.up (by omega), (hk k hm).2⟩⟩)))
    · exact .inr (.inr (.inr (.inr ⟨gs, rfl, h2, hl, hn, fun k hm => ⟨(hk k hm).1.up (by omega), (hk k hm).2⟩⟩)))
theorem Good.none {zs : List Int} {b : List (List Int)} : ∀ {d : Nat} {g : PyData}, Good zs b d g → told b d g = .none
  | 0, _, h => h.elim
  | d + 1, g, h => by
    have all : ∀ (due : Bool) (gs : List PyData), 2 ≤ gs.length → (∀ k ∈ gs, told b d k = .none) → allT (gs.map (told b d)) due = .none := fun due gs h2 hk => by
      have h1 : some due ∉ gs.map (told b d) := fun z => by
        obtain ⟨k, hm, e⟩ := List.mem_map.mp z
        rw [hk k hm] at e
        cases e
      have h3 : Option.none ∈ gs.map (told b d) := by
        match gs, h2, hk with
        | k :: _, _, hk => exact List.mem_map.mpr ⟨k, List.mem_cons_self, hk k List.mem_cons_self⟩
      unfold allT
      rw [if_neg h1, if_pos h3]
    rcases h with ⟨v, x, z, s, rfl, h1, h2, h3, hs, hx, hl⟩ | ⟨a, c, s, q, rfl, h1, h2, hs, hq, hn, _⟩ | ⟨k, rfl, hk, hw⟩ | ⟨gs, rfl, h2, hl, hn, hk⟩ | ⟨gs, rfl, h2, hl, hn, hk⟩
    · simp [told, hs, hx, hl]
    · simp [told, hs, hq]
      exact hn
    · simp [told, hk.none]
    · simp [-List.mem_map, told]
      exact all _ gs h2 fun k hm => (hk k hm).1.none
    · simp [-List.mem_map, told]
      exact all _ gs h2 fun k hm => (hk k hm).1.none
theorem Good.pos {zs : List Int} {b : List (List Int)} : ∀ {d : Nat} {g : PyData}, Good zs b d g → 1 ≤ tests d g
  | 0, _, h => h.elim
  | d + 1, g, h => by
    have sum : ∀ gs : List PyData, 2 ≤ gs.length → (∀ k ∈ gs, 1 ≤ tests d k) → 1 ≤ (gs.map (tests d)).sum := fun gs h2 hk => by
      match gs, h2, hk with
      | k :: r, _, hk =>
        have := hk k List.mem_cons_self
        simp
        omega
    rcases h with ⟨v, x, z, s, rfl, _⟩ | ⟨a, c, s, q, rfl, _⟩ | ⟨k, rfl, hk, hw⟩ | ⟨gs, rfl, h2, hl, hn, hk⟩ | ⟨gs, rfl, h2, hl, hn, hk⟩
    · simp [tests]
    · simp [tests]
    · simp [tests]
      exact hk.pos
    · simp only [tests]
      simp
      exact sum gs h2 fun k hm => (hk k hm).1.pos
    · simp only [tests]
      simp
      exact sum gs h2 fun k hm => (hk k hm).1.pos
end HT
end

section
set_option Elab.async false
set_option linter.all false
set_option maxRecDepth 100000
set_option maxHeartbeats 4000000
/-! F2: what folding keeps (plain) -/
namespace HT
open PySem PySem.Spec L2 Ev
mutual
/-- texts, whole numbers and tuples of them -/
def sit : PyData → Bool
  | .str _ => true
  | .int _ => true
  | .tuple ds => sits ds
  | _ => false
def sits : List PyData → Bool
  | [] => true
  | d :: ds => sit d && sits ds
end
theorem sits_iff : ∀ {ds : List PyData}, sits ds = true ↔ ∀ d ∈ ds, sit d = true
  | [] => by simp [sits]
  | d :: ds => by simp [sits, sits_iff (ds := ds)]
mutual
theorem eqv_sit : ∀ {x y : PyData}, sit x = true → sit y = true → (PyData.eqv x y = true ↔ x = y)
  | .str a, .str b, _, _ => by simp [PyData.eqv]
  | .str a, .int b, _, _ => by simp [PyData.eqv]
  | .str a, .tuple b, _, _ => by simp [PyData.eqv]
  | .int a, .str b, _, _ => by simp [PyData.eqv]
  | .int a, .int b, _, _ => by simp [PyData.eqv]
  | .int a, .tuple b, _, _ => by simp [PyData.eqv]
  | .tuple a, .str b, _, _ => by simp [PyData.eqv]
  | .tuple a, .int b, _, _ => by simp [PyData.eqv]
  | .tuple a, .tuple b, h1, h2 => by
    unfold sit at h1 h2
    have := eqvs_sit h1 h2
    unfold PyData.eqv
    rw [this]
    simp
  | .none, _, h, _ => by simp [sit] at h
  | .bool _, _, h, _ => by simp [sit] at h
  | .list _, _, h, _ => by simp [sit] at h
  | .dict _, _, h, _ => by simp [sit] at h
  | .str _, .none, _, h => by simp [sit] at h
  | .str _, .bool _, _, h => by simp [sit] at h
  | .str _, .list _, _, h => by simp [sit] at h
  | .str _, .dict _, _, h => by simp [sit] at h
  | .int _, .none, _, h => by simp [sit] at h
  | .int _, .bool _, _, h => by simp [sit] at h
  | .int _, .list _, _, h => by simp [sit] at h
  | .int _, .dict _, _, h => by simp [sit] at h
  | .tuple _, .none, _, h => by simp [sit] at h
  | .tuple _, .bool _, _, h => by simp [sit] at h
  | .tuple _, .list _, _, h => by simp [sit] at h
  | .tuple _, .dict _, _, h => by simp [sit] at h
theorem eqvs_sit : ∀ {xs ys : List PyData}, sits xs = true → sits ys = true → (PyData.eqvAll xs ys = true ↔ xs = ys)
  | [], [], _, _ => by simp [PyData.eqvAll]
  | [], _ :: _, _, _ => by simp [PyData.eqvAll]
  | _ :: _, [], _, _ => by simp [PyData.eqvAll]
  | x :: xs, y :: ys, h1, h2 => by
    unfold sits at h1 h2
    rw [Bool.and_eq_true] at h1 h2
    unfold PyData.eqvAll
    rw [Bool.and_eq_true, eqv_sit h1.1 h2.1, eqvs_sit h1.2 h2.2]
    simp
end
theorem gok_sit {zs : List Int} : ∀ {d : Nat} {g : PyData}, GOk zs d g → sit g = true
  | 0, _, h => h.elim
  | d + 1, g, h => by
    rcases h with ⟨v, x, z, rfl, _⟩ | ⟨a, c, rfl, _⟩ | ⟨k, rfl, hk⟩ | ⟨gs, rfl, _, hk⟩ | ⟨gs, rfl, _, hk⟩
    · simp [sit, sits]
    · simp [sit, sits]
    · simp [sit, sits, gok_sit hk]
    · have : sits gs = true := sits_iff.mpr fun k hm => gok_sit (hk k hm)
      simp [sit, sits, this]
    · have : sits gs = true := sits_iff.mpr fun k hm => gok_sit (hk k hm)
      simp [sit, sits, this]
theorem any_eqv {acc : List PyData} {x : PyData} (ha : ∀ y ∈ acc, sit y = true) (hx : sit x = true) : (acc.any fun z => PyData.eqv z x) = true ↔ x ∈ acc := by
  rw [List.any_eq_true]
  constructor
  · rintro ⟨y, hy, e⟩
    rw [← (eqv_sit (ha y hy) hx).mp e]
    exact hy
  · intro h
    exact ⟨x, h, (eqv_sit hx hx).mpr rfl⟩
/-- what is gathered so far; W: what the guards seen so far hold -/
structure Acc (zs : List Int) (b : List (List Int)) (d : Nat) (w : Str) (N : Nat) (acc : List PyData) : Prop where
  nd : acc.Nodup
  each : ∀ x ∈ acc, Good zs b d x ∧ wd x ≠ w
  sum : (acc.map (tests d)).sum ≤ N
theorem Acc.sit {zs : List Int} {b : List (List Int)} {d N : Nat} {w : Str} {acc : List PyData} (h : Acc zs b d w N acc) : ∀ y ∈ acc, HT.sit y = true := fun y hy => gok_sit (h.each y hy).1.gok
theorem addP_ok {zs : List Int} {b : List (List Int)} {d N : Nat} {w : Str} {acc : List PyData} (h : Acc zs b d w N acc) {x : PyData} (hx : Good zs b d x) (hw : wd x ≠ w) : Acc zs b d w (N + tests d x) (addP acc x) ∧ (∀ y, y ∈ addP acc x ↔ y ∈ acc ∨ y = x) := by
  unfold addP
  have key := any_eqv h.sit (gok_sit hx.gok)
  by_cases hm : x ∈ acc
  · rw [if_pos (key.mpr hm)]
    refine ⟨⟨h.nd, h.each, Nat.le_trans h.sum (Nat.le_add_right _ _)⟩, fun y => ⟨.inl, fun z => z.elim id fun e => e ▸ hm⟩⟩
  · rw [if_neg fun z => hm (key.mp z)]
    refine ⟨⟨?_, fun y hy => ?_, ?_⟩, fun y => by simp⟩
    · rw [List.nodup_append]
      refine ⟨h.nd, by simp, fun a ha c hc => ?_⟩
      rw [List.mem_singleton.mp hc]
      exact fun e => hm (e ▸ ha)
    · rcases List.mem_append.mp hy with hy | hy
      · exact h.each y hy
      · rw [List.mem_singleton.mp hy]; exact ⟨hx, hw⟩
    · have := h.sum
      simp
      omega
theorem addPs_ok {zs : List Int} {b : List (List Int)} {d : Nat} {w : Str} : ∀ {ps : List PyData} {N : Nat} {acc : List PyData}, Acc zs b d w N acc → (∀ x ∈ ps, Good zs b d x ∧ wd x ≠ w) → Acc zs b d w (N + (ps.map (tests d)).sum) (ps.foldl addP acc) ∧ (∀ y, y ∈ ps.foldl addP acc ↔ y ∈ acc ∨ y ∈ ps)
  | [], N, acc, h, _ => ⟨by simpa using h, by simp⟩
  | x :: ps, N, acc, h, hp => by
    obtain ⟨hx, hw⟩ := hp x List.mem_cons_self
    obtain ⟨h1, h2⟩ := addP_ok h hx hw
    obtain ⟨h3, h4⟩ := addPs_ok h1 fun y hy => hp y (List.mem_cons_of_mem _ hy)
    rw [List.foldl_cons]
    refine ⟨by simpa [Nat.add_assoc] using h3, fun y => ?_⟩
    rw [h4, h2]
    simp [or_assoc]
/-- the guard's share -/
theorem give_ok {zs : List Int} {b : List (List Int)} {d : Nat} {w : Str} (hw : w = "all" ∨ w = "any") {l : PyData} (hl : Good zs b d l) : (∀ x ∈ give w l, Good zs b d x ∧ wd x ≠ w) ∧ ((give w l).map (tests d)).sum = tests d l ∧ give w l ≠ [] ∧
    ∀ vs, InBox b vs → (w = "all" → (give w l).all (holds vs d) = holds vs d l) ∧ (w = "any" → (give w l).any (holds vs d) = holds vs d l) := by
  by_cases h : wd l = w
  · unfold give
    rw [if_pos h]
    cases d with
    | zero => exact hl.elim
    | succ d =>
      have body : ∀ gs : List PyData, 2 ≤ gs.length → (∀ x ∈ gs, Good zs b d x ∧ wd x ≠ w) → (∀ x ∈ gs, Good zs b (d + 1) x ∧ wd x ≠ w) ∧ (gs.map (tests (d + 1))).sum = (gs.map (tests d)).sum ∧ gs ≠ [] ∧ ∀ vs, gs.all (holds vs (d + 1)) = gs.all (holds vs d) ∧ gs.any (holds vs (d + 1)) = gs.any (holds vs d) := fun gs h2 hk => by
        refine ⟨fun x hx => ⟨(hk x hx).1.up (by omega), (hk x hx).2⟩, ?_, fun z => by rw [z] at h2; simp at h2, fun vs => ⟨?_, ?_⟩⟩
        · rw [List.map_congr_left fun k hm => tests_up (d := d) (e := d + 1) (by omega) (hk k hm).1.gok]
        · rw [Bool.eq_iff_iff, List.all_eq_true, List.all_eq_true]
          exact ⟨fun q k hm => by rw [← holds_up (d := d) (e := d + 1) (by omega) (hk k hm).1.gok]; exact q k hm, fun q k hm => by rw [holds_up (d := d) (e := d + 1) (by omega) (hk k hm).1.gok]; exact q k hm⟩
        · rw [Bool.eq_iff_iff, List.any_eq_true, List.any_eq_true]
          exact ⟨fun ⟨k, hm, q⟩ => ⟨k, hm, by rw [← holds_up (d := d) (e := d + 1) (by omega) (hk k hm).1.gok]; exact q⟩, fun ⟨k, hm, q⟩ => ⟨k, hm, by rw [holds_up (d := d) (e := d + 1) (by omega) (hk k hm).1.gok]; exact q⟩⟩
      rcases hl with ⟨v, x, z, s, rfl, _⟩ | ⟨a, c, s, q, rfl, _⟩ | ⟨k, rfl, hk, hw2⟩ | ⟨gs, rfl, h2, hl, hn, hk⟩ | ⟨gs, rfl, h2, hl, hn, hk⟩
      · simp [wd] at h; rcases hw with rfl | rfl <;> simp at h
      · simp [wd] at h; rcases hw with rfl | rfl <;> simp at h
      · simp [wd] at h; rcases hw with rfl | rfl <;> simp at h
      · have e : w = "all" := by rw [← h]; rfl
        subst e
        obtain ⟨b1, b2, b3, b4⟩ := body gs h2 hk
        refine ⟨b1, ?_, b3, fun vs hv => ⟨fun _ => ?_, fun z => by simp at z⟩⟩
        · rw [show prt (.tuple [.str "all", .tuple gs]) = gs from rfl, b2]
          simp only [tests]
          simp
        · rw [show prt (.tuple [.str "all", .tuple gs]) = gs from rfl, (b4 vs).1]
          simp only [holds]
          simp
      · have e : w = "any" := by rw [← h]; rfl
        subst e
        obtain ⟨b1, b2, b3, b4⟩ := body gs h2 hk
        refine ⟨b1, ?_, b3, fun vs hv => ⟨fun z => by simp at z, fun _ => ?_⟩⟩
        · rw [show prt (.tuple [.str "any", .tuple gs]) = gs from rfl, b2]
          simp only [tests]
          simp
        · rw [show prt (.tuple [.str "any", .tuple gs]) = gs from rfl, (b4 vs).2]
          simp only [holds]
          simp
  · unfold give
    rw [if_neg h]
    exact ⟨fun x hx => by rw [List.mem_singleton.mp hx]; exact ⟨hl, h⟩, by simp, by simp, fun vs hv => ⟨fun _ => by simp, fun _ => by simp⟩⟩
end HT
end

section
set_option Elab.async false
set_option linter.all false
set_option maxRecDepth 100000
set_option maxHeartbeats 4000000
/-! F3: folding keeps the meaning (plain) -/
namespace HT
open PySem PySem.Spec L2 Ev
theorem fold_some {b : List (List Int)} {t : Bool} : ∀ {d : Nat} {g : PyData}, told b d g = some t → fold b d g = if t = true then gTru else gFls
  | 0, _, h => by simp [told] at h
  | d + 1, g, h => by
    unfold fold
    rw [h]
theorem give_dec {w : Str} (hw : w = "all" ∨ w = "any") : give w (if decide (w = "all") = true then gTru else gFls) = [] := by
  rcases hw with rfl | rfl <;> simp [give, wd, prt]
theorem fold_loop {zs : List Int} {b : List (List Int)} (hb : BoxOk zs b) {d : Nat} {w : Str} (hw : w = "all" ∨ w = "any") (ih : ∀ g, GOk zs d g → tests d g ≤ 1000 → told b d g = none → Good zs b d (fold b d g) ∧ tests d (fold b d g) ≤ tests d g ∧ ∀ vs, InBox b vs → holds vs d (fold b d g) = holds vs d g) :
    ∀ (gs acc : List PyData) (N : Nat), (∀ k ∈ gs, GOk zs d k ∧ tests d k ≤ 1000 ∧ ∀ t, told b d k = some t → t = decide (w = "all")) → Acc zs b d w N acc →
      Acc zs b d w (N + (gs.map (tests d)).sum) (gs.foldl (fun acc k => (give w (fold b d k)).foldl addP acc) acc) ∧ ((acc ≠ [] ∨ ∃ k ∈ gs, told b d k = none) → gs.foldl (fun acc k => (give w (fold b d k)).foldl addP acc) acc ≠ []) ∧
      ∀ vs, InBox b vs → (w = "all" → (gs.foldl (fun acc k => (give w (fold b d k)).foldl addP acc) acc).all (holds vs d) = (acc.all (holds vs d) && gs.all (holds vs d))) ∧ (w = "any" → (gs.foldl (fun acc k => (give w (fold b d k)).foldl addP acc) acc).any (holds vs d) = (acc.any (holds vs d) || gs.any (holds vs d)))
  | [], acc, N, _, h => by
    refine ⟨by simpa using h, fun z => ?_, fun vs hv => ⟨fun _ => by simp, fun _ => by simp⟩⟩
    rcases z with z | ⟨k, hk, _⟩
    · exact z
    · cases hk
  | k :: gs, acc, N, hg, h => by
    obtain ⟨k1, k2, k3⟩ := hg k List.mem_cons_self
    have hg2 := fun j hj => hg j (List.mem_cons_of_mem _ hj)
    rw [List.foldl_cons]
    cases e : told b d k with
    | some t =>
      have et := k3 t e
      have ef : give w (fold b d k) = [] := by
        rw [fold_some e, et]
        exact give_dec hw
      rw [ef, List.foldl_nil]
      obtain ⟨r1, r2, r3⟩ := fold_loop hb hw ih gs acc N hg2 h
      refine ⟨⟨r1.nd, r1.each, Nat.le_trans r1.sum (by simp)⟩, fun z => r2 ?_, fun vs hv => ?_⟩
      · rcases z with z | ⟨j, hj, ej⟩
        · exact .inl z
        · rcases List.mem_cons.mp hj with rfl | hj
          · rw [e] at ej; cases ej
          · exact .inr ⟨j, hj, ej⟩
      · have hk := told_sound hb hv d k k1 t e
        obtain ⟨q1, q2⟩ := r3 vs hv
        refine ⟨fun z => ?_, fun z => ?_⟩
        · rw [q1 z, List.all_cons, hk, et, z]
          simp
        · rw [q2 z, List.any_cons, hk, et, z]
          simp
    | none =>
      obtain ⟨i1, i2, i3⟩ := ih k k1 k2 e
      obtain ⟨g1, g2, g3, g4⟩ := give_ok hw i1
      obtain ⟨a1, a2⟩ := addPs_ok h g1
      obtain ⟨r1, r2, r3⟩ := fold_loop hb hw ih gs _ _ hg2 a1
      refine ⟨⟨r1.nd, r1.each, Nat.le_trans r1.sum (by rw [g2]; simp; omega)⟩, fun _ => r2 (.inl fun z => ?_), fun vs hv => ?_⟩
      · match hgv : give w (fold b d k), g3 with
        | x :: r, _ =>
          have := (a2 x).mpr (.inr (by rw [hgv]; exact List.mem_cons_self))
          rw [z] at this
          cases this
      · obtain ⟨q1, q2⟩ := r3 vs hv
        obtain ⟨p1, p2⟩ := g4 vs hv
        refine ⟨fun z => ?_, fun z => ?_⟩
        · rw [q1 z, List.all_cons, ← Bool.and_assoc, ← i3 vs hv, ← p1 z]
          congr 1
          rw [Bool.eq_iff_iff, Bool.and_eq_true, List.all_eq_true, List.all_eq_true, List.all_eq_true]
          exact ⟨fun q => ⟨fun y hy => q y ((a2 y).mpr (.inl hy)), fun y hy => q y ((a2 y).mpr (.inr hy))⟩, fun ⟨u, v⟩ y hy => ((a2 y).mp hy).elim (u y) (v y)⟩
        · rw [q2 z, List.any_cons, ← Bool.or_assoc, ← i3 vs hv, ← p2 z]
          congr 1
          rw [Bool.eq_iff_iff, Bool.or_eq_true, List.any_eq_true, List.any_eq_true, List.any_eq_true]
          exact ⟨fun ⟨y, hy, q⟩ => ((a2 y).mp hy).elim (fun m => .inl ⟨y, m, q⟩) (fun m => .inr ⟨y, m, q⟩), fun z => z.elim (fun ⟨y, hy, q⟩ => ⟨y, (a2 y).mpr (.inl hy), q⟩) fun ⟨y, hy, q⟩ => ⟨y, (a2 y).mpr (.inr hy), q⟩⟩
theorem sum_len {f : PyData → Nat} : ∀ {l : List PyData}, (∀ x ∈ l, 1 ≤ f x) → l.length ≤ (l.map f).sum
  | [], _ => by simp
  | x :: l, h => by
    have h1 := h x List.mem_cons_self
    have h2 := sum_len (l := l) fun y hy => h y (List.mem_cons_of_mem _ hy)
    simp
    omega
theorem end_ok {zs : List Int} {b : List (List Int)} {d N : Nat} {w : Str} (hw : w = "all" ∨ w = "any") {acc : List PyData} (h : Acc zs b d w N acc) (ne : acc ≠ []) (hN : N ≤ 1000) : Good zs b (d + 1) (endP w acc) ∧ tests (d + 1) (endP w acc) ≤ N ∧
    ∀ vs, (w = "all" → holds vs (d + 1) (endP w acc) = acc.all (holds vs d)) ∧ (w = "any" → holds vs (d + 1) (endP w acc) = acc.any (holds vs d)) := by
  have hs := h.sum
  have hl := sum_len (f := tests d) (l := acc) fun x hx => (h.each x hx).1.pos
  unfold endP
  by_cases h1 : acc.length = 1
  · rw [if_pos h1]
    match acc, h1, h, hs with
    | [x], _, h, hs =>
      obtain ⟨hx, _⟩ := h.each x List.mem_cons_self
      refine ⟨hx.up (by omega), ?_, fun vs => ⟨fun _ => ?_, fun _ => ?_⟩⟩
      · show tests (d + 1) x ≤ N
        rw [tests_up (d := d) (e := d + 1) (by omega) hx.gok]
        simpa using hs
      · show holds vs (d + 1) x = _
        rw [holds_up (d := d) (e := d + 1) (by omega) hx.gok]
        simp
      · show holds vs (d + 1) x = _
        rw [holds_up (d := d) (e := d + 1) (by omega) hx.gok]
        simp
  · rw [if_neg h1]
    have h2 : 2 ≤ acc.length := by have := List.length_pos_iff.mpr ne; omega
    rcases hw with rfl | rfl
    · refine ⟨.inr (.inr (.inr (.inl ⟨acc, rfl, h2, by omega, h.nd, h.each⟩))), ?_, fun vs => ⟨fun _ => ?_, fun z => by simp at z⟩⟩
      · simp only [tests]
        simpa using hs
      · simp only [holds]
        simp
    · refine ⟨.inr (.inr (.inr (.inr ⟨acc, rfl, h2, by omega, h.nd, h.each⟩))), ?_, fun vs => ⟨fun z => by simp at z, fun _ => ?_⟩⟩
      · simp only [tests]
        simpa using hs
      · simp only [holds]
        simp
theorem sum_le {f : PyData → Nat} : ∀ {l : List PyData} {x : PyData}, x ∈ l → f x ≤ (l.map f).sum
  | y :: l, x, h => by
    rcases List.mem_cons.mp h with rfl | h
    · simp
    · have := sum_le (f := f) h
      simp
      omega
theorem sameF_ok {zs : List Int} {b : List (List Int)} (hb : BoxOk zs b) {d a c : Nat} (ha : a < zs.length) (hc : c < zs.length) (e : told b (d + 1) (.tuple [.str "same", .int (a : Int), .int (c : Int)]) = none) : Good zs b (d + 1) (sameF b a c) ∧ tests (d + 1) (sameF b a c) = 1 ∧
    ∀ vs, InBox b vs → holds vs (d + 1) (sameF b a c) = holds vs (d + 1) (.tuple [.str "same", .int (a : Int), .int (c : Int)]) := by
  obtain ⟨s, hs, ok⟩ := hb.get (List.getElem?_eq_getElem ha)
  obtain ⟨q, hq, ok2⟩ := hb.get (List.getElem?_eq_getElem hc)
  simp [told, hs, hq] at e
  have e0 := e
  unfold sameT at e
  split at e
  · rename_i hany
    split at e
    · cases e
    · rename_i hne
      have h11 : ¬ (s.length = 1 ∧ q.length = 1) := fun z => hne (.inr z)
      obtain ⟨w, w1, w2⟩ := List.any_eq_true.mp hany
      have w3 := of_decide_eq_true w2
      have ea : b.getD a [] = s := by simp [hs]
      have ec : b.getD c [] = q := by simp [hq]
      unfold sameF
      rw [ea, ec]
      by_cases l1 : s.length = 1
      · rw [if_pos l1]
        have es := len_one l1 w1
        have eg : s.getD 0 0 = w := by rw [es]; rfl
        rw [eg]
        have hin := ok2.within w w3
        refine ⟨.inl ⟨c, w, zs[c], q, rfl, List.getElem?_eq_getElem hc, hin.1, hin.2, hq, w3, fun z => h11 ⟨l1, z⟩⟩, by simp [tests], fun vs hv => ?_⟩
        obtain ⟨u, hu, hm⟩ := hv.get hs
        obtain ⟨y, hy, hn⟩ := hv.get hq
        rw [es] at hm
        have := List.mem_singleton.mp hm
        subst this
        simp [holds, hu, hy]
        exact eq_comm
      · rw [if_neg l1]
        by_cases l2 : q.length = 1
        · rw [if_pos l2]
          have eq2 := len_one l2 w3
          have eg : q.getD 0 0 = w := by rw [eq2]; rfl
          rw [eg]
          have hin := ok.within w w1
          refine ⟨.inl ⟨a, w, zs[a], s, rfl, List.getElem?_eq_getElem ha, hin.1, hin.2, hs, w1, l1⟩, by simp [tests], fun vs hv => ?_⟩
          obtain ⟨u, hu, hm⟩ := hv.get hs
          obtain ⟨y, hy, hn⟩ := hv.get hq
          rw [eq2] at hn
          have := List.mem_singleton.mp hn
          subst this
          simp [holds, hu, hy]
        · rw [if_neg l2]
          exact ⟨.inr (.inl ⟨a, c, s, q, rfl, ha, hc, hs, hq, e0, l1, l2⟩), by simp [tests], fun vs hv => rfl⟩
  · cases e
theorem fold_ok {zs : List Int} {b : List (List Int)} (hb : BoxOk zs b) : ∀ (d : Nat) (g : PyData), GOk zs d g → tests d g ≤ 1000 → told b d g = none → Good zs b d (fold b d g) ∧ tests d (fold b d g) ≤ tests d g ∧ ∀ vs, InBox b vs → holds vs d (fold b d g) = holds vs d g
  | 0, _, h, _, _ => h.elim
  | d + 1, g, h, ht, e => by
    have many : ∀ (w : Str) (gs : List PyData), (w = "all" ∨ w = "any") → (∀ k ∈ gs, GOk zs d k) → (gs.map (tests d)).sum ≤ 1000 → (∀ k ∈ gs, ∀ t, told b d k = some t → t = decide (w = "all")) → (∃ k ∈ gs, told b d k = none) →
        Good zs b (d + 1) (endP w (gs.foldl (fun acc k => (give w (fold b d k)).foldl addP acc) [])) ∧ tests (d + 1) (endP w (gs.foldl (fun acc k => (give w (fold b d k)).foldl addP acc) [])) ≤ (gs.map (tests d)).sum ∧
        ∀ vs, InBox b vs → (w = "all" → holds vs (d + 1) (endP w (gs.foldl (fun acc k => (give w (fold b d k)).foldl addP acc) [])) = gs.all (holds vs d)) ∧ (w = "any" → holds vs (d + 1) (endP w (gs.foldl (fun acc k => (give w (fold b d k)).foldl addP acc) [])) = gs.any (holds vs d)) := fun w gs hw hk hs hn hex => by
      have a0 : Acc zs b d w 0 [] := ⟨.nil, (fun _ h => by cases h), by simp⟩
      obtain ⟨r1, r2, r3⟩ := fold_loop hb hw (fold_ok hb d) gs [] 0 (fun k hm => ⟨hk k hm, Nat.le_trans (sum_le hm) hs, hn k hm⟩) a0
      rw [Nat.zero_add] at r1
      obtain ⟨s1, s2, s3⟩ := end_ok hw r1 (r2 (.inr hex)) hs
      refine ⟨s1, s2, fun vs hv => ?_⟩
      obtain ⟨q1, q2⟩ := r3 vs hv
      obtain ⟨p1, p2⟩ := s3 vs
      exact ⟨fun z => by rw [p1 z, q1 z]; simp, fun z => by rw [p2 z, q2 z]; simp⟩
    rcases h with ⟨v, x, z, rfl, hz, h0, h1⟩ | ⟨a, c, rfl, ha, hc⟩ | ⟨k, rfl, hk⟩ | ⟨gs, rfl, hl, hk⟩ | ⟨gs, rfl, hl, hk⟩
    · obtain ⟨s, hs, ok⟩ := hb.get hz
      have ef : fold b (d + 1) (.tuple [.str "is", .int (v : Int), .int x]) = .tuple [.str "is", .int (v : Int), .int x] := by
        unfold fold
        rw [e]
        simp
      rw [ef]
      refine ⟨?_, Nat.le_refl _, fun _ _ => rfl⟩
      simp [told, hs] at e
      split at e
      · rename_i hx
        exact .inl ⟨v, x, z, s, rfl, hz, h0, h1, hs, hx, fun z => by rw [if_pos z] at e; cases e⟩
      · cases e
    · have ef : fold b (d + 1) (.tuple [.str "same", .int (a : Int), .int (c : Int)]) = sameF b a c := by
        unfold fold
        rw [e]
        simp
      rw [ef]
      obtain ⟨q1, q2, q3⟩ := sameF_ok hb ha hc e
      exact ⟨q1, by rw [q2]; simp [tests], q3⟩
    · have ek : told b d k = none := by simpa [told] using e
      have tk : tests d k ≤ 1000 := by simpa [tests] using ht
      obtain ⟨i1, i2, i3⟩ := fold_ok hb d k hk tk ek
      have ef : fold b (d + 1) (.tuple [.str "not", k]) = if wd (fold b d k) = "not" then snd1 (fold b d k) else .tuple [.str "not", fold b d k] := by
        conv => lhs; unfold fold
        rw [e]
        simp
      rw [ef]
      by_cases hn : wd (fold b d k) = "not"
      · rw [if_pos hn]
        generalize fold b d k = f at *
        cases d with
        | zero => exact i1.elim
        | succ d =>
          rcases i1 with ⟨v, x, z, s, rfl, _⟩ | ⟨a, c, s, q, rfl, _⟩ | ⟨j, rfl, hj, hw2⟩ | ⟨gs, rfl, _⟩ | ⟨gs, rfl, _⟩
          · simp [wd] at hn
          · simp [wd] at hn
          · have e2 : snd1 (.tuple [.str "not", j]) = j := rfl
            rw [e2]
            refine ⟨hj.up (by omega), ?_, fun vs hv => ?_⟩
            · rw [tests_up (d := d) (e := d + 1 + 1) (by omega) hj.gok]
              simp [tests] at i2 ⊢
              exact i2
            · have := i3 vs hv
              rw [holds_up (d := d) (e := d + 1 + 1) (by omega) hj.gok]
              have h3 : holds vs (d + 1) (.tuple [.str "not", j]) = !holds vs d j := by simp [holds]
              have h4 : holds vs (d + 1 + 1) (.tuple [.str "not", k]) = !holds vs (d + 1) k := by simp [holds]
              rw [h4, ← this, h3]
              simp
          · simp [wd] at hn
          · simp [wd] at hn
      · rw [if_neg hn]
        refine ⟨.inr (.inr (.inl ⟨_, rfl, i1, hn⟩)), by simp [tests]; exact i2, fun vs hv => ?_⟩
        have := i3 vs hv
        simp [holds, this]
    · have ef : fold b (d + 1) (.tuple [.str "all", .tuple gs]) = endP "all" (gs.foldl (fun acc k => (give "all" (fold b d k)).foldl addP acc) []) := by
        conv => lhs; unfold fold
        rw [e]
        simp
      rw [ef]
      simp [-List.mem_map, told] at e
      obtain ⟨n1, n2⟩ := allT_none e
      have et : tests (d + 1) (.tuple [.str "all", .tuple gs]) = (gs.map (tests d)).sum := by simp only [tests]; simp
      rw [et] at ht ⊢
      obtain ⟨q1, q2, q3⟩ := many "all" gs (.inl rfl) hk ht (fun k hm t hk => by
        cases t with
        | true => simp
        | false => exact absurd (List.mem_map.mpr ⟨k, hm, hk⟩) n1) (by obtain ⟨k, hm, hk⟩ := List.mem_map.mp n2; exact ⟨k, hm, hk⟩)
      refine ⟨q1, q2, fun vs hv => ?_⟩
      rw [(q3 vs hv).1 rfl]
      simp only [holds]
      simp
    · have ef : fold b (d + 1) (.tuple [.str "any", .tuple gs]) = endP "any" (gs.foldl (fun acc k => (give "any" (fold b d k)).foldl addP acc) []) := by
        conv => lhs; unfold fold
        rw [e]
        simp
      rw [ef]
      simp [-List.mem_map, told] at e
      obtain ⟨n1, n2⟩ := allT_none e
      have et : tests (d + 1) (.tuple [.str "any", .tuple gs]) = (gs.map (tests d)).sum := by simp only [tests]; simp
      rw [et] at ht ⊢
      obtain ⟨q1, q2, q3⟩ := many "any" gs (.inr rfl) hk ht (fun k hm t hk => by
        cases t with
        | false => simp
        | true => exact absurd (List.mem_map.mpr ⟨k, hm, hk⟩) n1) (by obtain ⟨k, hm, hk⟩ := List.mem_map.mp n2; exact ⟨k, hm, hk⟩)
      refine ⟨q1, q2, fun vs hv => ?_⟩
      rw [(q3 vs hv).2 rfl]
      simp only [holds]
      simp
end HT
end

section
set_option Elab.async false
set_option linter.all false
set_option maxRecDepth 100000
set_option maxHeartbeats 4000000
/-! F4: folding once is enough; folded forms are small (plain) -/
namespace HT
open PySem PySem.Spec L2 Ev
theorem loop_id {b : List (List Int)} {d : Nat} {w : Str} : ∀ (gs acc : List PyData), (acc ++ gs).Nodup → (∀ k ∈ acc ++ gs, sit k = true) → (∀ k ∈ gs, fold b d k = k ∧ wd k ≠ w) → gs.foldl (fun acc k => (give w (fold b d k)).foldl addP acc) acc = acc ++ gs
  | [], acc, _, _, _ => by simp
  | k :: gs, acc, h, hs, hk => by
    obtain ⟨k1, k2⟩ := hk k List.mem_cons_self
    have hn : k ∉ acc := fun z => by
      rw [List.nodup_append] at h
      exact h.2.2 k z k List.mem_cons_self rfl
    have sk := hs k (by simp)
    have ea : addP acc k = acc ++ [k] := by
      unfold addP
      rw [if_neg]
      exact fun z => hn ((any_eqv (fun y hy => hs y (List.mem_append_left _ hy)) sk).mp z)
    have eg : give w k = [k] := by unfold give; rw [if_neg k2]
    rw [List.foldl_cons, k1, eg, List.foldl_cons, List.foldl_nil, ea, loop_id gs (acc ++ [k]) (by simpa using h) (by simpa using hs) fun j hj => hk j (List.mem_cons_of_mem _ hj)]
    simp
theorem fold_id {zs : List Int} {b : List (List Int)} : ∀ {d : Nat} {g : PyData}, Good zs b d g → fold b d g = g
  | 0, _, h => h.elim
  | d + 1, g, h => by
    have e := h.none
    have many : ∀ (w : Str) (gs : List PyData), 2 ≤ gs.length → gs.Nodup → (∀ k ∈ gs, Good zs b d k ∧ wd k ≠ w) → endP w (gs.foldl (fun acc k => (give w (fold b d k)).foldl addP acc) []) = .tuple [.str w, .tuple gs] := fun w gs h2 hn hk => by
      rw [loop_id gs [] (by simpa using hn) (fun k hm => gok_sit (hk k (by simpa using hm)).1.gok) fun k hm => ⟨fold_id (hk k hm).1, (hk k hm).2⟩]
      unfold endP
      rw [List.nil_append, if_neg (by omega)]
    unfold fold
    rw [e]
    rcases h with ⟨v, x, z, s, rfl, _⟩ | ⟨a, c, s, q, rfl, h1, h2, hs, hq, hn, l1, l2⟩ | ⟨k, rfl, hk, hw⟩ | ⟨gs, rfl, h2, hl, hn, hk⟩ | ⟨gs, rfl, h2, hl, hn, hk⟩
    · simp
    · simp [sameF, hs, hq, l1, l2]
    · simp [fold_id hk, hw]
    · simp
      exact many "all" gs h2 hn hk
    · simp
      exact many "any" gs h2 hn hk
theorem tame_sum {k : Nat} {f : PyData → Nat} : ∀ {gs : List PyData}, (∀ g ∈ gs, Tame (f g) k g) → TameAll (gs.map fun g => f g + 1).sum k gs
  | [], _ => .nil
  | g :: gs, h => by
    have h1 := h g List.mem_cons_self
    have h2 := tame_sum fun j hj => h j (List.mem_cons_of_mem _ hj)
    exact TameAll.cons h1 h2 (by simp)
theorem good_tame {zs : List Int} {b : List (List Int)} (hz : zs.length ≤ 100) (hv : ∀ z ∈ zs, z ≤ 100) : ∀ {d : Nat} {g : PyData}, Good zs b d g → Tame (24 * tests d g - 12) (2 * d) g ∧ (wd g ≠ "not" → Tame (24 * tests d g - 17) (2 * d) g)
  | 0, _, h => h.elim
  | d + 1, g, h => by
    have many : ∀ (w : Str) (gs : List PyData), (w = "all" ∨ w = "any") → 2 ≤ gs.length → (∀ k ∈ gs, Good zs b d k) → Tame (24 * (gs.map (tests d)).sum - 17) (2 * (d + 1)) (.tuple [.str w, .tuple gs]) := fun w gs hw h2 hk => by
      have t1 : TameAll (gs.map fun g => (24 * tests d g - 12) + 1).sum (2 * d) gs := tame_sum fun g hg => (good_tame hz hv (hk g hg)).1
      have e : ∀ gs : List PyData, (∀ k ∈ gs, 1 ≤ tests d k) → (gs.map fun g => (24 * tests d g - 12) + 1).sum + 11 * gs.length = 24 * (gs.map (tests d)).sum := by
        intro gs
        induction gs with
        | nil => intro _; simp
        | cons k gs ih =>
          intro hp
          have h1 := hp k List.mem_cons_self
          have h2 := ih fun j hj => hp j (List.mem_cons_of_mem _ hj)
          simp only [List.map_cons, List.sum_cons, List.length_cons]
          omega
      have e2 := e gs fun k hm => (hk k hm).pos
      have tw : Tame 3 (2 * d + 1) (.str w) := by rcases hw with rfl | rfl <;> exact tame_w (by decide +kernel)
      exact Tame.tup (k := 2 * d + 1) (.cons (a := 3) (b := (gs.map fun g => (24 * tests d g - 12) + 1).sum + 1) tw (.cons (a := (gs.map fun g => (24 * tests d g - 12) + 1).sum) (b := 0) (Tame.tup t1) .nil (by omega)) (by omega))
    have three : ∀ (w : Str) (x y : Int), (w = "is" ∨ w = "same") → 0 ≤ x → x < 1000 → 0 ≤ y → y < 1000 → Tame 7 (2 * (d + 1)) (.tuple [.str w, .int x, .int y]) := fun w x y hw x0 x1 y0 y1 => by
      have tw : Tame 4 (2 * d + 1) (.str w) := by rcases hw with rfl | rfl <;> exact tame_w (by decide +kernel)
      exact Tame.tup (k := 2 * d + 1) (.cons (a := 4) (b := 2) tw (.cons (a := 0) (b := 1) (tame_small (by omega) (by omega)) (.cons (a := 0) (b := 0) (tame_small (by omega) (by omega)) .nil)))
    rcases h with ⟨v, x, z, s, rfl, h1, h2, h3, _⟩ | ⟨a, c, s, q, rfl, h1, h2, _⟩ | ⟨k, rfl, hk, hw⟩ | ⟨gs, rfl, h2, hl, hn, hk⟩ | ⟨gs, rfl, h2, hl, hn, hk⟩
    · have hv2 : v < zs.length := (List.getElem?_eq_some_iff.mp h1).1
      have hz2 := hv z (List.mem_of_getElem? h1)
      have t := three "is" v x (.inl rfl) (by omega) (by omega) h2 (by omega)
      simp only [tests]
      exact ⟨t.imp (by decide) (Nat.le_refl _), fun _ => t.imp (by decide) (Nat.le_refl _)⟩
    · have t := three "same" a c (.inr rfl) (by omega) (by omega) (by omega) (by omega)
      simp only [tests]
      exact ⟨t.imp (by decide) (Nat.le_refl _), fun _ => t.imp (by decide) (Nat.le_refl _)⟩
    · have t := (good_tame hz hv hk).2 hw
      have hp := hk.pos
      have e : tests (d + 1) (.tuple [.str "not", k]) = tests d k := by simp [tests]
      rw [e]
      refine ⟨?_, fun z => absurd rfl z⟩
      exact Tame.tup (k := 2 * d + 1) (.cons (a := 3) (b := 24 * tests d k - 17 + 1) (tame_w (by decide +kernel)) (.cons (a := 24 * tests d k - 17) (b := 0) (t.imp (Nat.le_refl _) (by omega)) .nil (by omega)) (by omega))
    · have t := many "all" gs (.inl rfl) h2 fun k hm => (hk k hm).1
      have e : tests (d + 1) (.tuple [.str "all", .tuple gs]) = (gs.map (tests d)).sum := by simp only [tests]; simp
      rw [e]
      exact ⟨t.imp (by omega) (Nat.le_refl _), fun _ => t⟩
    · have t := many "any" gs (.inr rfl) h2 fun k hm => (hk k hm).1
      have e : tests (d + 1) (.tuple [.str "any", .tuple gs]) = (gs.map (tests d)).sum := by simp only [tests]; simp
      rw [e]
      exact ⟨t.imp (by omega) (Nat.le_refl _), fun _ => t⟩
/-- all that is asked of a folded guard -/
theorem fold_all {zs : List Int} {b : List (List Int)} (hb : BoxOk zs b) (hz : zs.length ≤ 100) (hv : ∀ z ∈ zs, z ≤ 100) {d : Nat} (hd : 1 ≤ d) {g : PyData} (hg : GOk zs d g) (ht : tests d g ≤ 1000) :
    GOk zs d (fold b d g) ∧ tests d (fold b d g) ≤ tests d g ∧ fold b d (fold b d g) = fold b d g ∧ (∀ vs, InBox b vs → holds vs d (fold b d g) = holds vs d g) ∧ Tame 24000 (2 * d) (fold b d g) := by
  cases e : told b d g with
  | none =>
    obtain ⟨h1, h2, h3⟩ := fold_ok hb d g hg ht e
    refine ⟨h1.gok, h2, fold_id h1, h3, (good_tame hz hv h1).1.imp (by omega) (Nat.le_refl _)⟩
  | some t =>
    rw [fold_some e]
    obtain ⟨d, rfl⟩ : ∃ m, d = m + 1 := ⟨d - 1, by omega⟩
    have hs := fun vs hv => told_sound hb (vs := vs) hv (d + 1) g hg t e
    cases t with
    | true =>
      have et : told b (d + 1) gTru = some true := by simp [told, allT]
      rw [if_pos rfl]
      refine ⟨.inr (.inr (.inr (.inl ⟨[], rfl, by decide, (fun _ h => by cases h)⟩))), by simp [tests], by rw [fold_some et, if_pos rfl], fun vs hv => by rw [hs vs hv]; simp [holds], ?_⟩
      exact (Tame.tup (k := 1) (.cons (a := 3) (b := 1) (tame_w (by decide +kernel)) (.cons (a := 0) (b := 0) (Tame.tup (k := 0) .nil) .nil))).imp (m := 5) (by decide) (by omega)
    | false =>
      have et : told b (d + 1) gFls = some false := by simp [told, allT]
      rw [if_neg (by decide)]
      refine ⟨.inr (.inr (.inr (.inr ⟨[], rfl, by decide, (fun _ h => by cases h)⟩))), by simp [tests], by rw [fold_some et, if_neg (by decide)], fun vs hv => by rw [hs vs hv]; simp [holds], ?_⟩
      exact (Tame.tup (k := 1) (.cons (a := 3) (b := 1) (tame_w (by decide +kernel)) (.cons (a := 0) (b := 0) (Tame.tup (k := 0) .nil) .nil))).imp (m := 5) (by decide) (by omega)
end HT
end

section
set_option Elab.async false
set_option linter.all false
set_option maxRecDepth 100000
set_option maxHeartbeats 4000000
/-! F5: the program's folding -/
namespace HT
open PySem PySem.Spec L2 Ev
theorem g_always : G[7]? = some gTru := rfl
theorem g_never : G[8]? = some gFls := rfl
theorem head_at {s : List Int} (h : s.length = 1) : atI (s.map PyData.int) 0 = some (.int (s.getD 0 0)) := by
  match s, h with
  | [y], _ => rfl
theorem r_folded_same {n : Nat} (hn : 0 < n) {zs : List Int} {b : List (List Int)} (hb : BoxOk zs b) {a c : Nat} (ha : a < zs.length) (hc : c < zs.length) (S : Store) : sem G T n 26 [.d (boxD b), .d (.tuple [.str "same", .int (a : Int), .int (c : Int)])] S = .ok (.d (sameF b a c)) S := by
  obtain ⟨m, rfl⟩ : ∃ m, n = m + 1 := ⟨n - 1, by omega⟩
  refine ok_of (gets_sem t_folded_same rfl ?_)
  obtain ⟨s, hs, ok⟩ := hb.get (List.getElem?_eq_getElem ha)
  obtain ⟨q, hq, ok2⟩ := hb.get (List.getElem?_eq_getElem hc)
  have x1 := box_at hs
  have x2 := box_at hq
  have g1 : b.getD a [] = s := by simp [hs]
  have g2 : b.getD c [] = q := by simp [hq]
  obtain ⟨y, hy⟩ : ∃ y, q.getD 0 0 = y := ⟨_, rfl⟩
  obtain ⟨w, hw⟩ : ∃ w, s.getD 0 0 = w := ⟨_, rfl⟩
  unfold sameF
  rw [g1, g2, hy, hw]
  by_cases l1 : s.length = 1
  · have h1 := head_at l1
    rw [hw] at h1
    simp [dSs, dS, dE, dEs, dAnd, dOr, dT, Ev.tAnd, Ev.tOr, dU, dN, dB2, dIf, dVar, dCst, dO, dC, dI, dCall, dKall, pick, entry, isiV, isiV2, isTys, isTy, tobV, truO, truV, okIf, datOf, seqOf, lstOf, datas, lstV, tupV, elsOf, Out.bind_ok, f_folded_same, tgt, parD, g_is, x1, x2, l1, h1]
  · have l1' : ¬ (s.length : Int) = 1 := by omega
    by_cases l2 : q.length = 1
    · have h2 := head_at l2
      rw [hy] at h2
      simp [dSs, dS, dE, dEs, dAnd, dOr, dT, Ev.tAnd, Ev.tOr, dU, dN, dB2, dIf, dVar, dCst, dO, dC, dI, dCall, dKall, pick, entry, isiV, isiV2, isTys, isTy, tobV, truO, truV, okIf, datOf, seqOf, lstOf, datas, lstV, tupV, elsOf, Out.bind_ok, f_folded_same, tgt, parD, g_is, x1, x2, l1, l1', l2, h2]
    · have l2' : ¬ (q.length : Int) = 1 := by omega
      simp [dSs, dS, dE, dEs, dAnd, dOr, dT, Ev.tAnd, Ev.tOr, dU, dN, dB2, dIf, dVar, dCst, dO, dC, dI, dCall, dKall, pick, entry, isiV, isiV2, isTys, isTy, tobV, truO, truV, okIf, datOf, seqOf, lstOf, datas, lstV, tupV, elsOf, Out.bind_ok, f_folded_same, tgt, parD, g_is, x1, x2, l1, l1', l2, l2']
theorem notin_loc {S : Store} {n : Nat} {acc : List PyData} {x : PyData} (h : S[n]? = some (.lst acc)) (hx : Cl 60 x) (ha : ∀ y ∈ acc, Cl 60 y) : cmpV .NotIn (.d x) (.loc n) S = .ok (.d (.bool (!(acc.any fun z => PyData.eqv z x)))) S := by
  have e : cmpV .NotIn (.d x) (.loc n) S = (match datOf S (.d x), seqOf S (.loc n) with
      | some x, some ys => okIf (SeqAt.shaped x = true ∧ SeqAt.shaped (.list ys) = true) (.bool (!ys.any fun z => PyData.eqv z x)) S
      | _, _ => .stuck) := rfl
  have e2 : seqOf S (.loc n) = some acc := by
    unfold seqOf
    dsimp only
    rw [h]
  rw [e, e2]
  dsimp only [datOf]
  unfold okIf
  rw [if_pos ⟨(hx.up (by decide)).sh, (Cl.list (k := 63) fun y hy => (ha y hy).up (by decide)).sh⟩]
/-- one guard more -/
theorem step_ok {zs : List Int} {b : List (List Int)} (hb : BoxOk zs b) {d N : Nat} {w : Str} (hw : w = "all" ∨ w = "any") {k : PyData} (k1 : GOk zs d k) (k2 : tests d k ≤ 1000) (k3 : ∀ t, told b d k = some t → t = decide (w = "all")) {acc : List PyData} (h : Acc zs b d w N acc) :
    Acc zs b d w (N + tests d k) ((give w (fold b d k)).foldl addP acc) ∧ (∀ x ∈ give w (fold b d k), GOk zs d x ∧ x ≠ gTru ∧ x ≠ gFls) ∧ (give w (fold b d k)).length ≤ 1000 := by
  cases e : told b d k with
  | some t =>
    have ef : give w (fold b d k) = [] := by
      rw [fold_some e, k3 t e]
      exact give_dec hw
    rw [ef]
    exact ⟨⟨h.nd, h.each, Nat.le_trans h.sum (Nat.le_add_right _ _)⟩, (fun x hx => by cases hx), by simp⟩
  | none =>
    obtain ⟨i1, i2, i3⟩ := fold_ok hb d k k1 k2 e
    obtain ⟨g1, g2, g3, g4⟩ := give_ok hw i1
    obtain ⟨a1, a2⟩ := addPs_ok h g1
    refine ⟨⟨a1.nd, a1.each, Nat.le_trans a1.sum (by rw [g2]; omega)⟩, fun x hx => ?_, ?_⟩
    · have q := (g1 x hx).1
      refine ⟨q.gok, fun z => ?_, fun z => ?_⟩
      · have := q.none
        rw [z] at this
        cases d with
        | zero => exact q.elim
        | succ d => simp [told, allT] at this
      · have := q.none
        rw [z] at this
        cases d with
        | zero => exact q.elim
        | succ d => simp [told, allT] at this
    · have := sum_len (f := tests d) (l := give w (fold b d k)) fun x hx => (g1 x hx).1.pos
      omega
/-- what a folded guard looks like -/
theorem shape {zs : List Int} {d : Nat} {f : PyData} (h : GOk zs d f) : ∃ w x r, f = .tuple (.str w :: x :: r) ∧ wd f = w ∧ ((w = "all" ∨ w = "any") → r = [] ∧ x = .tuple (prt f)) := by
  cases d with
  | zero => exact h.elim
  | succ d =>
    rcases h with ⟨v, x, z, rfl, _⟩ | ⟨a, c, rfl, _⟩ | ⟨k, rfl, hk⟩ | ⟨gs, rfl, _⟩ | ⟨gs, rfl, _⟩
    · exact ⟨_, _, _, rfl, rfl, fun z => by rcases z with z | z <;> simp at z⟩
    · exact ⟨_, _, _, rfl, rfl, fun z => by rcases z with z | z <;> simp at z⟩
    · exact ⟨_, _, _, rfl, rfl, fun z => by rcases z with z | z <;> simp at z⟩
    · exact ⟨_, _, _, rfl, rfl, fun _ => ⟨rfl, rfl⟩⟩
    · exact ⟨_, _, _, rfl, rfl, fun _ => ⟨rfl, rfl⟩⟩
theorem fold_gok {zs : List Int} {b : List (List Int)} (hb : BoxOk zs b) {d : Nat} {g : PyData} (hg : GOk zs d g) (ht : tests d g ≤ 1000) : GOk zs d (fold b d g) := by
  cases d with
  | zero => exact hg.elim
  | succ d =>
    cases e : told b (d + 1) g with
    | none => exact (fold_ok hb (d + 1) g hg ht e).1.gok
    | some t =>
      rw [fold_some e]
      cases t with
      | true => exact .inr (.inr (.inr (.inl ⟨[], rfl, by decide, (fun _ h => by cases h)⟩)))
      | false => exact .inr (.inr (.inr (.inr ⟨[], rfl, by decide, (fun _ h => by cases h)⟩)))
def IFo (zs : List Int) (b : List (List Int)) (d : Nat) (w : Str) (g : PyData) (fin : List PyData) (S : Store) (its : List Val) (ρ : EnvD) (S' : Store) : Prop := ∃ (ks acc : List PyData) (N : Nat) (x6 x7 x8 : Option Val), its = ks.map Val.d ∧
  ρ = [some (.d (boxD b)), some (.d g), some (.d .none), some (.d (.str w)), none, some (.loc S.length), x6, x7, x8] ∧ Acc zs b d w N acc ∧ N + (ks.map (tests d)).sum ≤ 1000 ∧ (∀ k ∈ ks, GOk zs d k ∧ ∀ t, told b d k = some t → t = decide (w = "all")) ∧
  ks.foldl (fun acc k => (give w (fold b d k)).foldl addP acc) acc = fin ∧ S' = S ++ [.lst acc]
def IFi (zs : List Int) (b : List (List Int)) (d : Nat) (w : Str) (g : PyData) (fin : List PyData) (x6 x7 : Option Val) (S : Store) (its : List Val) (ρ : EnvD) (S' : Store) : Prop := ∃ (ps acc : List PyData) (x8 : Option Val), its = ps.map Val.d ∧
  ρ = [some (.d (boxD b)), some (.d g), some (.d .none), some (.d (.str w)), none, some (.loc S.length), x6, x7, x8] ∧ (∀ x ∈ ps, GOk zs d x) ∧ (∀ x ∈ acc, GOk zs d x) ∧ acc.length + ps.length ≤ 2000 ∧ ps.foldl addP acc = fin ∧ S' = S ++ [.lst acc]
theorem r_folded_in {zs : List Int} {b : List (List Int)} (hb : BoxOk zs b) : ∀ (d : Nat) (g : PyData), GOk zs d g → d ≤ 14 → tests d g ≤ 1000 → ∀ (n : Nat), d + 1 < n → ∀ S, sem G T n 25 [.d (boxD b), .d g] S = .ok (.d (fold b d g)) S
  | 0, _, h, _, _, _, _, _ => h.elim
  | d + 1, g, h, hd, ht, n, hn, S => by
    obtain ⟨m, rfl⟩ : ∃ m, n = m + 1 := ⟨n - 1, by omega⟩
    refine ok_of ?_
    have e0 := fun S => r_truth_in hb (d + 1) g h m (by omega) S
    cases e : told b (d + 1) g with
    | some t =>
      rw [e] at e0
      rw [fold_some e]
      rcases h with ⟨v, x, z, rfl, _⟩ | ⟨a, c, rfl, _⟩ | ⟨k, rfl, _⟩ | ⟨gs, rfl, _⟩ | ⟨gs, rfl, _⟩ <;> (refine gets_sem t_folded_in rfl ?_; simp [dSs, dS, dE, dEs, dAnd, dOr, dT, Ev.tAnd, Ev.tOr, dU, dN, dB2, dIf, dVar, dCst, dO, dC, dI, dCall, dKall, pick, entry, isiV, isiV2, isTys, isTy, tobV, truO, truV, okIf, datOf, seqOf, lstOf, datas, lstV, tupV, elsOf, Out.bind_ok, f_folded_in, tgt, parD, e0, toldD, g_always, g_never]; try (cases t <;> simp))
    | none =>
      rw [e] at e0
      have many : ∀ (w : Str) (gs : List PyData), (w = "all" ∨ w = "any") → g = .tuple [.str w, .tuple gs] → gs.length ≤ 1000 → (∀ k ∈ gs, GOk zs d k) → (gs.map (tests d)).sum ≤ 1000 → (∀ k ∈ gs, ∀ t, told b d k = some t → t = decide (w = "all")) → (∃ k ∈ gs, told b d k = none) →
          Gets (sem G T (m + 1) 25 [.d (boxD b), .d g] S) fun v S' => v = .d (endP w (gs.foldl (fun acc k => (give w (fold b d k)).foldl addP acc) [])) ∧ S' = S := fun w gs hw eg hl hk hs hn2 hex => by
        subst eg
        have a0 : Acc zs b d w 0 [] := ⟨.nil, (fun _ h => by cases h), by simp⟩
        obtain ⟨r1, r2, r3⟩ := fold_loop hb hw (fold_ok hb d) gs [] 0 (fun k hm => ⟨hk k hm, Nat.le_trans (sum_le hm) hs, hn2 k hm⟩) a0
        have rne := r2 (.inr hex)
        obtain ⟨fin, hfin⟩ : ∃ fin, fin = gs.foldl (fun acc k => (give w (fold b d k)).foldl addP acc) [] := ⟨_, rfl⟩
        rw [← hfin] at r1 rne ⊢
        have w1 : w ≠ "is" ∧ w ≠ "same" ∧ w ≠ "not" := by rcases hw with rfl | rfl <;> simp
        obtain ⟨w1, w2, w3⟩ := w1
        refine gets_sem t_folded_in rfl ?_
        simp [dSs, dS, dE, dEs, dAnd, dOr, dT, Ev.tAnd, Ev.tOr, dU, dN, dB2, dIf, dVar, dCst, dO, dC, dCall, dKall, pick, entry, isiV, isiV2, isTys, isTy, tobV, truO, truV, okIf, datOf, seqOf, lstOf, datas, lstV, tupV, elsOf, Out.bind_ok, f_folded_in, tgt, parD, e0, toldD, g_is, g_same, g_not, w1, w2, w3]
        refine ⟨⟨gs.map Val.d, none⟩, S ++ [.lst []], by simp [dSs, dS, dE, dEs, dAnd, dOr, dT, Ev.tAnd, Ev.tOr, dU, dN, dB2, dIf, dVar, dCst, dO, dC, dI, dCall, dKall, pick, entry, isiV, isiV2, isTys, isTy, tobV, truO, truV, okIf, datOf, seqOf, lstOf, datas, lstV, tupV, elsOf, Out.bind_ok], ?_⟩
        refine gs_for (IFo zs b d w (.tuple [.str w, .tuple gs]) fin S) ?_ ?_ _ _ _ ⟨gs, [], 0, none, none, none, rfl, rfl, a0, by omega, fun k hm => ⟨hk k hm, hn2 k hm⟩, hfin.symm, rfl⟩
        · rintro v its ρ S' ⟨ks, acc, N, x6, x7, x8, e1, rfl, hacc, hN, hks, hf, rfl⟩
          cases ks with
          | nil => cases e1
          | cons k ks =>
            cases e1
            obtain ⟨k1, k3⟩ := hks k List.mem_cons_self
            have k2 : tests d k ≤ 1000 := by simp at hN; omega
            obtain ⟨s1, s2, s3⟩ := step_ok hb hw k1 k2 k3 hacc
            have ih := fun S => r_folded_in hb d k k1 (by omega) k2 m (by omega) S
            obtain ⟨fw, fx, fr, f1, f2, f3⟩ := shape (fold_gok hb k1 k2)
            have la : acc.length ≤ 1000 := by
              have := sum_len (f := tests d) (l := acc) fun x hx => (hacc.each x hx).1.pos
              have := hacc.sum
              omega
            refine ⟨True.intro, _, rfl, ?_⟩
            simp [dSs, dS, dE, dEs, dAnd, dOr, dT, Ev.tAnd, Ev.tOr, dU, dN, dB2, dIf, dVar, dCst, dO, dC, dCall, dKall, pick, entry, isiV, isiV2, isTys, isTy, tobV, truO, truV, okIf, datOf, seqOf, lstOf, datas, lstV, tupV, elsOf, Out.bind_ok, tgt, ih]
            refine ⟨⟨(give w (fold b d k)).map Val.d, none⟩, S ++ [.lst acc], ?_, ?_⟩
            · by_cases hw2 : fw = w
              · obtain ⟨q1, q2⟩ := f3 (by rw [hw2]; exact hw)
                have eg : give w (fold b d k) = prt (fold b d k) := by unfold give; rw [if_pos (f2.trans hw2)]
                rw [eg]
                obtain ⟨P, hP⟩ : ∃ P, P = prt (fold b d k) := ⟨_, rfl⟩
                rw [← hP] at q2 ⊢
                rw [f1, q1, q2, hw2]
                simp [dSs, dS, dE, dEs, dAnd, dOr, dT, Ev.tAnd, Ev.tOr, dU, dN, dB2, dIf, dVar, dCst, dO, dC, dI, dCall, dKall, pick, entry, isiV, isiV2, isTys, isTy, tobV, truO, truV, okIf, datOf, seqOf, lstOf, datas, lstV, tupV, elsOf, Out.bind_ok]
              · have eg : give w (fold b d k) = [fold b d k] := by unfold give; rw [if_neg fun z => hw2 (f2.symm.trans z)]
                rw [eg, f1]
                simp [dSs, dS, dE, dEs, dAnd, dOr, dT, Ev.tAnd, Ev.tOr, dU, dN, dB2, dIf, dVar, dCst, dO, dC, dI, dCall, dKall, pick, entry, isiV, isiV2, isTys, isTy, tobV, truO, truV, okIf, datOf, seqOf, lstOf, datas, lstV, tupV, elsOf, Out.bind_ok, hw2]
            · refine gs_for (IFi zs b d w (.tuple [.str w, .tuple gs]) ((give w (fold b d k)).foldl addP acc) (some (.d k)) (some (.d (fold b d k))) S) ?_ ?_ _ _ _ ⟨give w (fold b d k), acc, x8, rfl, rfl, fun x hx => (s2 x hx).1, fun x hx => (hacc.each x hx).1.gok, by omega, rfl, rfl⟩
              · rintro v its ρ S' ⟨ps, acc2, x8', e2, rfl, hp, ha, hl2, hf2, rfl⟩
                cases ps with
                | nil => cases e2
                | cons x ps =>
                  cases e2
                  have cx : Cl 60 x := (g_cl (hp x List.mem_cons_self)).up (by omega)
                  have ca : ∀ y ∈ acc2, Cl 60 y := fun y hy => (g_cl (ha y hy)).up (by omega)
                  have hS : (S ++ [Ob.lst acc2])[S.length]? = some (.lst acc2) := by simp
                  have ni := notin_loc hS cx ca
                  rw [List.length_cons] at hl2
                  have sz1 : acc2.length + 1 ≤ sizeLine := line_of (by omega)
                  have sz0 : acc2.length + 0 ≤ sizeLine := line_of (by omega)
                  have ex1 := ext_loc (S := S ++ [Ob.lst acc2]) (p := S.length) (zs := [x]) hS sz1
                  have ex0 := ext_loc (S := S ++ [Ob.lst acc2]) (p := S.length) (zs := []) hS sz0
                  rw [List.set_append_right _ _ (Nat.le_refl _)] at ex1 ex0
                  simp only [Nat.sub_self, List.set_cons_zero, List.append_nil] at ex1 ex0
                  have al : (addP acc2 x).length ≤ acc2.length + 1 ∧ ∀ y ∈ addP acc2 x, GOk zs d y := by
                    unfold addP
                    split
                    · exact ⟨by omega, ha⟩
                    · refine ⟨by simp, fun y hy => ?_⟩
                      rcases List.mem_append.mp hy with hy | hy
                      · exact ha y hy
                      · rw [List.mem_singleton.mp hy]; exact hp x List.mem_cons_self
                  have fin2 : IFi zs b d w (.tuple [.str w, .tuple gs]) ((give w (fold b d k)).foldl addP acc) (some (.d k)) (some (.d (fold b d k))) S (ps.map Val.d) [some (.d (boxD b)), some (.d (.tuple [.str w, .tuple gs])), some (.d .none), some (.d (.str w)), none, some (.loc S.length), some (.d k), some (.d (fold b d k)), some (.d x)] (S ++ [.lst (addP acc2 x)]) :=
                    ⟨ps, addP acc2 x, _, rfl, rfl, fun y hy => hp y (List.mem_cons_of_mem _ hy), al.2, by omega, hf2, rfl⟩
                  refine ⟨True.intro, _, rfl, ?_⟩
                  obtain ⟨c, hc⟩ : ∃ c, c = acc2.any fun z => PyData.eqv z x := ⟨_, rfl⟩
                  rw [← hc] at ni
                  unfold addP at fin2
                  rw [← hc] at fin2
                  cases c with
                  | true =>
                    rw [if_pos rfl] at fin2
                    simp [dSs, dS, dE, dEs, dAnd, dOr, dT, Ev.tAnd, Ev.tOr, dU, dN, dB2, dIf, dVar, dCst, dO, dC, dI, dCall, dKall, pick, entry, isiV, isiV2, isTys, isTy, tobV, truO, truV, okIf, datOf, seqOf, lstOf, datas, lstV, tupV, elsOf, Out.bind_ok, tgt, recV, ni, ex0]
                    exact fin2
                  | false =>
                    rw [if_neg (by decide)] at fin2
                    simp [dSs, dS, dE, dEs, dAnd, dOr, dT, Ev.tAnd, Ev.tOr, dU, dN, dB2, dIf, dVar, dCst, dO, dC, dI, dCall, dKall, pick, entry, isiV, isiV2, isTys, isTy, tobV, truO, truV, okIf, datOf, seqOf, lstOf, datas, lstV, tupV, elsOf, Out.bind_ok, tgt, recV, ni, ex1]
                    exact fin2
              · rintro ρ S' ⟨ps, acc2, x8', e2, rfl, hp, ha, hl2, hf2, rfl⟩
                cases ps with
                | cons x ps => cases e2
                | nil =>
                  refine ⟨True.intro, ?_⟩
                  simp at hN
                  have ea : acc2 = (give w (fold b d k)).foldl addP acc := hf2
                  rw [← ea] at s1
                  exact ⟨ks, acc2, _, _, _, _, rfl, rfl, s1, by omega, fun j hj => hks j (List.mem_cons_of_mem _ hj), by rw [ea, ← hf]; rfl, rfl⟩
        · rintro ρ S' ⟨ks, acc, N, x6, x7, x8, e1, rfl, hacc, hN, hks, hf, rfl⟩
          cases ks with
          | cons k ks => cases e1
          | nil =>
            refine ⟨True.intro, ?_⟩
            have ef : acc = fin := hf
            subst ef
            have hS : (S ++ [Ob.lst acc])[S.length]? = some (.lst acc) := by simp
            unfold endP
            by_cases h1 : acc.length = 1
            · match acc, h1, hS with
              | [y], _, hS => simp [dSs, dS, dE, dEs, dAnd, dOr, dT, Ev.tAnd, Ev.tOr, dU, dN, dB2, dIf, dVar, dCst, dO, dC, dI, dCall, dKall, pick, entry, isiV, isiV2, isTys, isTy, tobV, truO, truV, okIf, datOf, seqOf, lstOf, datas, lstV, tupV, elsOf, Out.bind_ok, len_loc hS, idx_loc hS]
            · have h1' : ¬ (acc.length : Int) = 1 := by omega
              simp [dSs, dS, dE, dEs, dAnd, dOr, dT, Ev.tAnd, Ev.tOr, dU, dN, dB2, dIf, dVar, dCst, dO, dC, dI, dCall, dKall, pick, entry, isiV, isiV2, isTys, isTy, tobV, truO, truV, okIf, datOf, seqOf, lstOf, datas, lstV, tupV, elsOf, Out.bind_ok, len_loc hS, idx_loc hS, tuple_loc hS, h1, h1']
      rcases h with ⟨v, x, z, rfl, hz, h0, h1⟩ | ⟨a, c, rfl, ha, hc⟩ | ⟨k, rfl, hk⟩ | ⟨gs, rfl, hl, hk⟩ | ⟨gs, rfl, hl, hk⟩
      · have ef : fold b (d + 1) (.tuple [.str "is", .int (v : Int), .int x]) = .tuple [.str "is", .int (v : Int), .int x] := by
          unfold fold
          rw [e]
          simp
        rw [ef]
        refine gets_sem t_folded_in rfl ?_
        simp [dSs, dS, dE, dEs, dAnd, dOr, dT, Ev.tAnd, Ev.tOr, dU, dN, dB2, dIf, dVar, dCst, dO, dC, dI, dCall, dKall, pick, entry, isiV, isiV2, isTys, isTy, tobV, truO, truV, okIf, datOf, seqOf, lstOf, datas, lstV, tupV, elsOf, Out.bind_ok, f_folded_in, tgt, parD, e0, toldD, g_is]
      · have ef : fold b (d + 1) (.tuple [.str "same", .int (a : Int), .int (c : Int)]) = sameF b a c := by
          unfold fold
          rw [e]
          simp
        rw [ef]
        refine gets_sem t_folded_in rfl ?_
        simp [dSs, dS, dE, dEs, dAnd, dOr, dT, Ev.tAnd, Ev.tOr, dU, dN, dB2, dIf, dVar, dCst, dO, dC, dI, dCall, dKall, pick, entry, isiV, isiV2, isTys, isTy, tobV, truO, truV, okIf, datOf, seqOf, lstOf, datas, lstV, tupV, elsOf, Out.bind_ok, f_folded_in, tgt, parD, e0, toldD, g_is, g_same, r_folded_same (n := m) (by omega) hb ha hc]
      · have ek : told b d k = none := by simpa [told] using e
        have tk : tests d k ≤ 1000 := by simpa [tests] using ht
        have ih := fun S => r_folded_in hb d k hk (by omega) tk m (by omega) S
        obtain ⟨i1, i2, i3⟩ := fold_ok hb d k hk tk ek
        have ef : fold b (d + 1) (.tuple [.str "not", k]) = if wd (fold b d k) = "not" then snd1 (fold b d k) else .tuple [.str "not", fold b d k] := by
          conv => lhs; unfold fold
          rw [e]
          simp
        rw [ef]
        refine gets_sem t_folded_in rfl ?_
        generalize fold b d k = f at *
        cases d with
        | zero => exact i1.elim
        | succ d =>
          rcases i1 with ⟨v, x, z, s, rfl, _⟩ | ⟨a, c, s, q, rfl, _⟩ | ⟨j, rfl, hj, hw2⟩ | ⟨gs, rfl, _⟩ | ⟨gs, rfl, _⟩ <;> simp [dSs, dS, dE, dEs, dAnd, dOr, dT, Ev.tAnd, Ev.tOr, dU, dN, dB2, dIf, dVar, dCst, dO, dC, dI, dCall, dKall, pick, entry, isiV, isiV2, isTys, isTy, tobV, truO, truV, okIf, datOf, seqOf, lstOf, datas, lstV, tupV, elsOf, Out.bind_ok, f_folded_in, tgt, parD, e0, toldD, g_is, g_same, g_not, ih, wd, snd1]
      · have ef : fold b (d + 1) (.tuple [.str "all", .tuple gs]) = endP "all" (gs.foldl (fun acc k => (give "all" (fold b d k)).foldl addP acc) []) := by
          conv => lhs; unfold fold
          rw [e]
          simp
        have e2 := e
        simp [-List.mem_map, told] at e2
        obtain ⟨n1, n2⟩ := allT_none e2
        have et : tests (d + 1) (.tuple [.str "all", .tuple gs]) = (gs.map (tests d)).sum := by simp only [tests]; simp
        obtain ⟨v, S', q1, rfl, rfl⟩ := many "all" gs (.inl rfl) rfl hl hk (by rw [← et]; exact ht) (fun k hm t hk => by
          cases t with
          | true => simp
          | false => exact absurd (List.mem_map.mpr ⟨k, hm, hk⟩) n1) (by obtain ⟨k, hm, hk⟩ := List.mem_map.mp n2; exact ⟨k, hm, hk⟩)
        rw [ef]
        exact ⟨_, _, q1, rfl, rfl⟩
      · have ef : fold b (d + 1) (.tuple [.str "any", .tuple gs]) = endP "any" (gs.foldl (fun acc k => (give "any" (fold b d k)).foldl addP acc) []) := by
          conv => lhs; unfold fold
          rw [e]
          simp
        have e2 := e
        simp [-List.mem_map, told] at e2
        obtain ⟨n1, n2⟩ := allT_none e2
        have et : tests (d + 1) (.tuple [.str "any", .tuple gs]) = (gs.map (tests d)).sum := by simp only [tests]; simp
        obtain ⟨v, S', q1, rfl, rfl⟩ := many "any" gs (.inr rfl) rfl hl hk (by rw [← et]; exact ht) (fun k hm t hk => by
          cases t with
          | false => simp
          | true => exact absurd (List.mem_map.mpr ⟨k, hm, hk⟩) n1) (by obtain ⟨k, hm, hk⟩ := List.mem_map.mp n2; exact ⟨k, hm, hk⟩)
        rw [ef]
        exact ⟨_, _, q1, rfl, rfl⟩
end HT
end

section
set_option Elab.async false
set_option linter.all false
set_option maxRecDepth 100000
set_option maxHeartbeats 4000000
/-! F6: the law's own folding -/
namespace HT
open PySem PySem.Spec L2 Ev
theorem in_two {x a b : Int} {S : Store} : cmpV .In (.d (.int x)) (.d (.tuple [.int a, .int b])) S = .ok (.d (.bool (decide (x ∈ [a, b])))) S := in_ints (s := [a, b])
theorem notin_two {S : Store} {x : PyData} (h : sit x = true) (hx : Cl 60 x) (h1 : x ≠ gTru) (h2 : x ≠ gFls) : cmpV .NotIn (.d x) (.d (.list [gTru, gFls])) S = .ok (.d (.bool true)) S := by
  have e : cmpV .NotIn (.d x) (.d (.list [gTru, gFls])) S = okIf (SeqAt.shaped x = true ∧ SeqAt.shaped (.list [gTru, gFls]) = true) (.bool (![gTru, gFls].any fun z => PyData.eqv z x)) S := rfl
  have n : ([gTru, gFls].any fun z => PyData.eqv z x) = false := by
    rw [Bool.eq_false_iff]
    intro z
    have := (any_eqv (acc := [gTru, gFls]) (fun y hy => by simp at hy; rcases hy with rfl | rfl <;> simp [sit, sits]) h).mp z
    simp at this
    rcases this with z | z
    · exact h1 z
    · exact h2 z
  rw [e, n]
  unfold okIf
  rw [if_pos ⟨(hx.up (by decide)).sh, by decide +kernel⟩]
  rfl
def IGo (zs : List Int) (b : List (List Int)) (d : Nat) (w : Str) (g : PyData) (fin : List PyData) (S : Store) (its : List Val) (ρ : EnvD) (S' : Store) : Prop := ∃ (ks acc : List PyData) (N : Nat) (x6 x7 x8 : Option Val), its = ks.map Val.d ∧
  ρ = [some (.d (boxD b)), some (.d g), some (.d .none), none, none, none, some (.loc S.length), x6, x7, x8] ∧ Acc zs b d w N acc ∧ N + (ks.map (tests d)).sum ≤ 1000 ∧ (∀ k ∈ ks, GOk zs d k ∧ ∀ t, told b d k = some t → t = decide (w = "all")) ∧
  ks.foldl (fun acc k => (give w (fold b d k)).foldl addP acc) acc = fin ∧ S' = S ++ [.lst acc]
def IGi (zs : List Int) (b : List (List Int)) (d : Nat) (w : Str) (g : PyData) (fin : List PyData) (x6 x7 : Option Val) (S : Store) (its : List Val) (ρ : EnvD) (S' : Store) : Prop := ∃ (ps acc : List PyData) (x8 : Option Val), its = ps.map Val.d ∧
  ρ = [some (.d (boxD b)), some (.d g), some (.d .none), none, none, none, some (.loc S.length), x6, x7, x8] ∧ (∀ x ∈ ps, GOk zs d x ∧ x ≠ gTru ∧ x ≠ gFls) ∧ (∀ x ∈ acc, GOk zs d x) ∧ acc.length + ps.length ≤ 2000 ∧ ps.foldl addP acc = fin ∧ S' = S ++ [.lst acc]
theorem r_law_folded {zs : List Int} {b : List (List Int)} (hb : BoxOk zs b) : ∀ (d : Nat) (g : PyData), GOk zs d g → d ≤ 14 → tests d g ≤ 1000 → ∀ (n : Nat), d + 1 < n → ∀ S, sem G T n 46 [.d (boxD b), .d g] S = .ok (.d (fold b d g)) S
  | 0, _, h, _, _, _, _, _ => h.elim
  | d + 1, g, h, hd, ht, n, hn, S => by
    obtain ⟨m, rfl⟩ : ∃ m, n = m + 1 := ⟨n - 1, by omega⟩
    refine ok_of ?_
    have e0 := fun S => r_law_told hb (d + 1) g h m (by omega) S
    cases e : told b (d + 1) g with
    | some t =>
      rw [e] at e0
      rw [fold_some e]
      rcases h with ⟨v, x, z, rfl, _⟩ | ⟨a, c, rfl, _⟩ | ⟨k, rfl, _⟩ | ⟨gs, rfl, _⟩ | ⟨gs, rfl, _⟩ <;> (refine gets_sem t_law_folded rfl ?_; simp [dSs, dS, dE, dEs, dAnd, dOr, dT, Ev.tAnd, Ev.tOr, dU, dN, dB2, dIf, dVar, dCst, dO, dC, dI, dCall, dKall, pick, entry, isiV, isiV2, isTys, isTy, tobV, truO, truV, okIf, datOf, seqOf, lstOf, datas, lstV, tupV, elsOf, Out.bind_ok, f_law_folded, tgt, setAll, e0, toldD]; try (cases t <;> simp))
    | none =>
      rw [e] at e0
      have many : ∀ (w : Str) (gs : List PyData), (w = "all" ∨ w = "any") → g = .tuple [.str w, .tuple gs] → gs.length ≤ 1000 → (∀ k ∈ gs, GOk zs d k) → (gs.map (tests d)).sum ≤ 1000 → (∀ k ∈ gs, ∀ t, told b d k = some t → t = decide (w = "all")) → (∃ k ∈ gs, told b d k = none) →
          Gets (sem G T (m + 1) 46 [.d (boxD b), .d g] S) fun v S' => v = .d (endP w (gs.foldl (fun acc k => (give w (fold b d k)).foldl addP acc) [])) ∧ S' = S := fun w gs hw eg hl hk hs hn2 hex => by
        subst eg
        have a0 : Acc zs b d w 0 [] := ⟨.nil, (fun _ h => by cases h), by simp⟩
        obtain ⟨r1, r2, r3⟩ := fold_loop hb hw (fold_ok hb d) gs [] 0 (fun k hm => ⟨hk k hm, Nat.le_trans (sum_le hm) hs, hn2 k hm⟩) a0
        have rne := r2 (.inr hex)
        obtain ⟨fin, hfin⟩ : ∃ fin, fin = gs.foldl (fun acc k => (give w (fold b d k)).foldl addP acc) [] := ⟨_, rfl⟩
        rw [← hfin] at r1 rne ⊢
        have w1 : w ≠ "is" ∧ w ≠ "same" ∧ w ≠ "not" := by rcases hw with rfl | rfl <;> simp
        obtain ⟨w1, w2, w3⟩ := w1
        have wok : PyData.strOk w = true := by rcases hw with rfl | rfl <;> simp
        have nin : ∀ S, cmpV .In (.d (.str w)) (.d (.tuple [.str "is", .str "same"])) S = .ok (.d (.bool false)) S := fun S => by
          rcases hw with rfl | rfl <;> simp
        refine gets_sem t_law_folded rfl ?_
        simp [dSs, dS, dE, dEs, dAnd, dOr, dT, Ev.tAnd, Ev.tOr, dU, dN, dB2, dIf, dVar, dCst, dO, dC, dCall, dKall, pick, entry, isiV, isiV2, isTys, isTy, tobV, truO, truV, okIf, datOf, seqOf, lstOf, datas, lstV, tupV, elsOf, Out.bind_ok, f_law_folded, tgt, setAll, e0, toldD, w1, w2, w3, nin]
        refine ⟨⟨gs.map Val.d, none⟩, S ++ [.lst []], by simp [dSs, dS, dE, dEs, dAnd, dOr, dT, Ev.tAnd, Ev.tOr, dU, dN, dB2, dIf, dVar, dCst, dO, dC, dI, dCall, dKall, pick, entry, isiV, isiV2, isTys, isTy, tobV, truO, truV, okIf, datOf, seqOf, lstOf, datas, lstV, tupV, elsOf, Out.bind_ok], ?_⟩
        refine gs_for (IGo zs b d w (.tuple [.str w, .tuple gs]) fin S) ?_ ?_ _ _ _ ⟨gs, [], 0, none, none, none, rfl, rfl, a0, by omega, fun k hm => ⟨hk k hm, hn2 k hm⟩, hfin.symm, rfl⟩
        · rintro v its ρ S' ⟨ks, acc, N, x6, x7, x8, e1, rfl, hacc, hN, hks, hf, rfl⟩
          cases ks with
          | nil => cases e1
          | cons k ks =>
            cases e1
            obtain ⟨k1, k3⟩ := hks k List.mem_cons_self
            have k2 : tests d k ≤ 1000 := by simp at hN; omega
            obtain ⟨s1, s2, s3⟩ := step_ok hb hw k1 k2 k3 hacc
            have ih := fun S => r_law_folded hb d k k1 (by omega) k2 m (by omega) S
            obtain ⟨fw, fx, fr, f1, f2, f3⟩ := shape (fold_gok hb k1 k2)
            have la : acc.length ≤ 1000 := by
              have := sum_len (f := tests d) (l := acc) fun x hx => (hacc.each x hx).1.pos
              have := hacc.sum
              omega
            refine ⟨True.intro, _, rfl, ?_⟩
            simp [dSs, dS, dE, dEs, dAnd, dOr, dT, Ev.tAnd, Ev.tOr, dU, dN, dB2, dIf, dVar, dCst, dO, dC, dCall, dKall, pick, entry, isiV, isiV2, isTys, isTy, tobV, truO, truV, okIf, datOf, seqOf, lstOf, datas, lstV, tupV, elsOf, Out.bind_ok, tgt, ih]
            refine ⟨⟨(give w (fold b d k)).map Val.d, none⟩, S ++ [.lst acc], ?_, ?_⟩
            · by_cases hw2 : fw = w
              · obtain ⟨q1, q2⟩ := f3 (by rw [hw2]; exact hw)
                have eg : give w (fold b d k) = prt (fold b d k) := by unfold give; rw [if_pos (f2.trans hw2)]
                rw [eg]
                obtain ⟨P, hP⟩ : ∃ P, P = prt (fold b d k) := ⟨_, rfl⟩
                rw [← hP] at q2 ⊢
                rw [f1, q1, q2, hw2]
                simp [dSs, dS, dE, dEs, dAnd, dOr, dT, Ev.tAnd, Ev.tOr, dU, dN, dB2, dIf, dVar, dCst, dO, dC, dI, dCall, dKall, pick, entry, isiV, isiV2, isTys, isTy, tobV, truO, truV, okIf, datOf, seqOf, lstOf, datas, lstV, tupV, elsOf, Out.bind_ok]
              · have eg : give w (fold b d k) = [fold b d k] := by unfold give; rw [if_neg fun z => hw2 (f2.symm.trans z)]
                rw [eg, f1]
                simp [dSs, dS, dE, dEs, dAnd, dOr, dT, Ev.tAnd, Ev.tOr, dU, dN, dB2, dIf, dVar, dCst, dO, dC, dI, dCall, dKall, pick, entry, isiV, isiV2, isTys, isTy, tobV, truO, truV, okIf, datOf, seqOf, lstOf, datas, lstV, tupV, elsOf, Out.bind_ok, hw2]
            · refine gs_for (IGi zs b d w (.tuple [.str w, .tuple gs]) ((give w (fold b d k)).foldl addP acc) (some (.d k)) (some (.d (fold b d k))) S) ?_ ?_ _ _ _ ⟨give w (fold b d k), acc, x8, rfl, rfl, fun x hx => s2 x hx, fun x hx => (hacc.each x hx).1.gok, by omega, rfl, rfl⟩
              · rintro v its ρ S' ⟨ps, acc2, x8', e2, rfl, hp, ha, hl2, hf2, rfl⟩
                cases ps with
                | nil => cases e2
                | cons x ps =>
                  cases e2
                  have cx : Cl 60 x := (g_cl (hp x List.mem_cons_self).1).up (by omega)
                  have ca : ∀ y ∈ acc2, Cl 60 y := fun y hy => (g_cl (ha y hy)).up (by omega)
                  have hS : (S ++ [Ob.lst acc2])[S.length]? = some (.lst acc2) := by simp
                  have ni := notin_loc hS cx ca
                  rw [List.length_cons] at hl2
                  have sz1 : acc2.length + 1 ≤ sizeLine := line_of (by omega)
                  have ex1 := app_loc (w := x) hS (show acc2.length < sizeLine by omega)
                  rw [List.set_append_right _ _ (Nat.le_refl _)] at ex1
                  simp only [Nat.sub_self, List.set_cons_zero] at ex1
                  obtain ⟨hp1, hp2, hp3⟩ := hp x List.mem_cons_self
                  have nt := notin_two (S := S ++ [Ob.lst acc2]) (gok_sit hp1) cx hp2 hp3
                  have al : (addP acc2 x).length ≤ acc2.length + 1 ∧ ∀ y ∈ addP acc2 x, GOk zs d y := by
                    unfold addP
                    split
                    · exact ⟨by omega, ha⟩
                    · refine ⟨by simp, fun y hy => ?_⟩
                      rcases List.mem_append.mp hy with hy | hy
                      · exact ha y hy
                      · rw [List.mem_singleton.mp hy]; exact (hp x List.mem_cons_self).1
                  have fin2 : IGi zs b d w (.tuple [.str w, .tuple gs]) ((give w (fold b d k)).foldl addP acc) (some (.d k)) (some (.d (fold b d k))) S (ps.map Val.d) [some (.d (boxD b)), some (.d (.tuple [.str w, .tuple gs])), some (.d .none), none, none, none, some (.loc S.length), some (.d k), some (.d (fold b d k)), some (.d x)] (S ++ [.lst (addP acc2 x)]) :=
                    ⟨ps, addP acc2 x, _, rfl, rfl, fun y hy => hp y (List.mem_cons_of_mem _ hy), al.2, by omega, hf2, rfl⟩
                  refine ⟨True.intro, _, rfl, ?_⟩
                  obtain ⟨c, hc⟩ : ∃ c, c = acc2.any fun z => PyData.eqv z x := ⟨_, rfl⟩
                  rw [← hc] at ni
                  unfold addP at fin2
                  rw [← hc] at fin2
                  cases c with
                  | true =>
                    rw [if_pos rfl] at fin2
                    simp [dSs, dS, dE, dEs, dAnd, dOr, dT, Ev.tAnd, Ev.tOr, dU, dN, dB2, dIf, dVar, dCst, dO, dC, dI, dCall, dKall, pick, entry, isiV, isiV2, isTys, isTy, tobV, truO, truV, okIf, datOf, seqOf, lstOf, datas, lstV, tupV, elsOf, Out.bind_ok, tgt, recV, ni]
                    exact fin2
                  | false =>
                    rw [if_neg (by decide)] at fin2
                    simp [dSs, dS, dE, dEs, dAnd, dOr, dT, Ev.tAnd, Ev.tOr, dU, dN, dB2, dIf, dVar, dCst, dO, dC, dI, dCall, dKall, pick, entry, isiV, isiV2, isTys, isTy, tobV, truO, truV, okIf, datOf, seqOf, lstOf, datas, lstV, tupV, elsOf, Out.bind_ok, tgt, recV, hS, ni, nt, ex1]
                    exact fin2
              · rintro ρ S' ⟨ps, acc2, x8', e2, rfl, hp, ha, hl2, hf2, rfl⟩
                cases ps with
                | cons x ps => cases e2
                | nil =>
                  refine ⟨True.intro, ?_⟩
                  simp at hN
                  have ea : acc2 = (give w (fold b d k)).foldl addP acc := hf2
                  rw [← ea] at s1
                  exact ⟨ks, acc2, _, _, _, _, rfl, rfl, s1, by omega, fun j hj => hks j (List.mem_cons_of_mem _ hj), by rw [ea, ← hf]; rfl, rfl⟩
        · rintro ρ S' ⟨ks, acc, N, x6, x7, x8, e1, rfl, hacc, hN, hks, hf, rfl⟩
          cases ks with
          | cons k ks => cases e1
          | nil =>
            refine ⟨True.intro, ?_⟩
            have ef : acc = fin := hf
            subst ef
            have hS : (S ++ [Ob.lst acc])[S.length]? = some (.lst acc) := by simp
            unfold endP
            by_cases h1 : acc.length = 1
            · match acc, h1, hS with
              | [y], _, hS => simp [dSs, dS, dE, dEs, dAnd, dOr, dT, Ev.tAnd, Ev.tOr, dU, dN, dB2, dIf, dVar, dCst, dO, dC, dI, dCall, dKall, pick, entry, isiV, isiV2, isTys, isTy, tobV, truO, truV, okIf, datOf, seqOf, lstOf, datas, lstV, tupV, elsOf, Out.bind_ok, len_loc hS, idx_loc hS]
            · have h1' : ¬ (acc.length : Int) = 1 := by omega
              simp [dSs, dS, dE, dEs, dAnd, dOr, dT, Ev.tAnd, Ev.tOr, dU, dN, dB2, dIf, dVar, dCst, dO, dC, dI, dCall, dKall, pick, entry, isiV, isiV2, isTys, isTy, tobV, truO, truV, okIf, datOf, seqOf, lstOf, datas, lstV, tupV, elsOf, Out.bind_ok, len_loc hS, idx_loc hS, tuple_loc hS, h1, h1']
      rcases h with ⟨v, x, z, rfl, hz, h0, h1⟩ | ⟨a, c, rfl, ha, hc⟩ | ⟨k, rfl, hk⟩ | ⟨gs, rfl, hl, hk⟩ | ⟨gs, rfl, hl, hk⟩
      · have ef : fold b (d + 1) (.tuple [.str "is", .int (v : Int), .int x]) = .tuple [.str "is", .int (v : Int), .int x] := by
          unfold fold
          rw [e]
          simp
        rw [ef]
        refine gets_sem t_law_folded rfl ?_
        simp [dSs, dS, dE, dEs, dAnd, dOr, dT, Ev.tAnd, Ev.tOr, dU, dN, dB2, dIf, dVar, dCst, dO, dC, dI, dCall, dKall, pick, entry, isiV, isiV2, isTys, isTy, tobV, truO, truV, okIf, datOf, seqOf, lstOf, datas, lstV, tupV, elsOf, Out.bind_ok, f_law_folded, tgt, setAll, e0, toldD]
      · have ef : fold b (d + 1) (.tuple [.str "same", .int (a : Int), .int (c : Int)]) = sameF b a c := by
          unfold fold
          rw [e]
          simp
        rw [ef]
        refine gets_sem t_law_folded rfl ?_
        obtain ⟨s, hs, ok⟩ := hb.get (List.getElem?_eq_getElem ha)
        obtain ⟨q, hq, ok2⟩ := hb.get (List.getElem?_eq_getElem hc)
        have x1 := box_at hs
        have x2 := box_at hq
        have g1 : b.getD a [] = s := by simp [hs]
        have g2 : b.getD c [] = q := by simp [hq]
        obtain ⟨y, hy⟩ : ∃ y, q.getD 0 0 = y := ⟨_, rfl⟩
        obtain ⟨w, hw⟩ : ∃ w, s.getD 0 0 = w := ⟨_, rfl⟩
        unfold sameF
        rw [g1, g2, hy, hw]
        by_cases l1 : s.length = 1
        · have h1 := head_at l1
          rw [hw] at h1
          simp [dSs, dS, dE, dEs, dAnd, dOr, dT, Ev.tAnd, Ev.tOr, dU, dN, dB2, dIf, dVar, dCst, dO, dC, dI, dCall, dKall, pick, entry, isiV, isiV2, isTys, isTy, tobV, truO, truV, okIf, datOf, seqOf, lstOf, datas, lstV, tupV, elsOf, Out.bind_ok, f_law_folded, tgt, setAll, e0, toldD, x1, x2, in_two, l1, h1]
        · have l1' : ¬ (s.length : Int) = 1 := by omega
          have l1'' : ¬ (1 : Int) = s.length := by omega
          by_cases l2 : q.length = 1
          · have h2 := head_at l2
            rw [hy] at h2
            simp [dSs, dS, dE, dEs, dAnd, dOr, dT, Ev.tAnd, Ev.tOr, dU, dN, dB2, dIf, dVar, dCst, dO, dC, dI, dCall, dKall, pick, entry, isiV, isiV2, isTys, isTy, tobV, truO, truV, okIf, datOf, seqOf, lstOf, datas, lstV, tupV, elsOf, Out.bind_ok, f_law_folded, tgt, setAll, e0, toldD, x1, x2, in_two, l1, l1', l1'', l2, h2]
          · have l2' : ¬ (1 : Int) = q.length := by omega
            simp [dSs, dS, dE, dEs, dAnd, dOr, dT, Ev.tAnd, Ev.tOr, dU, dN, dB2, dIf, dVar, dCst, dO, dC, dI, dCall, dKall, pick, entry, isiV, isiV2, isTys, isTy, tobV, truO, truV, okIf, datOf, seqOf, lstOf, datas, lstV, tupV, elsOf, Out.bind_ok, f_law_folded, tgt, setAll, e0, toldD, x1, x2, in_two, l1, l1', l1'', l2, l2']
      · have ek : told b d k = none := by simpa [told] using e
        have tk : tests d k ≤ 1000 := by simpa [tests] using ht
        have ih := fun S => r_law_folded hb d k hk (by omega) tk m (by omega) S
        obtain ⟨i1, i2, i3⟩ := fold_ok hb d k hk tk ek
        have ef : fold b (d + 1) (.tuple [.str "not", k]) = if wd (fold b d k) = "not" then snd1 (fold b d k) else .tuple [.str "not", fold b d k] := by
          conv => lhs; unfold fold
          rw [e]
          simp
        rw [ef]
        refine gets_sem t_law_folded rfl ?_
        generalize fold b d k = f at *
        cases d with
        | zero => exact i1.elim
        | succ d =>
          rcases i1 with ⟨v, x, z, s, rfl, _⟩ | ⟨a, c, s, q, rfl, _⟩ | ⟨j, rfl, hj, hw2⟩ | ⟨gs, rfl, _⟩ | ⟨gs, rfl, _⟩ <;> simp [dSs, dS, dE, dEs, dAnd, dOr, dT, Ev.tAnd, Ev.tOr, dU, dN, dB2, dIf, dVar, dCst, dO, dC, dI, dCall, dKall, pick, entry, isiV, isiV2, isTys, isTy, tobV, truO, truV, okIf, datOf, seqOf, lstOf, datas, lstV, tupV, elsOf, Out.bind_ok, f_law_folded, tgt, setAll, e0, toldD, ih, wd, snd1]
      · have ef : fold b (d + 1) (.tuple [.str "all", .tuple gs]) = endP "all" (gs.foldl (fun acc k => (give "all" (fold b d k)).foldl addP acc) []) := by
          conv => lhs; unfold fold
          rw [e]
          simp
        have e2 := e
        simp [-List.mem_map, told] at e2
        obtain ⟨n1, n2⟩ := allT_none e2
        have et : tests (d + 1) (.tuple [.str "all", .tuple gs]) = (gs.map (tests d)).sum := by simp only [tests]; simp
        obtain ⟨v, S', q1, rfl, rfl⟩ := many "all" gs (.inl rfl) rfl hl hk (by rw [← et]; exact ht) (fun k hm t hk => by
          cases t with
          | true => simp
          | false => exact absurd (List.mem_map.mpr ⟨k, hm, hk⟩) n1) (by obtain ⟨k, hm, hk⟩ := List.mem_map.mp n2; exact ⟨k, hm, hk⟩)
        rw [ef]
        exact ⟨_, _, q1, rfl, rfl⟩
      · have ef : fold b (d + 1) (.tuple [.str "any", .tuple gs]) = endP "any" (gs.foldl (fun acc k => (give "any" (fold b d k)).foldl addP acc) []) := by
          conv => lhs; unfold fold
          rw [e]
          simp
        have e2 := e
        simp [-List.mem_map, told] at e2
        obtain ⟨n1, n2⟩ := allT_none e2
        have et : tests (d + 1) (.tuple [.str "any", .tuple gs]) = (gs.map (tests d)).sum := by simp only [tests]; simp
        obtain ⟨v, S', q1, rfl, rfl⟩ := many "any" gs (.inr rfl) rfl hl hk (by rw [← et]; exact ht) (fun k hm t hk => by
          cases t with
          | false => simp
          | true => exact absurd (List.mem_map.mpr ⟨k, hm, hk⟩) n1) (by obtain ⟨k, hm, hk⟩ := List.mem_map.mp n2; exact ⟨k, hm, hk⟩)
        rw [ef]
        exact ⟨_, _, q1, rfl, rfl⟩
end HT
end

section
set_option Elab.async false
set_option linter.all false
set_option maxRecDepth 100000
set_option maxHeartbeats 4000000
/-! F7: tests are counted -/
namespace HT
open PySem PySem.Spec L2 Ev
theorem sum_cast {f : PyData → Nat} : ∀ gs : List PyData, (gs.map fun k => ((f k : Nat) : Int)).sum = ((gs.map f).sum : Nat)
  | [] => rfl
  | k :: gs => by
    rw [List.map_cons, List.sum_cons, sum_cast gs, List.map_cons, List.sum_cons]
    omega
theorem in_words {w : Str} (hw : w = "is" ∨ w = "same" ∨ w = "not" ∨ w = "all" ∨ w = "any") (S : Store) : cmpV .In (.d (.str w)) (.d (.tuple [.str "is", .str "same"])) S = .ok (.d (.bool (decide (w = "is" ∨ w = "same")))) S := by
  rcases hw with rfl | rfl | rfl | rfl | rfl <;> simp
theorem r_weight_of {zs : List Int} : ∀ (d : Nat) (g : PyData), GOk zs d g → ∀ (n : Nat), d < n → ∀ S, sem G T n 27 [.d g] S = .ok (.d (.int (tests d g : Nat))) S
  | 0, _, h, _, _, _ => h.elim
  | d + 1, g, h, n, hn, S => by
    obtain ⟨m, rfl⟩ : ∃ m, n = m + 1 := ⟨n - 1, by omega⟩
    refine ok_of (gets_sem t_weight_of rfl ?_)
    have a1 := in_words (w := "is") (by simp)
    have a2 := in_words (w := "same") (by simp)
    have a3 := in_words (w := "not") (by simp)
    have a4 := in_words (w := "all") (by simp)
    have a5 := in_words (w := "any") (by simp)
    rcases h with ⟨v, x, z, rfl, hz, h0, h1⟩ | ⟨a, c, rfl, ha, hc⟩ | ⟨k, rfl, hk⟩ | ⟨gs, rfl, hl, hk⟩ | ⟨gs, rfl, hl, hk⟩
    · simp [dSs, dS, dE, dEs, dAnd, dOr, dT, Ev.tAnd, Ev.tOr, dU, dN, dB2, dIf, dVar, dCst, dO, dC, dI, dCall, dKall, pick, entry, isiV, isiV2, isTys, isTy, tobV, truO, truV, okIf, datOf, seqOf, lstOf, datas, lstV, tupV, elsOf, Out.bind_ok, f_weight_of, g_is, g_same, a1, tests]
    · simp [dSs, dS, dE, dEs, dAnd, dOr, dT, Ev.tAnd, Ev.tOr, dU, dN, dB2, dIf, dVar, dCst, dO, dC, dI, dCall, dKall, pick, entry, isiV, isiV2, isTys, isTy, tobV, truO, truV, okIf, datOf, seqOf, lstOf, datas, lstV, tupV, elsOf, Out.bind_ok, f_weight_of, g_is, g_same, a2, tests]
    · have ih := r_weight_of d k hk m (by omega)
      simp [dSs, dS, dE, dEs, dAnd, dOr, dT, Ev.tAnd, Ev.tOr, dU, dN, dB2, dIf, dVar, dCst, dO, dC, dI, dCall, dKall, pick, entry, isiV, isiV2, isTys, isTy, tobV, truO, truV, okIf, datOf, seqOf, lstOf, datas, lstV, tupV, elsOf, Out.bind_ok, f_weight_of, g_is, g_same, g_not, a3, tests, ih]
    · simp [dSs, dS, dE, dEs, dAnd, dOr, dT, Ev.tAnd, Ev.tOr, dU, dN, dB2, dIf, dVar, dCst, dO, dC, dI, dCall, dKall, pick, entry, isiV, isiV2, isTys, isTy, tobV, truO, truV, okIf, datOf, seqOf, lstOf, datas, lstV, tupV, elsOf, Out.bind_ok, f_weight_of, g_is, g_same, g_not, a4]
      refine gets_each (fun k : PyData => Val.d k) (fun k => .int (tests d k : Nat)) gs (n := none) (S := S) (by simp [dSs, dS, dE, dEs, dAnd, dOr, dT, Ev.tAnd, Ev.tOr, dU, dN, dB2, dIf, dVar, dCst, dO, dC, dI, dCall, dKall, pick, entry, isiV, isiV2, isTys, isTy, tobV, truO, truV, okIf, datOf, seqOf, lstOf, datas, lstV, tupV, elsOf, Out.bind_ok]) (by simp) (fun k hm => ⟨_, rfl, by simp [dSs, dS, dE, dEs, dAnd, dOr, dT, Ev.tAnd, Ev.tOr, dU, dN, dB2, dIf, dVar, dCst, dO, dC, dI, dCall, dKall, pick, entry, isiV, isiV2, isTys, isTy, tobV, truO, truV, okIf, datOf, seqOf, lstOf, datas, lstV, tupV, elsOf, Out.bind_ok, wipeD, r_weight_of d k (hk k hm) m (by omega)]⟩) (line_of (by omega)) ?_
      simp only [tests]
      simp [dSs, dS, dE, dEs, dAnd, dOr, dT, Ev.tAnd, Ev.tOr, dU, dN, dB2, dIf, dVar, dCst, dO, dC, dI, dCall, dKall, pick, entry, isiV, isiV2, isTys, isTy, tobV, truO, truV, okIf, datOf, seqOf, lstOf, datas, lstV, tupV, elsOf, Out.bind_ok, ← sum_cast]
    · simp [dSs, dS, dE, dEs, dAnd, dOr, dT, Ev.tAnd, Ev.tOr, dU, dN, dB2, dIf, dVar, dCst, dO, dC, dI, dCall, dKall, pick, entry, isiV, isiV2, isTys, isTy, tobV, truO, truV, okIf, datOf, seqOf, lstOf, datas, lstV, tupV, elsOf, Out.bind_ok, f_weight_of, g_is, g_same, g_not, a5]
      refine gets_each (fun k : PyData => Val.d k) (fun k => .int (tests d k : Nat)) gs (n := none) (S := S) (by simp [dSs, dS, dE, dEs, dAnd, dOr, dT, Ev.tAnd, Ev.tOr, dU, dN, dB2, dIf, dVar, dCst, dO, dC, dI, dCall, dKall, pick, entry, isiV, isiV2, isTys, isTy, tobV, truO, truV, okIf, datOf, seqOf, lstOf, datas, lstV, tupV, elsOf, Out.bind_ok]) (by simp) (fun k hm => ⟨_, rfl, by simp [dSs, dS, dE, dEs, dAnd, dOr, dT, Ev.tAnd, Ev.tOr, dU, dN, dB2, dIf, dVar, dCst, dO, dC, dI, dCall, dKall, pick, entry, isiV, isiV2, isTys, isTy, tobV, truO, truV, okIf, datOf, seqOf, lstOf, datas, lstV, tupV, elsOf, Out.bind_ok, wipeD, r_weight_of d k (hk k hm) m (by omega)]⟩) (line_of (by omega)) ?_
      simp only [tests]
      simp [dSs, dS, dE, dEs, dAnd, dOr, dT, Ev.tAnd, Ev.tOr, dU, dN, dB2, dIf, dVar, dCst, dO, dC, dI, dCall, dKall, pick, entry, isiV, isiV2, isTys, isTy, tobV, truO, truV, okIf, datOf, seqOf, lstOf, datas, lstV, tupV, elsOf, Out.bind_ok, ← sum_cast]
theorem r_law_tests {zs : List Int} : ∀ (d : Nat) (g : PyData), GOk zs d g → ∀ (n : Nat), d < n → ∀ S, sem G T n 47 [.d g] S = .ok (.d (.int (tests d g : Nat))) S
  | 0, _, h, _, _, _ => h.elim
  | d + 1, g, h, n, hn, S => by
    obtain ⟨m, rfl⟩ : ∃ m, n = m + 1 := ⟨n - 1, by omega⟩
    refine ok_of (gets_sem t_law_tests rfl ?_)
    have a1 := in_words (w := "is") (by simp)
    have a2 := in_words (w := "same") (by simp)
    have a3 := in_words (w := "not") (by simp)
    have a4 := in_words (w := "all") (by simp)
    have a5 := in_words (w := "any") (by simp)
    rcases h with ⟨v, x, z, rfl, hz, h0, h1⟩ | ⟨a, c, rfl, ha, hc⟩ | ⟨k, rfl, hk⟩ | ⟨gs, rfl, hl, hk⟩ | ⟨gs, rfl, hl, hk⟩
    · simp [dSs, dS, dE, dEs, dAnd, dOr, dT, Ev.tAnd, Ev.tOr, dU, dN, dB2, dIf, dVar, dCst, dO, dC, dI, dCall, dKall, pick, entry, isiV, isiV2, isTys, isTy, tobV, truO, truV, okIf, datOf, seqOf, lstOf, datas, lstV, tupV, elsOf, Out.bind_ok, f_law_tests, a1, tests]
    · simp [dSs, dS, dE, dEs, dAnd, dOr, dT, Ev.tAnd, Ev.tOr, dU, dN, dB2, dIf, dVar, dCst, dO, dC, dI, dCall, dKall, pick, entry, isiV, isiV2, isTys, isTy, tobV, truO, truV, okIf, datOf, seqOf, lstOf, datas, lstV, tupV, elsOf, Out.bind_ok, f_law_tests, a2, tests]
    · have ih := r_law_tests d k hk m (by omega)
      simp [dSs, dS, dE, dEs, dAnd, dOr, dT, Ev.tAnd, Ev.tOr, dU, dN, dB2, dIf, dVar, dCst, dO, dC, dI, dCall, dKall, pick, entry, isiV, isiV2, isTys, isTy, tobV, truO, truV, okIf, datOf, seqOf, lstOf, datas, lstV, tupV, elsOf, Out.bind_ok, f_law_tests, a3, tests, ih]
    · simp [dSs, dS, dE, dEs, dAnd, dOr, dT, Ev.tAnd, Ev.tOr, dU, dN, dB2, dIf, dVar, dCst, dO, dC, dI, dCall, dKall, pick, entry, isiV, isiV2, isTys, isTy, tobV, truO, truV, okIf, datOf, seqOf, lstOf, datas, lstV, tupV, elsOf, Out.bind_ok, f_law_tests, a4]
      refine gets_each (fun k : PyData => Val.d k) (fun k => .int (tests d k : Nat)) gs (n := none) (S := S) (by simp [dSs, dS, dE, dEs, dAnd, dOr, dT, Ev.tAnd, Ev.tOr, dU, dN, dB2, dIf, dVar, dCst, dO, dC, dI, dCall, dKall, pick, entry, isiV, isiV2, isTys, isTy, tobV, truO, truV, okIf, datOf, seqOf, lstOf, datas, lstV, tupV, elsOf, Out.bind_ok]) (by simp) (fun k hm => ⟨_, rfl, by simp [dSs, dS, dE, dEs, dAnd, dOr, dT, Ev.tAnd, Ev.tOr, dU, dN, dB2, dIf, dVar, dCst, dO, dC, dI, dCall, dKall, pick, entry, isiV, isiV2, isTys, isTy, tobV, truO, truV, okIf, datOf, seqOf, lstOf, datas, lstV, tupV, elsOf, Out.bind_ok, wipeD, r_law_tests d k (hk k hm) m (by omega)]⟩) (line_of (by omega)) ?_
      simp only [tests]
      simp [dSs, dS, dE, dEs, dAnd, dOr, dT, Ev.tAnd, Ev.tOr, dU, dN, dB2, dIf, dVar, dCst, dO, dC, dI, dCall, dKall, pick, entry, isiV, isiV2, isTys, isTy, tobV, truO, truV, okIf, datOf, seqOf, lstOf, datas, lstV, tupV, elsOf, Out.bind_ok, ← sum_cast]
    · simp [dSs, dS, dE, dEs, dAnd, dOr, dT, Ev.tAnd, Ev.tOr, dU, dN, dB2, dIf, dVar, dCst, dO, dC, dI, dCall, dKall, pick, entry, isiV, isiV2, isTys, isTy, tobV, truO, truV, okIf, datOf, seqOf, lstOf, datas, lstV, tupV, elsOf, Out.bind_ok, f_law_tests, a5]
      refine gets_each (fun k : PyData => Val.d k) (fun k => .int (tests d k : Nat)) gs (n := none) (S := S) (by simp [dSs, dS, dE, dEs, dAnd, dOr, dT, Ev.tAnd, Ev.tOr, dU, dN, dB2, dIf, dVar, dCst, dO, dC, dI, dCall, dKall, pick, entry, isiV, isiV2, isTys, isTy, tobV, truO, truV, okIf, datOf, seqOf, lstOf, datas, lstV, tupV, elsOf, Out.bind_ok]) (by simp) (fun k hm => ⟨_, rfl, by simp [dSs, dS, dE, dEs, dAnd, dOr, dT, Ev.tAnd, Ev.tOr, dU, dN, dB2, dIf, dVar, dCst, dO, dC, dI, dCall, dKall, pick, entry, isiV, isiV2, isTys, isTy, tobV, truO, truV, okIf, datOf, seqOf, lstOf, datas, lstV, tupV, elsOf, Out.bind_ok, wipeD, r_law_tests d k (hk k hm) m (by omega)]⟩) (line_of (by omega)) ?_
      simp only [tests]
      simp [dSs, dS, dE, dEs, dAnd, dOr, dT, Ev.tAnd, Ev.tOr, dU, dN, dB2, dIf, dVar, dCst, dO, dC, dI, dCall, dKall, pick, entry, isiV, isiV2, isTys, isTy, tobV, truO, truV, okIf, datOf, seqOf, lstOf, datas, lstV, tupV, elsOf, Out.bind_ok, ← sum_cast]
theorem r_fold_guard {n : Nat} (hn : 25 < n) {M : Mid} (hM : MidOk M) {b : List (List Int)} (h : BoxOk (szs M.vars) b) {d : Nat} {g : PyData} (hd : d ≤ 14) (hg : GOk (szs M.vars) d g) (ht : tests d g ≤ 1000) (S : Store) : sem G T n 29 [.d (midD M), .d (boxD b), .d g] S = .ok (.d (fold b d g)) S := by
  obtain ⟨m, rfl⟩ : ∃ m, n = m + 1 := ⟨n - 1, by omega⟩
  refine ok_of (gets_sem t_fold_guard rfl ?_)
  have a1 := fun S => r_want_guard_box (n := m) (by omega) hM h hd hg S
  have a2 := fun S => r_folded_in h d g hg hd ht m (by omega) S
  simp [dSs, dS, dE, dEs, dAnd, dOr, dT, Ev.tAnd, Ev.tOr, dU, dN, dB2, dIf, dVar, dCst, dO, dC, dI, dCall, dKall, pick, entry, isiV, isiV2, isTys, isTy, tobV, truO, truV, okIf, datOf, seqOf, lstOf, datas, lstV, tupV, elsOf, Out.bind_ok, f_fold_guard, a1, a2]
end HT
end

section
set_option Elab.async false
set_option linter.all false
set_option maxRecDepth 100000
set_option maxHeartbeats 4000000
/-! B6: helpers of draws; the variables -/
namespace HT
open PySem PySem.Spec L2 Ev
section
variable {p : Nat} {S : Store}
theorem set_app (h : Pot p S) (T : Store) (o u : Ob) : (S.set p u ++ T).set p o = S.set p o ++ T := by
  rw [List.set_append_left _ _ (by simpa using h.lt), List.set_set]
theorem set_app0 (h : Pot p S) (T : Store) (o : Ob) : (S ++ T).set p o = S.set p o ++ T := List.set_append_left _ _ h.lt
theorem at0 (o a : Ob) (r : Store) : (S.set p o ++ a :: r)[S.length]? = some a := by
  rw [List.getElem?_append_right (by simp)]
  simp
theorem at1 (o a b : Ob) (r : Store) : (S.set p o ++ a :: b :: r)[S.length + 1]? = some b := by
  rw [List.getElem?_append_right (by simp)]
  simp
theorem at2 (o a b c : Ob) (r : Store) : (S.set p o ++ a :: b :: c :: r)[S.length + 2]? = some c := by
  rw [List.getElem?_append_right (by simp)]
  simp
theorem app0 {xs : List PyData} {d : PyData} (o : Ob) (r : Store) (h : xs.length < sizeLine) : meV .append (.loc S.length) [.d d] (S.set p o ++ .lst xs :: r) = .ok (.d .none) (S.set p o ++ .lst (xs ++ [d]) :: r) := by
  rw [app_loc (at0 o _ r) h, List.set_append_right _ _ (by simp)]
  simp
theorem app1 {xs : List PyData} {d : PyData} (o a : Ob) (r : Store) (h : xs.length < sizeLine) : meV .append (.loc (S.length + 1)) [.d d] (S.set p o ++ a :: .lst xs :: r) = .ok (.d .none) (S.set p o ++ a :: .lst (xs ++ [d]) :: r) := by
  rw [app_loc (at1 o a _ r) h, List.set_append_right _ _ (by simp)]
  simp
theorem app2 {xs : List PyData} {d : PyData} (o a b : Ob) (r : Store) (h : xs.length < sizeLine) : meV .append (.loc (S.length + 2)) [.d d] (S.set p o ++ a :: b :: .lst xs :: r) = .ok (.d .none) (S.set p o ++ a :: b :: .lst (xs ++ [d]) :: r) := by
  rw [app_loc (at2 o a b _ r) h, List.set_append_right _ _ (by simp)]
  simp
end
theorem cut_str (l : List Str) (k : Nat) : cutD (l.map PyData.str) none (some (k : Int)) = (l.take k).map .str := by rw [cut_map, cut_to]
def nm (i : Nat) : Str := (toString (i : Int) : String)
theorem nm_eq (i : Nat) : Str.ofString ((i : Int)).repr = nm i := rfl
theorem small_nat {i : Nat} (h : i < 100) : i.log2 < 1920 := by
  have := small_log (i := (i : Int)) (by
    have e : (i : Int).natAbs = i := rfl
    rw [e]
    exact Nat.lt_of_lt_of_le h (by decide))
  exact this
theorem txt_by {x : Str} (h : (decide (1 ≤ x.length) && decide (x.length ≤ 200) && x.cps.toList.all fun c => decide (32 ≤ c) && decide (c ≤ 126)) = true) : Txt x := by
  rw [Bool.and_eq_true, Bool.and_eq_true, List.all_eq_true] at h
  refine ⟨of_decide_eq_true h.1.1, of_decide_eq_true h.1.2, fun c hc => ?_⟩
  have := h.2 c hc
  rw [Bool.and_eq_true] at this
  exact ⟨of_decide_eq_true this.1, of_decide_eq_true this.2⟩
def gB : Nat → Nat
  | 0 => 7
  | k + 1 => 3 * gB k + 8
theorem gB_pos : ∀ k, 7 ≤ gB k
  | 0 => Nat.le_refl _
  | k + 1 => by have := gB_pos k; show 7 ≤ 3 * gB k + 8; omega
theorem place_of {l : List Va} (hl : VasOk l) {v : Int} (h0 : 0 ≤ v) (h1 : v < l.length) : ∃ (i : Nat) (w : Va), v = (i : Int) ∧ i < 100 ∧ l[i]? = some w ∧ (szs l)[i]? = some (w.2.length : Int) ∧ atI (l.map varD) v = some (varD w) ∧ 1 ≤ w.2.length ∧ w.2.length ≤ 100 := by
  have hi : v.toNat < l.length := by omega
  have hw := hl.each _ (List.getElem_mem hi)
  have e : l[v.toNat]? = some l[v.toNat] := List.getElem?_eq_getElem hi
  have ev : v = (v.toNat : Int) := by omega
  refine ⟨v.toNat, l[v.toNat], ev, by have := hl.few; omega, e, by rw [List.getElem?_map, e]; rfl, ?_, hw.one, hw.few⟩
  have key : atI (l.map varD) ((v.toNat : Nat) : Int) = some (varD l[v.toNat]) := atI_nat (by rw [List.getElem?_map, e]; rfl)
  rw [← ev] at key
  exact key
theorem tame3 {w : Str} {n : Nat} (hw : Tame n 0 (.str w)) {a b : Int} (ha : 0 ≤ a ∧ a < 1000) (hb : 0 ≤ b ∧ b < 1000) : Tame (n + 3) 1 (.tuple [.str w, .int a, .int b]) :=
  Tame.tup (.cons hw (.cons (a := 0) (b := 1) (m := 2) (tame_small (by omega) (by omega)) (.cons (a := 0) (b := 0) (tame_small (by omega) (by omega)) .nil)) (by omega))
theorem all_of {α : Type} {f : α → PyData} {P : α → Prop} : ∀ {es : List PyData}, (∀ d ∈ es, ∃ a, d = f a ∧ P a) → ∃ as : List α, es = as.map f ∧ ∀ a ∈ as, P a
  | [], _ => ⟨[], rfl, (fun _ h => by cases h)⟩
  | d :: es, h => by
    obtain ⟨as, e1, e2⟩ := all_of fun x hx => h x (List.mem_cons_of_mem _ hx)
    obtain ⟨a, e3, e4⟩ := h d List.mem_cons_self
    refine ⟨a :: as, by rw [e1, e3]; rfl, fun b hb => ?_⟩
    rcases List.mem_cons.mp hb with e | hb
    · rw [e]; exact e4
    · exact e2 b hb
theorem inr_of {l : List Va} : ∀ {es : List PyData}, Rel2 (fun (v : Va) d => ∃ x : Int, d = .int x ∧ 0 ≤ x ∧ x < v.2.length) l es → ∃ vs : List Int, es = vs.map .int ∧ InR (szs l) vs := by
  induction l with
  | nil =>
    intro es h
    cases es with
    | nil => exact ⟨[], rfl, True.intro⟩
    | cons _ _ => exact h.elim
  | cons v l ih =>
    intro es h
    cases es with
    | nil => exact h.elim
    | cons d es =>
      obtain ⟨⟨x, rfl, x0, x1⟩, h2⟩ := h
      obtain ⟨vs, e, h3⟩ := ih h2
      exact ⟨x :: vs, by rw [e]; rfl, ⟨x0, x1⟩, h3⟩
theorem rng2_ok {k : Nat} (h : k ≤ 100000) (S : Store) : rng2I (.d (.int 1)) (.d (.int (k : Int))) S = .ok (rngI 1 (k - 1)) S := by
  rw [rng2_i, if_pos (by omega)]
  congr 2
  omega
theorem it_rng2 {K : Calls} {a b : CE} {k : Nat} {ρ : EnvD} {S S1 S2 : Store} (e : dE G K a ρ S = .ok (.d (.int 1)) S1) (e2 : dE G K b ρ S1 = .ok (.d (.int (k : Int))) S2) (h : k ≤ 100000) : dI G K (.rng2 a b) ρ S = .ok (rngI 1 (k - 1)) S2 := by
  have d : dI G K (.rng2 a b) ρ S = (dE G K a ρ S).bind fun v S1 => (dE G K b ρ S1).bind fun u S2 => rng2I v u S2 := by simp only [dI]
  rw [d, e, Out.bind_ok, e2, Out.bind_ok, rng2_ok h]
/-! ### the variables -/
def rm : List Str := ["hall", "yard", "cave"]
def kn : List Str := ["place", "flag", "count"]
def ens : List Str := ["", "out", "lost"]
def lab (i k : Nat) : Str := kn.getD k "" ++ (" " : Str) ++ nm i
def kv (r k : Nat) : List Str := if k = 0 then rm.take r ++ (["held", "nowhere"] : List Str) else if k = 1 then ["0", "1"] else ["0", "1", "2"]
def vR (r : Nat) : Va := ("room", rm.take r)
def vK (r i k : Nat) : Va := (lab i k, kv r k)
def vE (e : Nat) : Va := ("ended", ens.take e)
def mkL (r : Nat) (ks : List Nat) (e : Nat) : List Va := vR r :: (ks.zipIdx.map fun q => vK r q.2 q.1) ++ [vE e]
structure VaSm (v : Va) : Prop where
  few : v.2.length ≤ 5
  tame : Tame 50 2 (varD v)
def nms : List Str := rm ++ (["held", "nowhere", "0", "1", "2"] : List Str) ++ ens
theorem nms_by : nms.all (fun x => decide (x.length ≤ 7) && x.cps.toList.all fun c => decide (c < 1114112)) = true := by decide +kernel
theorem va_tame {v : Va} (h1 : Tame 7 1 (.str v.1)) (h2 : ∀ x ∈ v.2, x ∈ nms) (h3 : v.2.length ≤ 5) : Tame 50 2 (varD v) :=
  Tame.tup (k := 1) (.cons (a := 7) (b := 41) h1 (.cons (a := 40) (b := 0) (Tame.tup (k := 0) (TameAll.all (a := 7) (n := 5) (fun d hd => by
    obtain ⟨x, hx, rfl⟩ := List.mem_map.mp hd
    exact tame_w (List.all_eq_true.mp nms_by x (h2 x hx))) (by rw [List.length_map]; exact h3))) .nil))
theorem vr_by : ∀ r, r < 4 → 1 ≤ r → (rm.take r).Nodup ∧ (rm.take r).length = r ∧ (∀ x ∈ rm.take r, x ∈ nms) := by decide +kernel
theorem ve_by : ∀ r, r < 4 → 2 ≤ r → (ens.take r).Nodup ∧ (ens.take r).length = r ∧ (∀ x ∈ ens.take r, x ∈ nms) := by decide +kernel
theorem vk_by : ∀ r, r < 4 → 1 ≤ r → ∀ k, k < 3 → (kv r k).Nodup ∧ 1 ≤ (kv r k).length ∧ (kv r k).length ≤ 5 ∧ (∀ x ∈ kv r k, x ∈ nms) ∧ (kv r 0).length = r + 2 := by
  intro r h1 h2 k h3
  have hr : r = 1 ∨ r = 2 ∨ r = 3 := by omega
  have hk : k = 0 ∨ k = 1 ∨ k = 2 := by omega
  rcases hr with rfl | rfl | rfl <;> rcases hk with rfl | rfl | rfl <;> decide +kernel
theorem vl_by : ∀ i, i < 3 → ∀ k, k < 3 → (decide (1 ≤ (lab i k).length) && decide ((lab i k).length ≤ 200) && (lab i k).cps.toList.all fun c => decide (32 ≤ c) && decide (c ≤ 126)) = true ∧ (decide ((lab i k).length ≤ 7) && (lab i k).cps.toList.all fun c => decide (c < 1114112)) = true ∧ (kn.getD k "").length + (" " : Str).length + (nm i).length ≤ 7 ∧ (kn.getD k "").length + (" " : Str).length ≤ 7 ∧ (kn.getD k "" ++ (" " : Str)).length + (nm i).length ≤ 7 := by decide +kernel
theorem lab_by : ∀ a, a < 3 → ∀ b, b < 3 → ∀ c, c < 3 → [("room" : Str), lab 0 a, "ended"].Nodup ∧ [("room" : Str), lab 0 a, lab 1 b, "ended"].Nodup ∧ [("room" : Str), lab 0 a, lab 1 b, lab 2 c, "ended"].Nodup := by decide +kernel
theorem room_t : Txt "room" ∧ Tame 7 1 (.str "room") := ⟨txt_by (by decide +kernel), tame_w (by decide +kernel)⟩
theorem ended_t : Txt "ended" ∧ Tame 7 1 (.str "ended") := ⟨txt_by (by decide +kernel), tame_w (by decide +kernel)⟩
theorem vR_ok {r : Nat} (h0 : 1 ≤ r) (h1 : r < 4) : VaOk (vR r) ∧ VaSm (vR r) := by
  obtain ⟨q1, q2, q3⟩ := vr_by r h1 h0
  exact ⟨⟨room_t.1, q1, by show 1 ≤ (rm.take r).length; omega, by show (rm.take r).length ≤ 100; omega⟩, ⟨by show (rm.take r).length ≤ 5; omega, va_tame room_t.2 q3 (by show (rm.take r).length ≤ 5; omega)⟩⟩
theorem vE_ok {r : Nat} (h0 : 2 ≤ r) (h1 : r < 4) : VaOk (vE r) ∧ VaSm (vE r) := by
  obtain ⟨q1, q2, q3⟩ := ve_by r h1 h0
  exact ⟨⟨ended_t.1, q1, by show 1 ≤ (ens.take r).length; omega, by show (ens.take r).length ≤ 100; omega⟩, ⟨by show (ens.take r).length ≤ 5; omega, va_tame ended_t.2 q3 (by show (ens.take r).length ≤ 5; omega)⟩⟩
theorem vK_ok {r i k : Nat} (h0 : 1 ≤ r) (h1 : r < 4) (hi : i < 3) (hk : k < 3) : VaOk (vK r i k) ∧ VaSm (vK r i k) := by
  obtain ⟨q1, q2, q3, q4, _⟩ := vk_by r h1 h0 k hk
  obtain ⟨t1, t2, _⟩ := vl_by i hi k hk
  exact ⟨⟨txt_by t1, q1, q2, by show (kv r k).length ≤ 100; omega⟩, ⟨q3, va_tame (tame_w t2) q4 q3⟩⟩
structure MkOk (r : Nat) (ks : List Nat) (e : Nat) : Prop where
  few : 1 ≤ ks.length ∧ ks.length ≤ 3
  a : 1 ≤ r ∧ r < 4
  b : ∀ j ∈ ks, j < 3
  c : 2 ≤ e ∧ e < 4
/-- which variable it is -/
theorem mk_kind {r e : Nat} {ks : List Nat} (h : MkOk r ks e) : ∀ v ∈ mkL r ks e, v = vR r ∨ (∃ i k, i < 3 ∧ k < 3 ∧ v = vK r i k) ∨ v = vE e := by
  intro v hv
  unfold mkL at hv
  rcases List.mem_append.mp hv with hv | hv
  · rcases List.mem_cons.mp hv with e | hv
    · exact .inl e
    · obtain ⟨q, hq, rfl⟩ := List.mem_map.mp hv
      have h1 := List.mem_zipIdx hq
      have hj := h.b q.1 (by rw [h1.2.2]; simp)
      have := h.few
      exact .inr (.inl ⟨q.2, q.1, by omega, hj, rfl⟩)
  · exact .inr (.inr (List.mem_singleton.mp hv))
theorem mk_each {r e : Nat} {ks : List Nat} (h : MkOk r ks e) : ∀ v ∈ mkL r ks e, VaOk v ∧ VaSm v := by
  intro v hv
  rcases mk_kind h v hv with rfl | ⟨i, k, hi, hk, rfl⟩ | rfl
  · exact vR_ok h.a.1 h.a.2
  · exact vK_ok h.a.1 h.a.2 hi hk
  · exact vE_ok h.c.1 h.c.2
theorem mk_few {r e : Nat} {ks : List Nat} (h : MkOk r ks e) : 3 ≤ (mkL r ks e).length ∧ (mkL r ks e).length ≤ 5 := by
  have := h.few
  simp [mkL]
  omega
theorem mk_ok {r e : Nat} {ks : List Nat} (h : MkOk r ks e) : VasOk (mkL r ks e) := by
  have hf := mk_few h
  refine ⟨fun v hv => (mk_each h v hv).1, ?_, by omega, by omega, ⟨_, _, rfl, rfl⟩, ?_⟩
  · have hl := h.few
    have hb := h.b
    match ks, hl, hb with
    | [a], _, hb => exact (lab_by a (hb a (by simp)) 0 (by decide) 0 (by decide)).1
    | [a, b], _, hb => exact (lab_by a (hb a (by simp)) b (hb b (by simp)) 0 (by decide)).2.1
    | [a, b, c], _, hb => exact (lab_by a (hb a (by simp)) b (hb b (by simp)) c (hb c (by simp))).2.2
    | [], hl, _ => exact absurd hl.1 (by decide)
    | _ :: _ :: _ :: _ :: _, hl, _ => exact absurd hl.2 (by simp)
  · refine ⟨vE e, _, (ens.take e).drop 1, rfl, rfl, ?_⟩
    obtain ⟨j, hj⟩ : ∃ j, e = j + 1 := ⟨e - 1, by have := h.c; omega⟩
    rw [hj]
    rfl
theorem mk_tame {r e : Nat} {ks : List Nat} (h : MkOk r ks e) : Tame 255 3 (varsD (mkL r ks e)) :=
  Tame.tup (k := 2) (TameAll.all (a := 50) (n := 5) (fun d hd => by
    obtain ⟨v, hv, rfl⟩ := List.mem_map.mp hd
    exact (mk_each h v hv).2.tame) (by rw [List.length_map]; exact (mk_few h).2))
theorem cut_rm (k : Nat) : cutD [PyData.str "hall", .str "yard", .str "cave"] none (some (1 + (k : Int))) = (rm.take (k + 1)).map .str := by
  have := cut_str rm (k + 1)
  rw [← this, show 1 + (k : Int) = ((k + 1 : Nat) : Int) by omega]
  rfl
theorem cut_ens (k : Nat) : cutD [PyData.str "", .str "out", .str "lost"] none (some (2 + (k : Int))) = (ens.take (k + 2)).map .str := by
  have := cut_str ens (k + 2)
  rw [← this, show 2 + (k : Int) = ((k + 2 : Nat) : Int) by omega]
  rfl
def preL (r : Nat) (ks : List Nat) : List Va := vR r :: ks.zipIdx.map fun q => vK r q.2 q.1
def IV (p r : Nat) (n : Nat) (S : Store) (its : List Val) (ρ : EnvD) (S' : Store) : Prop := ∃ (ks : List Nat) (c : Nat) (o : Ob) (x y z : Option Val), its = (List.range' ks.length c).map (fun (i : Nat) => Val.d (.int (i : Int))) ∧ ks.length + c = n ∧
  ρ = [some (.loc p), some (.d (.tuple ((rm.take r).map .str))), some (.loc S.length), x, y, z] ∧ (∀ k ∈ ks, k < 3) ∧ PotO o ∧ S' = S.set p o ++ [.lst ((preL r ks).map varD)]
theorem r_law_variables {n : Nat} (hn : 1 < n) {p : Nat} {S : Store} (h : Pot p S) : Gets (sem G T n 35 [.loc p] S) fun v S' => ∃ r ks e o, v = .d (varsD (mkL r ks e)) ∧ MkOk r ks e ∧ PotO o ∧ S' = S.set p o := by
  obtain ⟨m, rfl⟩ : ∃ m, n = m + 1 := ⟨n - 1, by omega⟩
  obtain ⟨_, _, e, c, o, rfl, c0, c1, ho, rfl⟩ := r_draw (n := m) (by omega) h (m := 3) (by omega) (by omega)
  obtain ⟨k, rfl⟩ : ∃ k : Nat, c = (k : Int) := ⟨c.toNat, by omega⟩
  have pa : Pot p (S.set p o ++ [.lst ((preL (k + 1) []).map varD)]) := (h.set ho).app
  obtain ⟨_, _, e2, c2, o2, rfl, c20, c21, ho2, rfl⟩ := r_draw (n := m) (by omega) pa (m := 3) (by omega) (by omega)
  rw [set_app h] at e2
  obtain ⟨k2, rfl⟩ : ∃ k : Nat, c2 = (k : Int) := ⟨c2.toNat, by omega⟩
  refine gets_sem t_law_variables rfl ?_
  simp [dSs, dS, dE, dEs, dAnd, dOr, dT, Ev.tAnd, Ev.tOr, dU, dN, dB2, dIf, dVar, dCst, dO, dC, dCall, dKall, pick, entry, isiV, isiV2, isTys, isTy, tobV, truO, truV, okIf, datOf, seqOf, lstOf, datas, lstV, tupV, elsOf, Out.bind_ok, f_law_variables, tgt, e, cut_rm, -List.map_take]
  have hpre : [PyData.tuple [.str (Str.ofString "room"), .tuple ((rm.take (k + 1)).map .str)]] = (preL (k + 1) []).map varD := by simp [preL, vR]
  rw [hpre]
  refine ⟨rngI 0 (k2 + 1), S.set p o2 ++ [.lst ((preL (k + 1) []).map varD)], it_rng1 (by simp [dSs, dS, dE, dEs, dAnd, dOr, dT, Ev.tAnd, Ev.tOr, dU, dN, dB2, dIf, dVar, dCst, dO, dC, dI, dCall, dKall, pick, entry, isiV, isiV2, isTys, isTy, tobV, truO, truV, okIf, datOf, seqOf, lstOf, datas, lstV, tupV, elsOf, Out.bind_ok, e2]; omega) (by omega), ?_⟩
  refine gs_for (IV p (k + 1) (k2 + 1) S) ?_ ?_ _ _ _ ⟨[], k2 + 1, o2, none, none, none, by simp [rngI, List.range_eq_range'], by simp, rfl, (fun _ h => by cases h), ho2, rfl⟩
  · rintro v its ρ S' ⟨ks, c, o, x, y, z, e, hc, rfl, hk, ho, rfl⟩
    cases c with
    | zero => cases e
    | succ c =>
      rw [List.range'_succ, List.map_cons] at e
      cases e
      have pb : Pot p (S.set p o ++ [.lst ((preL (k + 1) ks).map varD)]) := (h.set ho).app
      obtain ⟨_, _, e3, f, o3, rfl, f0, f1, h3, rfl⟩ := r_draw (n := m) (by omega) pb (m := 3) (by omega) (by omega)
      rw [set_app h] at e3
      obtain ⟨j, rfl⟩ : ∃ k : Nat, f = (k : Int) := ⟨f.toNat, by omega⟩
      have lt3 : ks.length < 3 := by omega
      have hj : j < 3 := by omega
      obtain ⟨_, _, _, q1, q2⟩ := vl_by ks.length lt3 j hj
      have hz : ((preL (k + 1) ks).map varD).length < sizeLine := by rw [List.length_map, sizeLine_eq]; simp [preL]; omega
      refine ⟨True.intro, _, rfl, ?_⟩
      obtain ⟨L, hL⟩ : ∃ L, L = (preL (k + 1) ks).map varD := ⟨_, rfl⟩
      rw [← hL] at e3 hz ⊢
      have ap := fun d => app0 (S := S) (p := p) (d := d) o3 [] hz
      have s1 := line_of (k := (kn.getD j "").length + (" " : Str).length) (by omega)
      have s2 := line_of (k := (kn.getD j "" ++ (" " : Str)).length + (nm ks.length).length) (by omega)
      have ej : j = 0 ∨ j = 1 ∨ j = 2 := by omega
      have done : ∀ (x y z : Option Val) (d : PyData), d = varD (vK (k + 1) ks.length j) → IV p (k + 1) (k2 + 1) S ((List.range' (ks.length + 1) c).map (fun (i : Nat) => Val.d (.int (i : Int)))) [some (.loc p), some (.d (.tuple ((rm.take (k + 1)).map .str))), some (.loc S.length), x, y, z] (S.set p o3 ++ [.lst (L ++ [d])]) := fun x y z d hd =>
        ⟨ks ++ [j], c, o3, x, y, z, by simp, by simp; omega, rfl, (fun i hi => by
          rcases List.mem_append.mp hi with hi | hi
          · exact hk i hi
          · rw [List.mem_singleton.mp hi]; exact hj), h3, by rw [hL, hd]; simp [preL, List.zipIdx_append]⟩
      rcases ej with rfl | rfl | rfl
      · simp [kn] at s1 s2
        simp [dSs, dS, dE, dEs, dAnd, dOr, dT, Ev.tAnd, Ev.tOr, dU, dN, dB2, dIf, dVar, dCst, dO, dC, dI, dCall, dKall, pick, entry, isiV, isiV2, isTys, isTy, tobV, truO, truV, okIf, datOf, seqOf, lstOf, datas, lstV, tupV, elsOf, Out.bind_ok, tgt, recV, at0, small_nat (i := ks.length) (by omega), nm_eq, e3, ap, s1, s2, -List.map_take]
        have r3 : rm.length = 3 := rfl
        exact ⟨fun _ => done _ _ _ _ (by simp [vK, lab, kv, kn]), line_of (by omega)⟩
      · simp [kn] at s1 s2
        simp [dSs, dS, dE, dEs, dAnd, dOr, dT, Ev.tAnd, Ev.tOr, dU, dN, dB2, dIf, dVar, dCst, dO, dC, dI, dCall, dKall, pick, entry, isiV, isiV2, isTys, isTy, tobV, truO, truV, okIf, datOf, seqOf, lstOf, datas, lstV, tupV, elsOf, Out.bind_ok, tgt, recV, at0, small_nat (i := ks.length) (by omega), nm_eq, e3, ap, s1, s2, -List.map_take]
        exact done _ _ _ _ (by simp [vK, lab, kv, kn])
      · simp [kn] at s1 s2
        simp [dSs, dS, dE, dEs, dAnd, dOr, dT, Ev.tAnd, Ev.tOr, dU, dN, dB2, dIf, dVar, dCst, dO, dC, dI, dCall, dKall, pick, entry, isiV, isiV2, isTys, isTy, tobV, truO, truV, okIf, datOf, seqOf, lstOf, datas, lstV, tupV, elsOf, Out.bind_ok, tgt, recV, at0, small_nat (i := ks.length) (by omega), nm_eq, e3, ap, s1, s2, -List.map_take]
        exact done _ _ _ _ (by simp [vK, lab, kv, kn])
  · rintro ρ S' ⟨ks, c, o, x, y, z, e, hc, rfl, hk, ho, rfl⟩
    cases c with
    | succ c => cases e
    | zero =>
      refine ⟨True.intro, ?_⟩
      have pb : Pot p (S.set p o ++ [.lst ((preL (k + 1) ks).map varD)]) := (h.set ho).app
      obtain ⟨_, _, e3, f, o3, rfl, f0, f1, h3, rfl⟩ := r_draw (n := m) (by omega) pb (m := 2) (by omega) (by omega)
      rw [set_app h] at e3
      obtain ⟨j, rfl⟩ : ∃ k : Nat, f = (k : Int) := ⟨f.toNat, by omega⟩
      obtain ⟨L, hL⟩ : ∃ L, L = (preL (k + 1) ks).map varD := ⟨_, rfl⟩
      have hlen : L.length + 1 ≤ sizeLine := by rw [hL, List.length_map, sizeLine_eq]; simp [preL]; omega
      rw [← hL] at e3 ⊢
      have ad := add_loc_l (S := S.set p o3 ++ [.lst L]) (p := S.length) (zs := [.tuple [.str "ended", .tuple ((ens.take (j + 2)).map .str)]]) (at0 o3 (.lst L) [])
      simp [dSs, dS, dE, dEs, dAnd, dOr, dT, Ev.tAnd, Ev.tOr, dU, dN, dB2, dIf, dVar, dCst, dO, dC, dI, dCall, dKall, pick, entry, isiV, isiV2, isTys, isTy, tobV, truO, truV, okIf, datOf, seqOf, lstOf, datas, lstV, tupV, elsOf, Out.bind_ok, tgt, e3, cut_ens, ad, hlen, -List.map_take]
      refine ⟨k + 1, ks, j + 2, ?_, ⟨by omega, by omega, hk, by omega⟩, o3, h3, rfl⟩
      rw [hL]
      simp [mkL, preL, vE]
end HT
end

section
set_option Elab.async false
set_option linter.all false
set_option maxRecDepth 100000
set_option maxHeartbeats 4000000
/-! B7: drawn guards, acts, says -/
namespace HT
open PySem PySem.Spec L2 Ev
theorem r_law_atom {l : List Va} (hl : VasOk l) {n : Nat} (hn : 1 < n) {p : Nat} {S : Store} (h : Pot p S) : Gets (sem G T n 36 [.loc p, .d (varsD l)] S) fun v S' => ∃ g o, v = .d g ∧ GOk (szs l) 1 g ∧ Tame 7 1 g ∧ PotO o ∧ S' = S.set p o := by
  obtain ⟨m, rfl⟩ : ∃ m, n = m + 1 := ⟨n - 1, by omega⟩
  have l2 := hl.two
  have l100 := hl.few
  obtain ⟨_, _, e1, a, o1, rfl, a0, a1, h1, rfl⟩ := r_draw (n := m) (by omega) h (m := (l.length : Int)) (by omega) (by omega)
  have p1 := h.set h1
  obtain ⟨_, _, e2, b, o2, rfl, b0, b1, h2, rfl⟩ := r_draw (n := m) (by omega) p1 (m := (l.length : Int)) (by omega) (by omega)
  have p2 := p1.set h2
  obtain ⟨_, _, e3, w, o3, rfl, w0, w1, h3, rfl⟩ := r_draw (n := m) (by omega) p2 (m := 4) (by omega) (by omega)
  have p3 := p2.set h3
  obtain ⟨i, u, ev, hi, hu, hz, ia, u1, u2⟩ := place_of hl a0 a1
  obtain ⟨_, _, e4, x, o4, rfl, x0, x1, h4, rfl⟩ := r_draw (n := m) (by omega) p3 (m := (u.2.length : Int)) (by omega) (by omega)
  simp only [List.set_set] at e2 e3 e4
  by_cases hw : w = 0
  · have E : sem G T (m + 1) 36 [.loc p, .d (varsD l)] S = .ok (.d (.tuple [.str "same", .int a, .int b])) (S.set p o3) := by
      refine ok_of (gets_sem t_law_atom rfl ?_)
      subst hw
      simp [dSs, dS, dE, dEs, dAnd, dOr, dT, Ev.tAnd, Ev.tOr, dU, dN, dB2, dIf, dVar, dCst, dO, dC, dI, dCall, dKall, pick, entry, isiV, isiV2, isTys, isTy, tobV, truO, truV, okIf, datOf, seqOf, lstOf, datas, lstV, tupV, elsOf, Out.bind_ok, f_law_atom, tgt, parD, e1, e2, e3]
    refine ⟨_, _, E, _, o3, rfl, ?_, tame3 (n := 4) (tame_w (by decide +kernel)) ⟨by omega, by omega⟩ ⟨by omega, by omega⟩, h3, rfl⟩
    exact .inr (.inl ⟨i, b.toNat, by rw [ev]; congr; omega, by simp; omega, by simp; omega⟩)
  · have E : sem G T (m + 1) 36 [.loc p, .d (varsD l)] S = .ok (.d (.tuple [.str "is", .int a, .int x])) (S.set p o4) := by
      refine ok_of (gets_sem t_law_atom rfl ?_)
      simp [dSs, dS, dE, dEs, dAnd, dOr, dT, Ev.tAnd, Ev.tOr, dU, dN, dB2, dIf, dVar, dCst, dO, dC, dI, dCall, dKall, pick, entry, isiV, isiV2, isTys, isTy, tobV, truO, truV, okIf, datOf, seqOf, lstOf, datas, lstV, tupV, elsOf, Out.bind_ok, f_law_atom, tgt, parD, e1, e2, e3, hw, ia, e4]
    refine ⟨_, _, E, _, o4, rfl, ?_, tame3 (n := 4) (tame_w (by decide +kernel)) ⟨by omega, by omega⟩ ⟨by omega, by omega⟩, h4, rfl⟩
    exact .inl ⟨i, x, u.2.length, by rw [ev], hz, x0, x1⟩
theorem r_law_guard {l : List Va} (hl : VasOk l) : ∀ (k n : Nat), k + 2 < n → ∀ {p : Nat} {S : Store}, Pot p S → Gets (sem G T n 37 [.loc p, .d (varsD l), .d (.int (k : Int))] S) fun v S' => ∃ g o, v = .d g ∧ GOk (szs l) (k + 1) g ∧ Tame (gB k) (2 * k + 1) g ∧ PotO o ∧ S' = S.set p o := by
  intro k
  induction k with
  | zero =>
    intro n hn p S h
    obtain ⟨m, rfl⟩ : ∃ m, n = m + 1 := ⟨n - 1, by omega⟩
    obtain ⟨_, _, e1, g, o1, rfl, hg, ht, h1, rfl⟩ := r_law_atom hl (n := m) (by omega) h
    have E : sem G T (m + 1) 37 [.loc p, .d (varsD l), .d (.int 0)] S = .ok (.d g) (S.set p o1) := by
      refine ok_of (gets_sem t_law_guard rfl ?_)
      simp [dSs, dS, dE, dEs, dAnd, dOr, dT, Ev.tAnd, Ev.tOr, dU, dN, dB2, dIf, dVar, dCst, dO, dC, dI, dCall, dKall, pick, entry, isiV, isiV2, isTys, isTy, tobV, truO, truV, okIf, datOf, seqOf, lstOf, datas, lstV, tupV, elsOf, Out.bind_ok, f_law_guard, tgt, e1]
    exact ⟨_, _, E, _, o1, rfl, hg, ht, h1, rfl⟩
  | succ k ih =>
    intro n hn p S h
    obtain ⟨m, rfl⟩ : ∃ m, n = m + 1 := ⟨n - 1, by omega⟩
    have gp := gB_pos k
    have kp : ((0 : Int) < (k : Int) + 1) := by omega
    have kc : ((k + 1 : Nat) : Int) = (k : Int) + 1 := by omega
    have km : (k : Int) + 1 - 1 = k := by omega
    obtain ⟨_, _, e1, w, o1, rfl, w0, w1, h1, rfl⟩ := r_draw (n := m) (by omega) h (m := 6) (by omega) (by omega)
    have p1 := h.set h1
    obtain ⟨_, _, e2, g2, o2, rfl, hg2, ht2, h2, rfl⟩ := r_law_atom hl (n := m) (by omega) p1
    obtain ⟨_, _, e5, g5, o5, rfl, hg5, ht5, h5, rfl⟩ := ih m (by omega) p1
    obtain ⟨_, _, e7, c, o7, rfl, c0, c1, h7, rfl⟩ := r_draw (n := m) (by omega) p1 (m := 4) (by omega) (by omega)
    have p7 := p1.set h7
    simp only [List.set_set] at e2 e5 e7 p7
    rw [kc]
    by_cases hw : w < 3
    · have E : sem G T (m + 1) 37 [.loc p, .d (varsD l), .d (.int ((k : Int) + 1))] S = .ok (.d g2) (S.set p o2) := by
        refine ok_of (gets_sem t_law_guard rfl ?_)
        simp [dSs, dS, dE, dEs, dAnd, dOr, dT, Ev.tAnd, Ev.tOr, dU, dN, dB2, dIf, dVar, dCst, dO, dC, dI, dCall, dKall, pick, entry, isiV, isiV2, isTys, isTy, tobV, truO, truV, okIf, datOf, seqOf, lstOf, datas, lstV, tupV, elsOf, Out.bind_ok, f_law_guard, tgt, e1, e2, hw, kp]
      refine ⟨_, _, E, _, o2, rfl, hg2.up (by omega), ht2.imp (by show 7 ≤ 3 * gB k + 8; omega) (by omega), h2, rfl⟩
    · by_cases hw3 : w = 3
      · have E : sem G T (m + 1) 37 [.loc p, .d (varsD l), .d (.int ((k : Int) + 1))] S = .ok (.d (.tuple [.str "not", g5])) (S.set p o5) := by
          refine ok_of (gets_sem t_law_guard rfl ?_)
          subst hw3
          simp [dSs, dS, dE, dEs, dAnd, dOr, dT, Ev.tAnd, Ev.tOr, dU, dN, dB2, dIf, dVar, dCst, dO, dC, dI, dCall, dKall, pick, entry, isiV, isiV2, isTys, isTy, tobV, truO, truV, okIf, datOf, seqOf, lstOf, datas, lstV, tupV, elsOf, Out.bind_ok, f_law_guard, tgt, e1, e5, kp]
        refine ⟨_, _, E, _, o5, rfl, .inr (.inr (.inl ⟨g5, rfl, hg5⟩)), ?_, h5, rfl⟩
        exact (Tame.tup (k := 2 * k + 2) (m := gB k + 5) (.cons (a := 3) (b := gB k + 1) (tame_w (by decide +kernel)) (.cons (a := gB k) (b := 0) (ht5.imp (Nat.le_refl _) (by omega)) .nil (by omega)) (by omega))).imp (by show gB k + 5 ≤ 3 * gB k + 8; omega) (by omega)
      · refine gets_sem t_law_guard rfl ?_
        obtain ⟨c', rfl⟩ : ∃ c' : Nat, c = (c' : Int) := ⟨c.toNat, by omega⟩
        simp [dSs, dS, dE, dEs, dAnd, dOr, dT, Ev.tAnd, Ev.tOr, dU, dN, dB2, dIf, dVar, dCst, dO, dC, dCall, dKall, pick, entry, isiV, isiV2, isTys, isTy, tobV, truO, truV, okIf, datOf, seqOf, lstOf, datas, lstV, tupV, elsOf, Out.bind_ok, f_law_guard, tgt, e1, hw, hw3, e7, kp]
        have key : ∀ wd : Str, (wd = "all" ∨ wd = "any") → ∀ es o, es.length = c' → (∀ d ∈ es, GOk (szs l) (k + 1) d ∧ Tame (gB k) (2 * k + 1) d) → PotO o → ∃ g o', (Val.d (PyData.tuple [PyData.str wd, PyData.tuple es]) = Val.d g ∧ GOk (szs l) (k + 1 + 1) g ∧ Tame (gB (k + 1)) (2 * (k + 1) + 1) g ∧ PotO o' ∧ S.set p o = S.set p o') := fun wd hd es o he hR ho => by
          have hel : es.length ≤ 3 := by omega
          refine ⟨_, o, rfl, ?_, ?_, ho, rfl⟩
          · rcases hd with rfl | rfl
            · exact .inr (.inr (.inr (.inl ⟨es, rfl, by omega, fun d hd => (hR d hd).1⟩)))
            · exact .inr (.inr (.inr (.inr ⟨es, rfl, by omega, fun d hd => (hR d hd).1⟩)))
          · have td : Tame 3 (2 * k + 2) (.str wd) := by
              rcases hd with rfl | rfl <;> exact tame_w (by decide +kernel)
            have te : Tame ((gB k + 1) * 3) (2 * k + 2) (.tuple es) := Tame.tup (TameAll.all (fun d hd => (hR d hd).2) hel (Nat.le_refl _))
            exact (Tame.tup (k := 2 * k + 2) (.cons (a := 3) (b := (gB k + 1) * 3 + 1) td (.cons (a := (gB k + 1) * 3) (b := 0) te .nil (by omega)) (Nat.le_refl _))).imp (by show 3 + 1 + ((gB k + 1) * 3 + 1) ≤ 3 * gB k + 8; omega) (by omega)
        by_cases hw4 : w = 4
        · simp [hw4, dSs, dS, dE, dEs, dAnd, dOr, dT, Ev.tAnd, Ev.tOr, dU, dN, dB2, dIf, dVar, dCst, dO, dC, dCall, dKall, pick, entry, isiV, isiV2, isTys, isTy, tobV, truO, truV, okIf, datOf, seqOf, lstOf, datas, lstV, tupV, elsOf, Out.bind_ok]
          refine gets_lcN (R := fun d => GOk (szs l) (k + 1) d ∧ Tame (gB k) (2 * k + 1) d) 0 c' (S := S.set p o7) (it_rng1 (by simp [dSs, dS, dE, dEs, dAnd, dOr, dT, Ev.tAnd, Ev.tOr, dU, dN, dB2, dIf, dVar, dCst, dO, dC, dI, dCall, dKall, pick, entry, isiV, isiV2, isTys, isTy, tobV, truO, truV, okIf, datOf, seqOf, lstOf, datas, lstV, tupV, elsOf, Out.bind_ok]) (by omega)) (by rw [sizeLine_eq]; omega) p7 (fun i hi S' hS' => ⟨_, rfl, ?_⟩) fun es o he hR ho => ?_
          · obtain ⟨_, _, e8, g8, o8, rfl, hg8, ht8, h8, rfl⟩ := ih m (by omega) hS'
            simp [dSs, dS, dE, dEs, dAnd, dOr, dT, Ev.tAnd, Ev.tOr, dU, dN, dB2, dIf, dVar, dCst, dO, dC, dI, dCall, dKall, pick, entry, isiV, isiV2, isTys, isTy, tobV, truO, truV, okIf, datOf, seqOf, lstOf, datas, lstV, tupV, elsOf, Out.bind_ok, wipeD, km, e8]
            exact ⟨⟨hg8, ht8⟩, o8, h8, rfl⟩
          · simp [dSs, dS, dE, dEs, dAnd, dOr, dT, Ev.tAnd, Ev.tOr, dU, dN, dB2, dIf, dVar, dCst, dO, dC, dI, dCall, dKall, pick, entry, isiV, isiV2, isTys, isTy, tobV, truO, truV, okIf, datOf, seqOf, lstOf, datas, lstV, tupV, elsOf, Out.bind_ok]
            simpa using key "all" (.inl rfl) es o he hR ho
        · simp [hw4, dSs, dS, dE, dEs, dAnd, dOr, dT, Ev.tAnd, Ev.tOr, dU, dN, dB2, dIf, dVar, dCst, dO, dC, dCall, dKall, pick, entry, isiV, isiV2, isTys, isTy, tobV, truO, truV, okIf, datOf, seqOf, lstOf, datas, lstV, tupV, elsOf, Out.bind_ok]
          refine gets_lcN (R := fun d => GOk (szs l) (k + 1) d ∧ Tame (gB k) (2 * k + 1) d) 0 c' (S := S.set p o7) (it_rng1 (by simp [dSs, dS, dE, dEs, dAnd, dOr, dT, Ev.tAnd, Ev.tOr, dU, dN, dB2, dIf, dVar, dCst, dO, dC, dI, dCall, dKall, pick, entry, isiV, isiV2, isTys, isTy, tobV, truO, truV, okIf, datOf, seqOf, lstOf, datas, lstV, tupV, elsOf, Out.bind_ok]) (by omega)) (by rw [sizeLine_eq]; omega) p7 (fun i hi S' hS' => ⟨_, rfl, ?_⟩) fun es o he hR ho => ?_
          · obtain ⟨_, _, e8, g8, o8, rfl, hg8, ht8, h8, rfl⟩ := ih m (by omega) hS'
            simp [dSs, dS, dE, dEs, dAnd, dOr, dT, Ev.tAnd, Ev.tOr, dU, dN, dB2, dIf, dVar, dCst, dO, dC, dI, dCall, dKall, pick, entry, isiV, isiV2, isTys, isTy, tobV, truO, truV, okIf, datOf, seqOf, lstOf, datas, lstV, tupV, elsOf, Out.bind_ok, wipeD, km, e8]
            exact ⟨⟨hg8, ht8⟩, o8, h8, rfl⟩
          · simp [dSs, dS, dE, dEs, dAnd, dOr, dT, Ev.tAnd, Ev.tOr, dU, dN, dB2, dIf, dVar, dCst, dO, dC, dI, dCall, dKall, pick, entry, isiV, isiV2, isTys, isTy, tobV, truO, truV, okIf, datOf, seqOf, lstOf, datas, lstV, tupV, elsOf, Out.bind_ok]
            simpa using key "any" (.inr rfl) es o he hR ho
structure AsOk (zs : List Int) (as : List PyData) : Prop where
  ok : ∀ a ∈ as, ActOk zs a ∧ Tame 7 1 a
  few : as.length ≤ 3
structure SsOk (ss : List PyData) : Prop where
  ok : ∀ s ∈ ss, SayOk s ∧ Tame 16 1 s
  few : ss.length ≤ 2
/-- places that may be written -/
abbrev natsD (sm : List Nat) : PyData := .list (sm.map fun (i : Nat) => .int (i : Int))
def IAs (l : List Va) (sm : List Nat) (c p : Nat) (S : Store) (its : List Val) (ρ : EnvD) (S' : Store) : Prop := ∃ (as : List PyData) (o : Ob) (x y z : Option Val), ρ = [some (.loc p), some (.d (varsD l)), some (.d (natsD sm)), some (.loc S.length), x, y, z] ∧ (∀ a ∈ as, ActOk (szs l) a ∧ Tame 7 1 a) ∧ as.length + its.length = c ∧ PotO o ∧ S' = S.set p o ++ [.lst as]
theorem r_law_acts {l : List Va} (hl : VasOk l) {sm : List Nat} (hsm : ∀ i ∈ sm, i < l.length) (hsl : sm.length ≤ 100) {n : Nat} (hn : 2 < n) {p : Nat} {S : Store} (h : Pot p S) : Gets (sem G T n 38 [.loc p, .d (varsD l), .d (natsD sm)] S) fun v S' => ∃ as o, v = .d (.tuple as) ∧ AsOk (szs l) as ∧ PotO o ∧ S' = S.set p o := by
  obtain ⟨m, rfl⟩ : ∃ m, n = m + 1 := ⟨n - 1, by omega⟩
  refine gets_sem t_law_acts rfl ?_
  have l2 := hl.two
  have l100 := hl.few
  have hcl : ∀ d ∈ sm.map (fun (i : Nat) => PyData.int (i : Int)), Cl 63 d := fun d hd => by
    obtain ⟨x, _, rfl⟩ := List.mem_map.mp hd
    exact .int
  have ne := fun S => ne_nil hcl S
  have h0 : Pot p (S ++ [Ob.lst []]) := h.app
  simp [dSs, dS, dE, dEs, dAnd, dOr, dT, Ev.tAnd, Ev.tOr, dU, dN, dB2, dIf, dVar, dCst, dO, dC, dCall, dKall, pick, entry, isiV, isiV2, isTys, isTy, tobV, truO, truV, okIf, datOf, seqOf, lstOf, datas, lstV, tupV, elsOf, Out.bind_ok, f_law_acts, tgt]
  have it : ∃ (c : Nat) (o : Ob), c ≤ 3 ∧ PotO o ∧ dI G (sem G T m) (.rng1 (.ife (.cmp .NotEq (.var 2) (.lst false .nil)) (.call 32 (.cons (.var 0) (.cons (.cst (.int 4)) .nil))) (.cst (.int 0)))) [some (.loc p), some (.d (varsD l)), some (.d (natsD sm)), some (.loc S.length), none, none, none] (S ++ [.lst []]) = .ok (rngI 0 c) (S.set p o ++ [.lst []]) ∧ (c = 0 ∨ sm ≠ []) := by
    by_cases hs : sm = []
    · obtain ⟨o, ho, hpo⟩ := h
      obtain ⟨hlt, e⟩ := List.getElem?_eq_some_iff.mp ho
      refine ⟨0, o, by omega, hpo, it_rng1 (k := 0) ?_ (by omega), .inl rfl⟩
      subst hs
      rw [← e, List.set_getElem_self]
      simp [dSs, dS, dE, dEs, dAnd, dOr, dT, Ev.tAnd, Ev.tOr, dU, dN, dB2, dIf, dVar, dCst, dO, dC, dI, dCall, dKall, pick, entry, isiV, isiV2, isTys, isTy, tobV, truO, truV, okIf, datOf, seqOf, lstOf, datas, lstV, tupV, elsOf, Out.bind_ok, ne]
    · obtain ⟨_, _, e1, c, o1, rfl, c0, c1, h1, rfl⟩ := r_draw (n := m) (by omega) h0 (m := 4) (by omega) (by omega)
      rw [set_app0 h] at e1
      obtain ⟨c', rfl⟩ : ∃ c' : Nat, c = (c' : Int) := ⟨c.toNat, by omega⟩
      refine ⟨c', o1, by omega, h1, it_rng1 ?_ (by omega), .inr hs⟩
      have hs2 : (sm.map fun (i : Nat) => PyData.int (i : Int)).isEmpty = false := by simpa using hs
      simp [dSs, dS, dE, dEs, dAnd, dOr, dT, Ev.tAnd, Ev.tOr, dU, dN, dB2, dIf, dVar, dCst, dO, dC, dI, dCall, dKall, pick, entry, isiV, isiV2, isTys, isTy, tobV, truO, truV, okIf, datOf, seqOf, lstOf, datas, lstV, tupV, elsOf, Out.bind_ok, ne, hs, e1]
  obtain ⟨c, o1, hc3, h1, ei, hcs⟩ := it
  refine ⟨_, _, ei, ?_⟩
  refine gs_for (IAs l sm c p S) ?_ ?_ _ _ _ ⟨[], o1, _, _, _, rfl, (fun _ h => by cases h), by simp [rngI], h1, rfl⟩
  · rintro v its ρ S' ⟨as, o, x, y, z, rfl, ha, hc, ho, rfl⟩
    have hs : sm ≠ [] := by
      rcases hcs with e | e
      · subst e; simp at hc
      · exact e
    have pa : Pot p (S.set p o ++ [Ob.lst as]) := (h.set ho).app
    obtain ⟨_, _, e2, da, hda, o2, rfl, h2, rfl⟩ := r_pick (n := m) (by omega) pa (some := sm.map fun (i : Nat) => PyData.int (i : Int)) (by simpa using hs) (by rw [List.length_map]; omega) _ (.inl rfl)
    obtain ⟨i, hi, rfl⟩ := List.mem_map.mp hda
    have hil := hsm i hi
    have pb : Pot p (S.set p o2 ++ [Ob.lst as]) := (h.set h2).app
    rw [set_app h] at e2
    obtain ⟨_, _, e3, b, o3, rfl, b0, b1, h3, rfl⟩ := r_draw (n := m) (by omega) pb (m := (l.length : Int)) (by omega) (by omega)
    rw [set_app h] at e3
    have pc : Pot p (S.set p o3 ++ [Ob.lst as]) := (h.set h3).app
    obtain ⟨i', u, ea, hi', hu, hz, ia, u1, u2⟩ := place_of hl (v := (i : Int)) (by omega) (by omega)
    obtain ⟨j, w, eb, hj, hw, hy, ib, w1, w2⟩ := place_of hl b0 b1
    obtain ⟨_, _, e4, f, o4, rfl, f0, f1, h4, rfl⟩ := r_draw (n := m) (by omega) pc (m := 3) (by omega) (by omega)
    rw [set_app h] at e4
    have pd : Pot p (S.set p o4 ++ [Ob.lst as]) := (h.set h4).app
    obtain ⟨_, _, e6, x6, o6, rfl, x60, x61, h6, rfl⟩ := r_draw (n := m) (by omega) pd (m := (u.2.length : Int)) (by omega) (by omega)
    rw [set_app h] at e6
    have hlen : as.length < sizeLine := by rw [sizeLine_eq]; simp at hc; omega
    have ap := fun (o : Ob) d => app0 (S := S) (p := p) (d := d) o [] hlen
    have tset : ActOk (szs l) (.tuple [.str "set", .int (i : Int), .int x6]) ∧ Tame 7 1 (.tuple [.str "set", .int (i : Int), .int x6]) :=
      ⟨.inl ⟨i', x6, u.2.length, by rw [ea], hz, x60, x61⟩, (tame3 (n := 3) (tame_w (by decide +kernel)) ⟨by omega, by omega⟩ ⟨by omega, by omega⟩).imp (by decide) (by decide)⟩
    refine ⟨True.intro, _, rfl, ?_⟩
    have fset : IAs l sm c p S its [some (.loc p), some (.d (varsD l)), some (.d (natsD sm)), some (.loc S.length), some v, some (.d (.int (i : Int))), some (.d (.int b))] (S.set p o6 ++ [.lst (as ++ [.tuple [.str "set", .int (i : Int), .int x6]])]) :=
      ⟨_, o6, _, _, _, rfl, (fun d hd => by
        rcases List.mem_append.mp hd with hd | hd
        · exact ha d hd
        · rw [List.mem_singleton.mp hd]; exact tset), by simp at hc ⊢; omega, h6, rfl⟩
    by_cases hf : f = 0
    · subst hf
      by_cases hle : w.2.length ≤ u.2.length
      · simp [dSs, dS, dE, dEs, dAnd, dOr, dT, Ev.tAnd, Ev.tOr, dU, dN, dB2, dIf, dVar, dCst, dO, dC, dI, dCall, dKall, pick, entry, isiV, isiV2, isTys, isTy, tobV, truO, truV, okIf, datOf, seqOf, lstOf, datas, lstV, tupV, elsOf, Out.bind_ok, tgt, parD, e2, e3, ia, ib, hle, e4, recV, at0, ap]
        refine ⟨as ++ [.tuple [.str "copy", .int (i : Int), .int b]], o4, _, _, _, rfl, fun d hd => ?_, by simp at hc ⊢; omega, h4, rfl⟩
        rcases List.mem_append.mp hd with hd | hd
        · exact ha d hd
        · rw [List.mem_singleton.mp hd]
          exact ⟨.inr ⟨i', j, _, _, by rw [ea, eb], hz, hy, by omega⟩, tame3 (n := 4) (tame_w (by decide +kernel)) ⟨by omega, by omega⟩ ⟨by omega, by omega⟩⟩
      · simp [dSs, dS, dE, dEs, dAnd, dOr, dT, Ev.tAnd, Ev.tOr, dU, dN, dB2, dIf, dVar, dCst, dO, dC, dI, dCall, dKall, pick, entry, isiV, isiV2, isTys, isTy, tobV, truO, truV, okIf, datOf, seqOf, lstOf, datas, lstV, tupV, elsOf, Out.bind_ok, tgt, parD, e2, e3, ia, ib, hle, e4, recV, at0, e6, ap]
        exact fset
    · simp [dSs, dS, dE, dEs, dAnd, dOr, dT, Ev.tAnd, Ev.tOr, dU, dN, dB2, dIf, dVar, dCst, dO, dC, dI, dCall, dKall, pick, entry, isiV, isiV2, isTys, isTy, tobV, truO, truV, okIf, datOf, seqOf, lstOf, datas, lstV, tupV, elsOf, Out.bind_ok, tgt, parD, e2, e3, ia, ib, e4, hf, recV, at0, e6, ap]
      exact fset
  · rintro ρ S' ⟨as, o, x, y, z, rfl, ha, hc, ho, rfl⟩
    have hS : ∀ (o : Ob) (xs : List PyData), (S.set p o ++ [Ob.lst xs])[S.length]? = some (.lst xs) := fun o xs => by simp
    refine ⟨True.intro, ?_⟩
    simp [dSs, dS, dE, dEs, dAnd, dOr, dT, Ev.tAnd, Ev.tOr, dU, dN, dB2, dIf, dVar, dCst, dO, dC, dI, dCall, dKall, pick, entry, isiV, isiV2, isTys, isTy, tobV, truO, truV, okIf, datOf, seqOf, lstOf, datas, lstV, tupV, elsOf, Out.bind_ok, tuple_loc (hS _ _)]
    exact ⟨⟨ha, by simp at hc; omega⟩, o, ho, rfl⟩
theorem r_law_says {n : Nat} (hn : 2 < n) {p : Nat} {S : Store} (h : Pot p S) : Gets (sem G T n 39 [.loc p] S) fun v S' => ∃ ss o, v = .d (.tuple ss) ∧ SsOk ss ∧ PotO o ∧ S' = S.set p o := by
  obtain ⟨m, rfl⟩ : ∃ m, n = m + 1 := ⟨n - 1, by omega⟩
  refine gets_sem t_law_says rfl ?_
  obtain ⟨_, _, e1, c, o1, rfl, c0, c1, h1, rfl⟩ := r_draw (n := m) (by omega) h (m := 3) (by omega) (by omega)
  have p1 := h.set h1
  obtain ⟨c', rfl⟩ : ∃ c' : Nat, c = (c' : Int) := ⟨c.toNat, by omega⟩
  simp [dSs, dS, dE, dEs, dAnd, dOr, dT, Ev.tAnd, Ev.tOr, dU, dN, dB2, dIf, dVar, dCst, dO, dC, dCall, dKall, pick, entry, isiV, isiV2, isTys, isTy, tobV, truO, truV, okIf, datOf, seqOf, lstOf, datas, lstV, tupV, elsOf, Out.bind_ok, f_law_says, tgt, e1]
  refine gets_lcN (R := fun d => SayOk d ∧ Tame 16 1 d) 0 c' (S := S.set p o1) (it_rng1 (by simp [dSs, dS, dE, dEs, dAnd, dOr, dT, Ev.tAnd, Ev.tOr, dU, dN, dB2, dIf, dVar, dCst, dO, dC, dI, dCall, dKall, pick, entry, isiV, isiV2, isTys, isTy, tobV, truO, truV, okIf, datOf, seqOf, lstOf, datas, lstV, tupV, elsOf, Out.bind_ok, e1]) (by omega)) (by rw [sizeLine_eq]; omega) p1 (fun i hi S' hS' => ⟨_, rfl, ?_⟩) fun es o he hR ho => ?_
  · obtain ⟨_, _, e2, d, hd, o2, rfl, h2, rfl⟩ := r_pick (n := m) (by omega) hS' (some := [.tuple [.str "words", .str "Well."], .tuple [.str "words", .str "It rings."], .tuple [.str "look"], .tuple [.str "held"]]) (by simp) (by simp) _ (.inl rfl)
    simp [dSs, dS, dE, dEs, dAnd, dOr, dT, Ev.tAnd, Ev.tOr, dU, dN, dB2, dIf, dVar, dCst, dO, dC, dI, dCall, dKall, pick, entry, isiV, isiV2, isTys, isTy, tobV, truO, truV, okIf, datOf, seqOf, lstOf, datas, lstV, tupV, elsOf, Out.bind_ok, wipeD, e2]
    refine ⟨?_, o2, h2, rfl⟩
    simp at hd
    rcases hd with rfl | rfl | rfl | rfl
    · exact ⟨.inl ⟨"Well.", txt_by (by decide +kernel), rfl⟩, Tame.tup (k := 0) (.cons (a := 5) (b := 10) (tame_w (by decide +kernel)) (.cons (a := 9) (b := 0) (tame_w (by decide +kernel)) .nil))⟩
    · exact ⟨.inl ⟨"It rings.", txt_by (by decide +kernel), rfl⟩, Tame.tup (k := 0) (.cons (a := 5) (b := 10) (tame_w (by decide +kernel)) (.cons (a := 9) (b := 0) (tame_w (by decide +kernel)) .nil))⟩
    · exact ⟨.inr (.inl rfl), Tame.tup (k := 0) (.cons (a := 4) (b := 0) (tame_w (by decide +kernel)) .nil)⟩
    · exact ⟨.inr (.inr rfl), Tame.tup (k := 0) (.cons (a := 4) (b := 0) (tame_w (by decide +kernel)) .nil)⟩
  · simp [dSs, dS, dE, dEs, dAnd, dOr, dT, Ev.tAnd, Ev.tOr, dU, dN, dB2, dIf, dVar, dCst, dO, dC, dI, dCall, dKall, pick, entry, isiV, isiV2, isTys, isTy, tobV, truO, truV, okIf, datOf, seqOf, lstOf, datas, lstV, tupV, elsOf, Out.bind_ok]
    exact ⟨⟨hR, by omega⟩, o, ho, rfl⟩
end HT
end

section
set_option Elab.async false
set_option linter.all false
set_option maxRecDepth 100000
set_option maxHeartbeats 4000000
/-! B8: drawn views -/
namespace HT
open PySem PySem.Spec L2 Ev
def tck (y : Str) : Bool := (decide (1 ≤ y.length) && decide (y.length ≤ 200) && y.cps.toList.all fun c => decide (32 ≤ c) && decide (c ≤ 126)) && (decide (y.length ≤ 15) && y.cps.toList.all fun c => decide (c < 1114112))
theorem tck_txt {y : Str} (h : tck y = true) : Txt y ∧ (∀ k, Tame 15 k (.str y)) ∧ y.length ≤ 15 := by
  unfold tck at h
  rw [Bool.and_eq_true] at h
  refine ⟨txt_by h.1, fun k => tame_w h.2, ?_⟩
  have := h.2
  rw [Bool.and_eq_true] at this
  exact of_decide_eq_true this.1
def labck (x : Str) (k : Nat) : Bool := ((cutS x none (some 5) == ("place" : Str)) == decide (k = 0)) && (((cutS x none (some 4) == ("flag" : Str)) == decide (k = 1)) && (((cutS x none (some 5) == ("count" : Str)) == decide (k = 2)) && (decide (x.length ≤ 7) && (tck (("the " : Str) ++ x) && (tck (("the box " : Str) ++ x) && tck (("the cat " : Str) ++ x))))))
structure LabOk (x : Str) (k : Nat) : Prop where
  f0 : (cutS x none (some 5) == ("place" : Str)) = decide (k = 0)
  f1 : (cutS x none (some 4) == ("flag" : Str)) = decide (k = 1)
  f2 : (cutS x none (some 5) == ("count" : Str)) = decide (k = 2)
  few : x.length ≤ 7
  t0 : tck (("the " : Str) ++ x) = true
  t1 : tck (("the box " : Str) ++ x) = true
  t2 : tck (("the cat " : Str) ++ x) = true
theorem lab_of {x : Str} {k : Nat} (h : labck x k = true) : LabOk x k := by
  unfold labck at h
  simp only [Bool.and_eq_true, beq_iff_eq, decide_eq_true_eq] at h
  obtain ⟨a, b, c, d, e, f, g⟩ := h
  exact ⟨a, b, c, d, e, f, g⟩
theorem lab_ck : (labck "room" 3 && labck "ended" 3) = true ∧ ∀ i, i < 3 → ∀ k, k < 3 → labck (lab i k) k = true := by
  constructor
  · decide +kernel
  · decide +kernel
theorem lab_ok {r e : Nat} {ks : List Nat} (h : MkOk r ks e) : ∀ v ∈ mkL r ks e, ∃ k, LabOk v.1 k ∧ (k = 0 → v.2.length = r + 2) ∧ (k = 0 ∨ k = 1 ∨ k = 2 ∨ k = 3) := by
  intro v hv
  have c := lab_ck.1
  rw [Bool.and_eq_true] at c
  rcases mk_kind h v hv with rfl | ⟨i, k, hi, hk, rfl⟩ | rfl
  · exact ⟨3, lab_of c.1, (fun h => by cases h), by omega⟩
  · refine ⟨k, lab_of (lab_ck.2 i hi k hk), fun e => ?_, by omega⟩
    subst e
    exact (vk_by r h.a.2 h.a.1 0 (by decide)).2.2.2.2
  · exact ⟨3, lab_of c.2, (fun h => by cases h), by omega⟩
def textR (x : Str) : Str := ("A " : Str) ++ x ++ ("." : Str)
theorem room_by : ∀ x ∈ rm, (decide (1 ≤ (textR x).length) && decide ((textR x).length ≤ 200) && (textR x).cps.toList.all fun c => decide (32 ≤ c) && decide (c ≤ 126)) = true ∧ (decide ((textR x).length ≤ 7) && (textR x).cps.toList.all fun c => decide (c < 1114112)) = true ∧
    ("A " : Str).length + x.length ≤ 7 ∧ (("A " : Str) ++ x).length + ("." : Str).length ≤ 7 := by decide +kernel
def flagsN (l : List Va) : List Nat := (l.zipIdx.filter fun q => cutS q.1.1 none (some 4) == ("flag" : Str)).map (·.2)
theorem flags_ok {l : List Va} : ∀ i ∈ flagsN l, i < l.length := by
  intro i hi
  obtain ⟨q, hq, rfl⟩ := List.mem_map.mp hi
  have h1 := List.mem_zipIdx (List.mem_filter.mp hq).1
  omega
theorem flags_few {l : List Va} : (flagsN l).length ≤ l.length := by
  unfold flagsN
  rw [List.length_map]
  have := List.length_filter_le (fun q : Va × Nat => cutS q.1.1 none (some 4) == ("flag" : Str)) l.zipIdx
  rw [List.length_zipIdx] at this
  exact this
abbrev namesD (l : List Str) : PyData := .tuple (l.map .str)
def IW1 (l : List Va) (R p : Nat) (S : Store) (its : List Val) (ρ : EnvD) (S' : Store) : Prop := ∃ (ws : List (List PyData)) (o : Ob) (x y : Option Val), ρ = [some (.loc p), some (.d (varsD l)), some (.d (namesD (rm.take R))), some (.loc S.length), some (.loc (S.length + 1)), some (.d (natsD (flagsN l))), none, none, x, y, none, none, none] ∧
  (∀ w ∈ ws, w.length ≤ 1 ∧ ∀ x ∈ w, DwOk l.length x ∧ Tame 7 1 x) ∧ ws.length + its.length = R ∧ PotO o ∧ S' = S.set p o ++ [.lst (ws.map .tuple), .lst []]
def IW2 (l : List Va) (R p : Nat) (W : List PyData) (S : Store) (its : List Val) (ρ : EnvD) (S' : Store) : Prop := ∃ (qs : List (Va × Nat)) (fs : List PyData) (o : Ob) (a x y b c : Option Val), its = qs.map (fun q => Val.d (.tuple [.int (q.2 : Int), varD q.1])) ∧ (∀ q ∈ qs, q ∈ l.zipIdx) ∧
  ρ = [some (.loc p), some (.d (varsD l)), some (.d (namesD (rm.take R))), some (.loc S.length), some (.loc (S.length + 1)), some (.d (natsD (flagsN l))), a, none, x, y, b, c, none] ∧
  (∀ d ∈ fs, ShOk l R d ∧ Tame 30 2 d) ∧ fs.length + its.length ≤ l.length ∧ PotO o ∧ S' = S.set p o ++ [.lst W, .lst fs]
theorem vw_1 {r e : Nat} {ks : List Nat} (hk : MkOk r ks e) {l : List Va} (el : l = mkL r ks e) {m : Nat} (hn : 2 < m) {p : Nat} {S : Store} (h : Pot p S) {ρ : EnvD} {S0 : Store} (h0 : ∃ o, ρ = [some (.loc p), some (.d (varsD l)), some (.d (namesD (rm.take r))), some (.loc S.length), some (.loc (S.length + 1)), some (.d (natsD (flagsN l))), none, none, none, none, none, none, none] ∧ PotO o ∧ S0 = S.set p o ++ [.lst [], .lst []])
    {Rt : Val → Store → Prop} {B C : EnvD → Store → Prop} : GSW (dS G (sem G T m) (nthS f_law_views.body 2) ρ S0) (fun ρ S' => IW1 l r p S [] ρ S') Rt B C := by
  obtain ⟨o0, rfl, hpo0, rfl⟩ := h0
  have hr := hk.a
  have rl := (vr_by r hr.2 hr.1).2.1
  have hf := mk_few hk
  rw [← el] at hf
  have ff := flags_few (l := l)
  refine gsw_for rfl (w := ⟨(rm.take r).map fun t => Val.d (.str t), none⟩) (S1 := S.set p o0 ++ [.lst [], .lst []]) (by simp [dSs, dS, dE, dEs, dAnd, dOr, dT, Ev.tAnd, Ev.tOr, dU, dN, dB2, dIf, dVar, dCst, dO, dC, dI, dCall, dKall, pick, entry, isiV, isiV2, isTys, isTy, tobV, truO, truV, okIf, datOf, seqOf, lstOf, datas, lstV, tupV, elsOf, Out.bind_ok, Function.comp_def, -List.map_take]) (IW1 l r p S) ?_ ?_ ⟨[], o0, none, none, rfl, (fun _ h => by cases h), by simp only [List.length_map, rl]; simp, hpo0, by simp⟩
  · rintro v its ρ S' ⟨ws, o, x, y, rfl, hws, hc, ho, rfl⟩
    obtain ⟨D, hD⟩ : ∃ D, D = ws.map PyData.tuple := ⟨_, rfl⟩
    have hz : D.length < sizeLine := by rw [hD, List.length_map, sizeLine_eq]; simp at hc; omega
    rw [← hD]
    have pa : Pot p (S.set p o ++ [Ob.lst D, Ob.lst []]) := (h.set ho).app
    obtain ⟨_, _, e2, d, hd, o2, rfl, h2, rfl⟩ := r_pick (n := m) (by omega) pa (some := .none :: (flagsN l).map (fun (i : Nat) => PyData.int (i : Int))) (by simp) (by simp; omega) _ (.inl rfl)
    rw [set_app h] at e2
    have pb : Pot p (S.set p o2 ++ [Ob.lst D, Ob.lst []]) := (h.set h2).app
    obtain ⟨_, _, e3, f, o3, rfl, f0, f1, h3, rfl⟩ := r_draw (n := m) (by omega) pb (m := 2) (by omega) (by omega)
    rw [set_app h] at e3
    have ln : 1 + (flagsN l).length ≤ sizeLine := line_of (by omega)
    have ln2 : (flagsN l).length + 1 ≤ sizeLine := line_of (by omega)
    have ap := fun d => app0 (S := S) (p := p) (d := d) o3 [.lst []] hz
    refine ⟨True.intro, _, rfl, ?_⟩
    have wd : DwOk l.length (.tuple [.str "north", d]) ∧ Tame 7 1 (.tuple [.str "north", d]) := by
      rcases List.mem_cons.mp hd with rfl | hd
      · exact ⟨⟨"north", by simp [ways6], .inl rfl⟩, Tame.tup (k := 0) (.cons (a := 5) (b := 1) (tame_w (by decide +kernel)) (.cons (a := 0) (b := 0) tame_none .nil))⟩
      · obtain ⟨i, hi, rfl⟩ := List.mem_map.mp hd
        have := flags_ok i hi
        exact ⟨⟨"north", by simp [ways6], .inr ⟨i, this, rfl⟩⟩, Tame.tup (k := 0) (.cons (a := 5) (b := 1) (tame_w (by decide +kernel)) (.cons (a := 0) (b := 0) (tame_small (by omega) (by omega)) .nil))⟩
    by_cases hf0 : f = 0
    · subst hf0
      simp [dSs, dS, dE, dEs, dAnd, dOr, dT, Ev.tAnd, Ev.tOr, dU, dN, dB2, dIf, dVar, dCst, dO, dC, dI, dCall, dKall, pick, entry, isiV, isiV2, isTys, isTy, tobV, truO, truV, okIf, datOf, seqOf, lstOf, datas, lstV, tupV, elsOf, Out.bind_ok, tgt, recV, at0, ln, ln2, e2, e3, ap]
      exact ⟨ws ++ [[.tuple [.str "north", d]]], o3, _, _, rfl, (fun w hw => by
        rcases List.mem_append.mp hw with hw | hw
        · exact hws w hw
        · rw [List.mem_singleton.mp hw]; exact ⟨by simp, fun x hx => by rw [List.mem_singleton.mp hx]; exact wd⟩), by simp at hc ⊢; omega, h3, by rw [hD]; simp⟩
    · simp [dSs, dS, dE, dEs, dAnd, dOr, dT, Ev.tAnd, Ev.tOr, dU, dN, dB2, dIf, dVar, dCst, dO, dC, dI, dCall, dKall, pick, entry, isiV, isiV2, isTys, isTy, tobV, truO, truV, okIf, datOf, seqOf, lstOf, datas, lstV, tupV, elsOf, Out.bind_ok, tgt, recV, at0, ln, ln2, e2, e3, ap, hf0]
      exact ⟨ws ++ [[]], o3, _, _, rfl, (fun w hw => by
        rcases List.mem_append.mp hw with hw | hw
        · exact hws w hw
        · rw [List.mem_singleton.mp hw]; exact ⟨by simp, fun x hx => by cases hx⟩), by simp at hc ⊢; omega, h3, by rw [hD]; simp⟩
  · intro ρ S' h
    exact ⟨True.intro, h⟩
theorem pre_len : ("the " : Str).length = 4 ∧ ("the box " : Str).length = 8 ∧ ("the cat " : Str).length = 8 := by decide +kernel
theorem vw_2 {r e : Nat} {ks : List Nat} (hk : MkOk r ks e) {l : List Va} (el : l = mkL r ks e) {m : Nat} (hn : 2 < m) {p : Nat} {S : Store} (h : Pot p S) {ρ : EnvD} {S0 : Store} (h0 : IW1 l r p S [] ρ S0)
    {Rt : Val → Store → Prop} {B C : EnvD → Store → Prop} : GSW (dS G (sem G T m) (nthS f_law_views.body 3) ρ S0) (fun ρ S' => ∃ ws : List (List PyData), (∀ w ∈ ws, w.length ≤ 1 ∧ ∀ x ∈ w, DwOk l.length x ∧ Tame 7 1 x) ∧ ws.length = r ∧ IW2 l r p (ws.map .tuple) S [] ρ S') Rt B C := by
  obtain ⟨ws, o, x, y, rfl, hws, hc, ho, rfl⟩ := h0
  have hr := hk.a
  have hf := mk_few hk
  have hl := mk_ok hk
  rw [← el] at hf hl
  have rl := (vr_by r hr.2 hr.1).2.1
  obtain ⟨W, hW⟩ : ∃ W, W = ws.map PyData.tuple := ⟨_, rfl⟩
  rw [← hW]
  refine gsw_for rfl (w := ⟨l.zipIdx.map fun q => Val.d (.tuple [.int (q.2 : Int), varD q.1]), none⟩) (S1 := S.set p o ++ [.lst W, .lst []]) (by simp [dSs, dS, dE, dEs, dAnd, dOr, dT, Ev.tAnd, Ev.tOr, dU, dN, dB2, dIf, dVar, dCst, dO, dC, dI, dCall, dKall, pick, entry, isiV, isiV2, isTys, isTy, tobV, truO, truV, okIf, datOf, seqOf, lstOf, datas, lstV, tupV, elsOf, Out.bind_ok, List.zipIdx_map]) (IW2 l r p W S) ?_ ?_ ⟨l.zipIdx, [], o, none, _, _, none, none, rfl, (fun _ h => h), rfl, (fun _ h => by cases h), by simp, ho, rfl⟩
  · rintro v its ρ S' ⟨qs, fs, o, a', x, y, b', c', e, hqs, rfl, hfs, hfl, ho, rfl⟩
    cases qs with
    | nil => cases e
    | cons q qs =>
      cases e
      obtain ⟨a, i⟩ := q
      have hq := List.mem_zipIdx (hqs (a, i) List.mem_cons_self)
      have hi : i < l.length := by simp at hq; omega
      have ha : l[i]? = some a := by
        rw [List.getElem?_eq_getElem hi]
        simp at hq
        rw [hq.2]
      have hz : (szs l)[i]? = some (a.2.length : Int) := by rw [List.getElem?_map, ha]; rfl
      have hmem := List.mem_of_getElem? ha
      have hav := hl.each a hmem
      have a1 := hav.one
      have a5 : a.2.length ≤ 5 := by rw [el] at hmem; exact (mk_each hk a hmem).2.few
      obtain ⟨k, lk, hk0, hk3⟩ := lab_ok hk a (el ▸ hmem)
      have lfs : fs.length < sizeLine := by rw [sizeLine_eq]; simp at hfl; omega
      have pa : Pot p (S.set p o ++ [Ob.lst W, Ob.lst fs]) := (h.set ho).app
      have la := line_of (k := a.1.length) (by have := lk.few; omega)
      obtain ⟨x0, t0, n0⟩ := tck_txt lk.t0
      obtain ⟨x1, t1, n1⟩ := tck_txt lk.t1
      obtain ⟨x2, t2, n2⟩ := tck_txt lk.t2
      obtain ⟨p0, p1, p2⟩ := pre_len
      have lf7 := lk.few
      have s0 : ("the " : Str).length + a.1.length ≤ sizeLine := line_of (by omega)
      have s1 : ("the box " : Str).length + a.1.length ≤ sizeLine := line_of (by omega)
      have s2 : ("the cat " : Str).length + a.1.length ≤ sizeLine := line_of (by omega)
      have f0 := lk.f0
      have f1 := lk.f1
      have f2 := lk.f2
      have ap := fun (o : Ob) d => app1 (S := S) (p := p) (d := d) o (.lst W) [] lfs
      refine ⟨True.intro, _, rfl, ?_⟩
      have fin : ∀ (o2 : Ob) (d : PyData), PotO o2 → ShOk l r d → Tame 30 2 d → ∀ c'' : Option Val, IW2 l r p W S (qs.map (fun q => Val.d (.tuple [.int (q.2 : Int), varD q.1]))) [some (.loc p), some (.d (varsD l)), some (.d (namesD (rm.take r))), some (.loc S.length), some (.loc (S.length + 1)), some (.d (natsD (flagsN l))), some (.d (.int (i : Int))), none, x, y, some (.d (.str a.1)), some (.d (namesD a.2)), none] (S.set p o2 ++ [.lst W, .lst (fs ++ [d])]) := fun o2 d q1 q2 q3 c'' =>
        ⟨qs, fs ++ [d], o2, _, x, y, _, _, rfl, fun q hq => hqs q (List.mem_cons_of_mem _ hq), rfl, (fun d' hd => by
          rcases List.mem_append.mp hd with hd | hd
          · exact hfs d' hd
          · rw [List.mem_singleton.mp hd]; exact ⟨q2, q3⟩), by simp at hfl ⊢; omega, q1, rfl⟩
      rcases hk3 with rfl | rfl | rfl | rfl
      · simp only [decide_true, Nat.zero_ne_one, decide_false, show decide ((0 : Nat) = 2) = false by decide] at f0 f1 f2
        simp [dSs, dS, dE, dEs, dAnd, dOr, dT, Ev.tAnd, Ev.tOr, dU, dN, dB2, dIf, dVar, dCst, dO, dC, dI, dCall, dKall, pick, entry, isiV, isiV2, isTys, isTy, tobV, truO, truV, okIf, datOf, seqOf, lstOf, datas, lstV, tupV, elsOf, Out.bind_ok, tgt, setAll, la, f0, f1, f2, s0, recV, at1, ap]
        exact fin o _ ho ⟨_, x0, .inl ⟨i, a.2.length, rfl, hz, by have := hk0 rfl; omega⟩⟩ (Tame.tup (k := 1) (.cons (a := 5) (b := 17) (tame_w (by decide +kernel)) (.cons (a := 15) (b := 1) (t0 1) (.cons (a := 0) (b := 0) (tame_small (by omega) (by omega)) .nil)))) none
      · simp only [show decide ((1 : Nat) = 0) = false by decide, decide_true, show decide ((1 : Nat) = 2) = false by decide] at f0 f1 f2
        obtain ⟨_, _, e2, f, o2, rfl, f00, f01, h2, rfl⟩ := r_draw (n := m) (by omega) pa (m := (r : Int)) (by omega) (by omega)
        rw [set_app h] at e2
        simp [dSs, dS, dE, dEs, dAnd, dOr, dT, Ev.tAnd, Ev.tOr, dU, dN, dB2, dIf, dVar, dCst, dO, dC, dI, dCall, dKall, pick, entry, isiV, isiV2, isTys, isTy, tobV, truO, truV, okIf, datOf, seqOf, lstOf, datas, lstV, tupV, elsOf, Out.bind_ok, tgt, setAll, la, f0, f1, f2, s1, recV, at1, rl, e2, ap, -List.length_take, -List.map_take]
        exact fin o2 _ h2 ⟨_, x1, .inr (.inr (.inl ⟨f, (r : Int) + 1, i, rfl, f00, f01, hi, by omega⟩))⟩ (Tame.tup (k := 1) (.cons (a := 3) (b := 19) (tame_w (by decide +kernel)) (.cons (a := 15) (b := 3) (t1 1) (.cons (a := 0) (b := 2) (tame_small (by omega) (by omega)) (.cons (a := 0) (b := 1) (tame_small (by omega) (by omega)) (.cons (a := 0) (b := 0) (tame_small (by omega) (by omega)) .nil)))))) none
      · simp only [show decide ((2 : Nat) = 0) = false by decide, show decide ((2 : Nat) = 1) = false by decide, decide_true] at f0 f1 f2
        simp [dSs, dS, dE, dEs, dAnd, dOr, dT, Ev.tAnd, Ev.tOr, dU, dN, dB2, dIf, dVar, dCst, dO, dC, dI, dCall, dKall, pick, entry, isiV, isiV2, isTys, isTy, tobV, truO, truV, okIf, datOf, seqOf, lstOf, datas, lstV, tupV, elsOf, Out.bind_ok, tgt, setAll, la, f0, f1, f2, s2, recV, at1, rl, ap, -List.length_take, -List.map_take]
        refine gets_lcD (R := fun _ d => ∃ j : Int, d = .int j ∧ 0 ≤ j ∧ j < r) (fun t : Str => Val.d (.str t)) a.2 (S := S.set p o ++ [Ob.lst W, Ob.lst fs]) (by simp [dSs, dS, dE, dEs, dAnd, dOr, dT, Ev.tAnd, Ev.tOr, dU, dN, dB2, dIf, dVar, dCst, dO, dC, dI, dCall, dKall, pick, entry, isiV, isiV2, isTys, isTy, tobV, truO, truV, okIf, datOf, seqOf, lstOf, datas, lstV, tupV, elsOf, Out.bind_ok, Function.comp_def]) (by rw [sizeLine_eq]; omega) pa (fun t ht S' hS' => ⟨_, rfl, ?_⟩) fun es o3 hr2 h3 => ?_
        · obtain ⟨_, _, e3, j, o3, rfl, j0, j1, h3, rfl⟩ := r_draw (n := m) (by omega) hS' (m := (r : Int)) (by omega) (by omega)
          simp [dSs, dS, dE, dEs, dAnd, dOr, dT, Ev.tAnd, Ev.tOr, dU, dN, dB2, dIf, dVar, dCst, dO, dC, dI, dCall, dKall, pick, entry, isiV, isiV2, isTys, isTy, tobV, truO, truV, okIf, datOf, seqOf, lstOf, datas, lstV, tupV, elsOf, Out.bind_ok, wipeD, rl, e3, -List.length_take, -List.map_take]
          exact ⟨⟨j0, j1⟩, o3, h3, rfl⟩
        · have hel := hr2.len
          obtain ⟨js, hjs, hj⟩ := all_of (f := PyData.int) (P := fun j => 0 ≤ j ∧ j < (r : Int)) (fun d hd => (hr2.mem d hd).elim fun _ hx => hx.2)
          subst hjs
          rw [List.length_map] at hel
          rw [set_app h]
          simp [dSs, dS, dE, dEs, dAnd, dOr, dT, Ev.tAnd, Ev.tOr, dU, dN, dB2, dIf, dVar, dCst, dO, dC, dI, dCall, dKall, pick, entry, isiV, isiV2, isTys, isTy, tobV, truO, truV, okIf, datOf, seqOf, lstOf, datas, lstV, tupV, elsOf, Out.bind_ok, recV, at1, ap]
          refine fin o3 _ h3 ⟨_, x2, .inr (.inr (.inr ⟨i, js, rfl, by rw [hel]; exact hz, by omega, hj⟩))⟩ (Tame.tup (k := 1) (.cons (a := 4) (b := 23) (tame_w (by decide +kernel)) (.cons (a := 15) (b := 7) (t2 1) (.cons (a := 0) (b := 6) (tame_small (by omega) (by omega)) (.cons (a := 5) (b := 0) (Tame.tup (k := 0) (TameAll.all (a := 0) (n := 5) (fun d hd => ?_) (by rw [List.length_map]; omega))) .nil))))) none
          obtain ⟨j, hj2, rfl⟩ := List.mem_map.mp hd
          have := hj j hj2
          exact tame_small (by omega) (by omega)
      · simp only [show decide ((3 : Nat) = 0) = false by decide, show decide ((3 : Nat) = 1) = false by decide, show decide ((3 : Nat) = 2) = false by decide] at f0 f1 f2
        simp [dSs, dS, dE, dEs, dAnd, dOr, dT, Ev.tAnd, Ev.tOr, dU, dN, dB2, dIf, dVar, dCst, dO, dC, dI, dCall, dKall, pick, entry, isiV, isiV2, isTys, isTy, tobV, truO, truV, okIf, datOf, seqOf, lstOf, datas, lstV, tupV, elsOf, Out.bind_ok, tgt, setAll, la, f0, f1, f2]
        exact ⟨qs, fs, o, _, x, y, _, _, rfl, fun q hq => hqs q (List.mem_cons_of_mem _ hq), rfl, hfs, by simp at hfl ⊢; omega, ho, rfl⟩
  · intro ρ S' h
    exact ⟨True.intro, ws, hws, by simpa using hc, hW ▸ h⟩
theorem stone_txt : Txt "the stone" := txt_by (by decide +kernel)
theorem vw_3 {r e : Nat} {ks : List Nat} (hk : MkOk r ks e) {l : List Va} (el : l = mkL r ks e) {m : Nat} (hn : 2 < m) {p : Nat} {S : Store} (h : Pot p S) {ws : List (List PyData)} (hws : ∀ w ∈ ws, w.length ≤ 1 ∧ ∀ x ∈ w, DwOk l.length x ∧ Tame 7 1 x) (hc : ws.length = r) {ρ : EnvD} {S0 : Store} (h0 : IW2 l r p (ws.map .tuple) S [] ρ S0)
    {N B C : EnvD → Store → Prop} : GSW (dS G (sem G T m) (nthS f_law_views.body 4) ρ S0) N (fun v S' => Gets (back false S.length v S') fun v S' => ∃ vw o, v = .d (vwD vw) ∧ VwOk l r vw ∧ Tame 300 4 (vwD vw) ∧ PotO o ∧ S' = S.set p o) B C := by
  obtain ⟨qs, fs, o, a, x, y, b, c, e1, _, rfl, hfs, hfl, ho, rfl⟩ := h0
  have hr := hk.a
  have hf := mk_few hk
  rw [← el] at hf
  have rl := (vr_by r hr.2 hr.1).2.1
  obtain ⟨W, hW⟩ : ∃ W, W = ws.map PyData.tuple := ⟨_, rfl⟩
  rw [← hW]
  have lf5 : fs.length ≤ 5 := by simp at hfl; omega
  have sz : fs.length + 1 ≤ sizeLine := line_of (by omega)
  have ad := add_loc_l (S := S.set p o ++ [.lst W, .lst fs]) (p := S.length + 1) (zs := [.tuple [.str "fixed", .str "the stone", .int 0]]) (at1 o (.lst W) (.lst fs) [])
  have tw := tuple_loc (S := S.set p o ++ [.lst W, .lst fs]) (p := S.length) (at0 o (.lst W) [.lst fs])
  refine ⟨?_⟩
  simp [dSs, dS, dE, dEs, dAnd, dOr, dT, Ev.tAnd, Ev.tOr, dU, dN, dB2, dIf, dVar, dCst, dO, dC, dI, dCall, dKall, pick, entry, isiV, isiV2, isTys, isTy, tobV, truO, truV, okIf, datOf, seqOf, lstOf, datas, lstV, tupV, elsOf, Out.bind_ok, f_law_views, nthS, -List.map_take]
  refine gets_each (fun t : Str => Val.d (.str t)) (fun t => .str (textR t)) (rm.take r) (n := none) (S := S.set p o ++ [.lst W, .lst fs]) (by simp [dSs, dS, dE, dEs, dAnd, dOr, dT, Ev.tAnd, Ev.tOr, dU, dN, dB2, dIf, dVar, dCst, dO, dC, dI, dCall, dKall, pick, entry, isiV, isiV2, isTys, isTy, tobV, truO, truV, okIf, datOf, seqOf, lstOf, datas, lstV, tupV, elsOf, Out.bind_ok, Function.comp_def, -List.map_take]) (by simp) (fun t ht => ⟨_, rfl, ?_⟩) (by rw [rl]; exact line_of (by omega)) ?_
  · obtain ⟨_, _, q1, q2⟩ := room_by t (List.mem_of_mem_take ht)
    have q1 := line_of (k := ("A " : Str).length + t.length) (by omega)
    have q2 := line_of (k := (("A " : Str) ++ t).length + ("." : Str).length) (by omega)
    simp [dSs, dS, dE, dEs, dAnd, dOr, dT, Ev.tAnd, Ev.tOr, dU, dN, dB2, dIf, dVar, dCst, dO, dC, dI, dCall, dKall, pick, entry, isiV, isiV2, isTys, isTy, tobV, truO, truV, okIf, datOf, seqOf, lstOf, datas, lstV, tupV, elsOf, Out.bind_ok, wipeD, q1, q2, textR]
  · simp [dSs, dS, dE, dEs, dAnd, dOr, dT, Ev.tAnd, Ev.tOr, dU, dN, dB2, dIf, dVar, dCst, dO, dC, dI, dCall, dKall, pick, entry, isiV, isiV2, isTys, isTy, tobV, truO, truV, okIf, datOf, seqOf, lstOf, datas, lstV, tupV, elsOf, Out.bind_ok, ad, tw, sz, -List.map_take]
    refine ⟨⟨(rm.take r).map textR, ws, fs ++ [.tuple [.str "fixed", .str "the stone", .int 0]]⟩, ?_, ?_, ?_, o, ho, rfl⟩
    · simp [hW]
      rfl
    · refine ⟨by rw [List.length_map, rl], hc, by simp; omega, fun x hx => ?_, fun w hw => ⟨by have := (hws w hw).1; omega, fun x hx => ((hws w hw).2 x hx).1⟩, fun x hx => ?_⟩
      · obtain ⟨t, ht, rfl⟩ := List.mem_map.mp hx
        exact txt_by (room_by t (List.mem_of_mem_take ht)).1
      · rcases List.mem_append.mp hx with hx | hx
        · exact (hfs x hx).1
        · rw [List.mem_singleton.mp hx]
          exact ⟨_, stone_txt, .inr (.inl ⟨0, rfl, by omega, by omega⟩)⟩
    · refine Tame.tup (k := 3) (.cons (a := 24) (b := 275) (Tame.tup (k := 2) (TameAll.all (a := 7) (n := 3) (fun d hd => ?_) (by simp only [List.length_map, rl]; omega))) (.cons (a := 27) (b := 187) (Tame.tup (k := 2) (TameAll.all (a := 8) (n := 3) (fun d hd => ?_) (by show (ws.map PyData.tuple).length ≤ 3; rw [List.length_map]; omega))) (.cons (a := 186) (b := 0) (Tame.tup (k := 2) (TameAll.all (a := 30) (n := 6) (fun d hd => ?_) (by simp; omega))) .nil)))
      · obtain ⟨t, ht, rfl⟩ := List.mem_map.mp hd
        obtain ⟨t2, ht2, rfl⟩ := List.mem_map.mp ht
        exact tame_w (room_by t2 (List.mem_of_mem_take ht2)).2.1
      · obtain ⟨w, hw, rfl⟩ := List.mem_map.mp hd
        exact Tame.tup (k := 1) (TameAll.all (a := 7) (n := 1) (fun d hd => ((hws w hw).2 d hd).2) (hws w hw).1)
      · rcases List.mem_append.mp hd with hd | hd
        · exact (hfs d hd).2
        · rw [List.mem_singleton.mp hd]
          exact Tame.tup (k := 1) (.cons (a := 5) (b := 11) (tame_w (by decide +kernel)) (.cons (a := 9) (b := 1) (tame_w (by decide +kernel)) (.cons (a := 0) (b := 0) (tame_small (by omega) (by omega)) .nil)))
theorem r_law_views {r e : Nat} {ks : List Nat} (hk : MkOk r ks e) {n : Nat} (hn : 3 < n) {p : Nat} {S : Store} (h : Pot p S) :
    Gets (sem G T n 40 [.loc p, .d (varsD (mkL r ks e))] S) fun v S' => ∃ vw o, v = .d (vwD vw) ∧ VwOk (mkL r ks e) r vw ∧ Tame 300 4 (vwD vw) ∧ PotO o ∧ S' = S.set p o := by
  obtain ⟨m, rfl⟩ : ∃ m, n = m + 1 := ⟨n - 1, by omega⟩
  obtain ⟨l, el⟩ : ∃ l, l = mkL r ks e := ⟨_, rfl⟩
  have hf := mk_few hk
  rw [← el] at hf ⊢
  have i0 : atI (l.map varD) 0 = some (.tuple [.str "room", namesD (rm.take r)]) := by rw [el]; simp [mkL, vR]
  obtain ⟨o0, ho0, hpo0⟩ := id h
  have es : S.set p o0 = S := by
    obtain ⟨hl, e⟩ := List.getElem?_eq_some_iff.mp ho0
    rw [← e, List.set_getElem_self]
  refine gets_body t_law_views rfl ?_
  refine gsw_at rfl rfl rfl (N' := fun ρ S' => ρ = [some (.loc p), some (.d (varsD l)), some (.d (namesD (rm.take r))), some (.loc S.length), some (.loc (S.length + 1)), none, none, none, none, none, none, none, none] ∧ S' = S ++ [.lst [], .lst []]) ⟨?_⟩ ?_
  · simp [dSs, dS, dE, dEs, dAnd, dOr, dT, Ev.tAnd, Ev.tOr, dU, dN, dB2, dIf, dVar, dCst, dO, dC, dI, dCall, dKall, pick, entry, isiV, isiV2, isTys, isTy, tobV, truO, truV, okIf, datOf, seqOf, lstOf, datas, lstV, tupV, elsOf, Out.bind_ok, f_law_views, nthS, i0, tgt, setEls, El.val, -List.map_take]
  rintro ρ S' ⟨rfl, rfl⟩
  refine gsw_at rfl rfl rfl (N' := fun ρ S' => ρ = [some (.loc p), some (.d (varsD l)), some (.d (namesD (rm.take r))), some (.loc S.length), some (.loc (S.length + 1)), some (.d (natsD (flagsN l))), none, none, none, none, none, none, none] ∧ S' = S ++ [.lst [], .lst []]) ⟨?_⟩ ?_
  · simp [dSs, dS, dE, dEs, dAnd, dOr, dT, Ev.tAnd, Ev.tOr, dU, dN, dB2, dIf, dVar, dCst, dO, dC, dI, dCall, dKall, pick, entry, isiV, isiV2, isTys, isTy, tobV, truO, truV, okIf, datOf, seqOf, lstOf, datas, lstV, tupV, elsOf, Out.bind_ok, f_law_views, nthS, tgt, -List.map_take]
    refine gets_filter (fun q : Va × Nat => Val.d (.tuple [.int (q.2 : Int), varD q.1])) (fun q => cutS q.1.1 none (some 4) == ("flag" : Str)) (fun q => PyData.int (q.2 : Int)) l.zipIdx (n := none) (S := S ++ [.lst [], .lst []]) (by simp [dSs, dS, dE, dEs, dAnd, dOr, dT, Ev.tAnd, Ev.tOr, dU, dN, dB2, dIf, dVar, dCst, dO, dC, dI, dCall, dKall, pick, entry, isiV, isiV2, isTys, isTy, tobV, truO, truV, okIf, datOf, seqOf, lstOf, datas, lstV, tupV, elsOf, Out.bind_ok, List.zipIdx_map]) (by simp) (fun q hq => ⟨_, rfl, ?_, fun _ => by simp [dSs, dS, dE, dEs, dAnd, dOr, dT, Ev.tAnd, Ev.tOr, dU, dN, dB2, dIf, dVar, dCst, dO, dC, dI, dCall, dKall, pick, entry, isiV, isiV2, isTys, isTy, tobV, truO, truV, okIf, datOf, seqOf, lstOf, datas, lstV, tupV, elsOf, Out.bind_ok, wipeD, setAll]⟩) (by rw [List.length_zipIdx]; exact line_of (by omega)) ?_
    · have h1 := List.mem_zipIdx hq
      have hm : q.1 ∈ mkL r ks e := by rw [← el, h1.2.2]; simp
      obtain ⟨k, lk, _⟩ := lab_ok hk q.1 hm
      have la := line_of (k := q.1.1.length) (by have := lk.few; omega)
      simp [dSs, dS, dE, dEs, dAnd, dOr, dT, Ev.tAnd, Ev.tOr, dU, dN, dB2, dIf, dVar, dCst, dO, dC, dI, dCall, dKall, pick, entry, isiV, isiV2, isTys, isTy, tobV, truO, truV, okIf, datOf, seqOf, lstOf, datas, lstV, tupV, elsOf, Out.bind_ok, wipeD, setAll, la]
    · simp [flagsN, Function.comp_def]
  rintro ρ S' ⟨rfl, rfl⟩
  refine gsw_at rfl rfl rfl (vw_1 hk el (by omega) h ⟨o0, rfl, hpo0, by rw [es]⟩) ?_
  intro ρ S' h1
  refine gsw_at rfl rfl rfl (vw_2 hk el (by omega) h h1) ?_
  rintro ρ S' ⟨ws, hws, hc, h2⟩
  exact gsw_at rfl rfl rfl (vw_3 hk el (by omega) h hws hc h2) fun ρ S' h => gsw_end rfl h
end HT
end

section
set_option Elab.async false
set_option linter.all false
set_option maxRecDepth 100000
set_option maxHeartbeats 4000000
/-! B9: the drawn middle form -/
namespace HT
open PySem PySem.Spec L2 Ev
theorem gets_lcFl {α : Type} {p : Nat} {w : Itm} {tg : Tg} {cond : TD Bool} {elt : TD Val} {ρ : EnvD} (g : α → Val) (f : α → PyData) (hck : w.n = none) : ∀ (l : List α) (acc : List PyData) (S : Store), acc.length + l.length ≤ sizeLine → Pot p S →
    (∀ a ∈ l, ∀ S, Pot p S → ∃ ρ1, tgt tg (g a) ρ = some ρ1 ∧ ∃ b o, PotO o ∧ cond ρ1 S = .ok b (S.set p o) ∧ (b = true → elt ρ1 (S.set p o) = .ok (.d (f a)) (S.set p o))) →
    Gets (lcD w tg cond elt ρ (l.map g) acc S) fun ds S' => ∃ (l' : List α) (o : Ob), ds = acc ++ l'.map f ∧ l'.Sublist l ∧ PotO o ∧ S' = S.set p o
  | [], acc, S, _, hp, _ => by
    have hc : w.ck S := by unfold Itm.ck; rw [hck]; trivial
    obtain ⟨o, ho, hpo⟩ := hp
    rw [List.map_nil]
    unfold lcD
    rw [if_pos hc]
    refine ⟨_, _, rfl, [], o, by simp, .slnil, hpo, ?_⟩
    obtain ⟨hl, e⟩ := List.getElem?_eq_some_iff.mp ho
    rw [← e, List.set_getElem_self]
  | a :: l, acc, S, hz, hp, h => by
    have hc : w.ck S := by unfold Itm.ck; rw [hck]; trivial
    obtain ⟨ρ1, h1, b, o, hpo, h2, h3⟩ := h a List.mem_cons_self S hp
    rw [List.length_cons] at hz
    rw [List.map_cons]
    unfold lcD
    rw [if_pos hc, h1]
    dsimp only
    rw [h2]
    cases b with
    | false =>
      dsimp only
      obtain ⟨ds, S2, e, es, o2, rfl, hr, hp2, rfl⟩ := gets_lcFl g f hck l acc (S.set p o) (by omega) (hp.set hpo) fun b hb => h b (List.mem_cons_of_mem _ hb)
      exact ⟨_, _, e, es, o2, rfl, hr.cons _, hp2, by rw [List.set_set]⟩
    | true =>
      dsimp only
      rw [h3 rfl]
      dsimp only
      rw [if_pos (by omega)]
      obtain ⟨ds, S2, e, es, o2, rfl, hr, hp2, rfl⟩ := gets_lcFl g f hck l (acc ++ [f a]) (S.set p o) (by rw [List.length_append, List.length_singleton]; omega) (hp.set hpo) fun b hb => h b (List.mem_cons_of_mem _ hb)
      exact ⟨_, _, e, a :: es, o2, by simp, hr.cons₂ _, hp2, by rw [List.set_set]⟩
/-- [i for i in range(k) if drawn] -/
theorem gets_lcF {p : Nat} {it : TD Itm} {tg : Tg} {own : List Nat} {cond : TD Bool} {elt : TD Val} {ρ : EnvD} {S S0 : Store} {Q : Val → Store → Prop} (k : Nat) (hi : it ρ S0 = .ok (rngI 0 k) S) (hz : k ≤ sizeLine) (hp : Pot p S)
    (h : ∀ i : Nat, i < k → ∀ S, Pot p S → ∃ ρ1, tgt tg (.d (.int (i : Int))) (wipeD ρ own) = some ρ1 ∧ ∃ b o, PotO o ∧ cond ρ1 S = .ok b (S.set p o) ∧ (b = true → elt ρ1 (S.set p o) = .ok (.d (.int (i : Int))) (S.set p o)))
    (q : ∀ (l' : List Nat) o, l'.Sublist (List.range k) → PotO o → Q (.d (natsD l')) (S.set p o)) : Gets (dLc false it own tg cond elt ρ S0) Q := by
  refine gets_dLc ⟨_, _, hi, ?_⟩
  have e0 : (rngI 0 k).vs = (List.range k).map fun (i : Nat) => Val.d (.int (i : Int)) := by simp [rngI]
  obtain ⟨ds, S2, e, es, o, rfl, hr, hp2, rfl⟩ := gets_lcFl (w := rngI 0 k) (fun (i : Nat) => Val.d (.int (i : Int))) (fun (i : Nat) => PyData.int (i : Int)) rfl (List.range k) [] S (by simpa using hz) hp (fun a ha => h a (List.mem_range.mp ha))
  rw [← e0] at e
  refine ⟨_, _, e, ?_⟩
  simp
  simpa using q es o hr hp2
theorem cut_last {α : Type} (r : List α) (v : α) : cutL (r ++ [v]) none (some (-1)) = r := by
  unfold cutL
  have e : HT.sIx (r ++ [v]).length (r ++ [v]).length (some (-1)) = r.length := by
    show (if (-1 : Int) < 0 then ((-1 : Int) + ((r ++ [v]).length : Int)).toNat else min (-1 : Int).toNat (r ++ [v]).length) = _
    rw [if_pos (by decide)]
    simp
    omega
  rw [HT.sIx_none, e]
  simp
structure DoSm (zs : List Int) (r : Do) : Prop where
  g : GOk zs 4 r.g ∧ Tame 293 7 r.g
  as : AsOk zs r.as
  ss : SsOk r.ss
theorem DoSm.ok {zs : List Int} {r : Do} (h : DoSm zs r) : DoOk zs 14 r :=
  ⟨h.g.1.up (by decide), fun a ha => (h.as.ok a ha).1, fun s hs => (h.ss.ok s hs).1, by have := h.as.few; omega, by have := h.ss.few; omega⟩
structure RuSm (zs : List Int) (r : Ru) : Prop where
  d : DoSm zs r.r
  k : r.k = 0 ∨ r.k = 1
structure TbSm (zs : List Int) (t : List Ru) : Prop where
  each : ∀ r ∈ t, RuSm zs r
  last : ∃ t' r, t = t' ++ [r] ∧ r.r.g = .tuple [.str "all", .tuple []]
  few : t.length ≤ 4
structure EnSm (zs : List Int) (z : Int) (e : En0) : Prop where
  v : 1 ≤ e.v ∧ e.v < z
  g : GOk zs 4 e.g ∧ Tame 293 7 e.g
  ss : SsOk e.ss
def TsSm (zs : List Int) (ts : List (List Ru)) : Prop := (∀ t ∈ ts, TbSm zs t) ∧ 1 ≤ ts.length ∧ ts.length ≤ 3
def GsSm (zs : List Int) (gs : List (List Do)) : Prop := (∀ t ∈ gs, t.length ≤ 2 ∧ ∀ r ∈ t, DoSm zs r) ∧ gs.length ≤ 2
def EsSm (zs : List Int) (z : Int) (es : List En0) : Prop := (∀ e ∈ es, EnSm zs z e) ∧ es.length ≤ 2
theorem do_tame {zs : List Int} {r : Do} (h : DoSm zs r) : TameAll 354 7 [r.g, .tuple r.as, .tuple r.ss] :=
  .cons (a := 293) (b := 60) h.g.2 (.cons (a := 24) (b := 35) (Tame.imp (m := 24) (k := 2) (Tame.tup (k := 1) (TameAll.all (a := 7) (n := 3) (fun d hd => (h.as.ok d hd).2) h.as.few)) (by decide) (by decide))
    (.cons (a := 34) (b := 0) (Tame.imp (m := 34) (k := 2) (Tame.tup (k := 1) (TameAll.all (a := 16) (n := 2) (fun d hd => (h.ss.ok d hd).2) h.ss.few)) (by decide) (by decide)) .nil))
theorem ru_tame {zs : List Int} {r : Ru} (h : RuSm zs r) : Tame 355 8 (ruD r) := by
  have := do_tame h.d
  refine Tame.tup (k := 7) ((this.app (b := 1) (m := 355) (es := [.int r.k]) (.cons (a := 0) (b := 0) (tame_small ?_ ?_) .nil) (by decide)))
  · rcases h.k with e | e <;> omega
  · rcases h.k with e | e <;> omega
theorem TbSm.ok {zs : List Int} {t : List Ru} (h : TbSm zs t) : TbOk zs 14 t := ⟨fun r hr => ⟨(h.each r hr).d.ok, (h.each r hr).k⟩, h.last, by have := h.few; omega⟩
theorem EnSm.ok {zs : List Int} {z : Int} {e : En0} (h : EnSm zs z e) : EnOk zs 14 z e := ⟨h.v, h.g.1.up (by decide), fun s hs => (h.ss.ok s hs).1, by have := h.ss.few; omega⟩
structure Drawn (M : Mid) : Prop where
  ok : MidOk M
  tame : Tame 8000 12 (midD M)
  few : M.vars.length ≤ 5
  vars : ∀ v ∈ M.vars, VaSm v
theorem inr_tame {l : List Va} (hv : ∀ v ∈ l, VaSm v) (hf : l.length ≤ 5) {st : List Int} (hst : InR (szs l) st) : Tame 5 1 (Ints st) := Tame.tup (k := 0) (TameAll.all (a := 0) (n := 5) (fun d hd => by
  obtain ⟨i, hi, rfl⟩ := List.mem_map.mp hd
  obtain ⟨j, hj, e⟩ := List.getElem_of_mem hi
  have hl := hst.len
  rw [List.length_map] at hl
  obtain ⟨v, hv2, h0, h1⟩ := hst.get (i := j) (List.getElem?_eq_getElem (by rw [List.length_map, ← hl]; exact hj))
  rw [List.getElem?_eq_getElem hj, e] at hv2
  cases hv2
  have hq := (hv (l[j]'(by rw [← hl]; exact hj)) (List.getElem_mem _)).few
  simp at h1
  exact tame_small (by omega) (by omega)) (by rw [List.length_map, hst.len, List.length_map]; exact hf))
theorem drawn_of {r k : Nat} {ks : List Nat} (hk : MkOk r ks k) {st : List Int} {ts : List (List Ru)} {gs : List (List Do)} {es : List En0} {vw : Vw} (hst : InR (szs (mkL r ks k)) st) (hts : TsSm (szs (mkL r ks k)) ts) (hgs : GsSm (szs (mkL r ks k)) gs)
    (hes : EsSm (szs (mkL r ks k)) (vE k).2.length es) (hvw : VwOk (mkL r ks k) r vw) (htv : Tame 300 4 (vwD vw)) : Drawn ⟨mkL r ks k, st, ts, gs, es, vw⟩ := by
  have hf := (mk_few hk).2
  have rl : (vR r).2.length = r := (vr_by r hk.a.2 hk.a.1).2.1
  refine ⟨⟨mk_ok hk, hst, fun t ht => (hts.1 t ht).ok, fun t ht => ⟨fun r hr => ((hgs.1 t ht).2 r hr).ok, by have := (hgs.1 t ht).1; omega⟩, fun w' r' e => ?_, fun w' r' e => ?_, by show ts.length ≤ 1000; have := hts.2.2; omega, by show gs.length ≤ 1000; have := hgs.2; omega, by show es.length ≤ 1000; have := hes.2; omega⟩, ?_, hf, fun v hv => (mk_each hk v hv).2⟩
  · obtain ⟨e1, e2⟩ := List.append_inj' (show (vR r :: _) ++ [vE k] = _ ++ [w'] from e) rfl
    cases e2
    exact fun e he => (hes.1 e he).ok
  · obtain ⟨e1, e2⟩ := List.cons.inj (show vR r :: (_ ++ [vE k]) = w' :: r' from e)
    subst e1
    rw [rl]
    exact hvw
  · have t1 := mk_tame hk
    have t2 : Tame 5 1 (Ints st) := inr_tame (fun v hv => (mk_each hk v hv).2) hf hst
    have t3 : Tame 4275 10 (.tuple (ts.map tbD)) := Tame.tup (k := 9) (TameAll.all (a := 1424) (n := 3) (fun d hd => by
      obtain ⟨t, ht, rfl⟩ := List.mem_map.mp hd
      exact Tame.tup (k := 8) (TameAll.all (a := 355) (n := 4) (fun d hd => by
        obtain ⟨r, hr, rfl⟩ := List.mem_map.mp hd
        exact ru_tame ((hts.1 t ht).each r hr)) (by rw [List.length_map]; exact (hts.1 t ht).few))) (by rw [List.length_map]; exact hts.2.2))
    have t4 : Tame 1422 10 (.tuple (gs.map grD)) := Tame.tup (k := 9) (TameAll.all (a := 710) (n := 2) (fun d hd => by
      obtain ⟨t, ht, rfl⟩ := List.mem_map.mp hd
      exact Tame.tup (k := 8) (TameAll.all (a := 354) (n := 2) (fun d hd => by
        obtain ⟨r, hr, rfl⟩ := List.mem_map.mp hd
        exact Tame.tup (k := 7) (do_tame ((hgs.1 t ht).2 r hr))) (by rw [List.length_map]; exact (hgs.1 t ht).1))) (by rw [List.length_map]; exact hgs.2))
    have t5 : Tame 662 10 (.tuple (es.map enD)) := Tame.tup (k := 9) (TameAll.all (a := 330) (n := 2) (fun d hd => by
      obtain ⟨e, he, rfl⟩ := List.mem_map.mp hd
      have q := hes.1 e he
      have qv := q.v
      have qe : (vE k).2.length ≤ 5 := (vE_ok hk.c.1 hk.c.2).2.few
      exact Tame.tup (k := 8) (.cons (a := 0) (b := 329) (tame_small (by omega) (by omega)) (.cons (a := 293) (b := 35) (q.g.2.imp (by decide) (by decide)) (.cons (a := 34) (b := 0) (Tame.imp (m := 34) (k := 2) (Tame.tup (k := 1) (TameAll.all (a := 16) (n := 2) (fun d hd => (q.ss.ok d hd).2) q.ss.few)) (by decide) (by decide)) .nil)))) (by rw [List.length_map]; exact hes.2))
    exact (Tame.tup (k := 11) (m := 6925) (.cons (a := 255) (b := 6669) (t1.imp (by decide) (by decide)) (.cons (a := 5) (b := 6663) (t2.imp (by decide) (by decide)) (.cons (a := 4275) (b := 2387) (t3.imp (by decide) (by decide)) (.cons (a := 1422) (b := 964) (t4.imp (by decide) (by decide)) (.cons (a := 662) (b := 301) (t5.imp (by decide) (by decide)) (.cons (a := 300) (b := 0) (htv.imp (by decide) (by decide)) .nil))))))).imp (by decide) (by decide)
theorem ALL_g {zs : List Int} : GOk zs 4 (.tuple [.str "all", .tuple []]) ∧ Tame 293 7 (.tuple [.str "all", .tuple []]) :=
  ⟨.inr (.inr (.inr (.inl ⟨[], rfl, by decide, (fun _ h => by cases h)⟩))), (Tame.tup (k := 1) (.cons (a := 3) (b := 1) (tame_w (by decide +kernel)) (.cons (a := 0) (b := 0) (Tame.tup (k := 0) .nil) .nil))).imp (m := 5) (by decide) (by decide)⟩
/-- a guard, acts and says drawn one after the other -/
theorem r_three {l : List Va} (hl : VasOk l) {sm : List Nat} (hsm : ∀ i ∈ sm, i < l.length) (hsl : sm.length ≤ 100) {k : Nat} (hk : k ≤ 3) {m : Nat} (hn : 5 < m) {p : Nat} {S : Store} (h : Pot p S) : ∃ g as ss o1 o2 o3, DoSm (szs l) ⟨g, as, ss⟩ ∧ PotO o1 ∧ PotO o2 ∧ PotO o3 ∧
    sem G T m 37 [.loc p, .d (varsD l), .d (.int (k : Int))] S = .ok (.d g) (S.set p o1) ∧ sem G T m 38 [.loc p, .d (varsD l), .d (natsD sm)] (S.set p o1) = .ok (.d (.tuple as)) (S.set p o2) ∧ sem G T m 39 [.loc p] (S.set p o2) = .ok (.d (.tuple ss)) (S.set p o3) := by
  obtain ⟨_, _, e1, g, o1, rfl, hg, ht, h1, rfl⟩ := r_law_guard hl k m (by omega) h
  have p1 := h.set h1
  obtain ⟨_, _, e2, as, o2, rfl, ha, h2, rfl⟩ := r_law_acts hl hsm hsl (n := m) (by omega) p1
  have p2 := p1.set h2
  obtain ⟨_, _, e3, ss, o3, rfl, hs, h3, rfl⟩ := r_law_says (n := m) (by omega) p2
  simp only [List.set_set] at e2 e3
  have hgk : gB k ≤ 293 := by
    have : k = 0 ∨ k = 1 ∨ k = 2 ∨ k = 3 := by omega
    rcases this with rfl | rfl | rfl | rfl <;> decide
  exact ⟨g, as, ss, o1, o2, o3, ⟨⟨hg.up (by omega), ht.imp hgk (by omega)⟩, ha, hs⟩, h1, h2, h3, e1, e2, e3⟩
end HT
end

section
set_option Elab.async false
set_option linter.all false
set_option maxRecDepth 100000
set_option maxHeartbeats 4000000
/-! B10: the drawn middle form, statement by statement -/
namespace HT
open PySem PySem.Spec L2 Ev
def MS1 (p : Nat) (l : List Va) (S : Store) (ρ : EnvD) (S' : Store) : Prop := ∃ (sm : List Nat) (o : Ob), (∀ i ∈ sm, i < l.length) ∧ sm.length ≤ 100 ∧ ρ = [some (.loc p), some (.d (varsD l)), some (.d (natsD sm)), none, none, none, none, none, none, none, none, none, none, none, none] ∧ PotO o ∧ S' = S.set p o
theorem mid_1 {m : Nat} (hn : 0 < m) {p : Nat} {l : List Va} (hl : VasOk l) {S : Store} (h : Pot p S) {o : Ob} (ho : PotO o) {Rt : Val → Store → Prop} {B C : EnvD → Store → Prop} :
    GSW (dS G (sem G T m) (nthS f_law_middle.body 1) [some (.loc p), some (.d (varsD l)), none, none, none, none, none, none, none, none, none, none, none, none, none] (S.set p o)) (MS1 p l S) Rt B C := by
  have hf := hl.few
  have l2 := hl.two
  have e1 : (l.length : Int) - 1 = ((l.length - 1 : Nat) : Int) := by omega
  refine ⟨?_⟩
  simp only [nthS, f_law_middle]
  simp [dSs, dS, dE, dEs, dAnd, dOr, dT, Ev.tAnd, Ev.tOr, dU, dN, dB2, dIf, dVar, dCst, dO, dC, dCall, dKall, pick, entry, isiV, isiV2, isTys, isTy, tobV, truO, truV, okIf, datOf, seqOf, lstOf, datas, lstV, tupV, elsOf, Out.bind_ok, tgt]
  refine gets_lcF (p := p) (l.length - 1) (S := S.set p o) (it_rng1 (by simp [dSs, dS, dE, dEs, dAnd, dOr, dT, Ev.tAnd, Ev.tOr, dU, dN, dB2, dIf, dVar, dCst, dO, dC, dI, dCall, dKall, pick, entry, isiV, isiV2, isTys, isTy, tobV, truO, truV, okIf, datOf, seqOf, lstOf, datas, lstV, tupV, elsOf, Out.bind_ok, e1]) (by omega)) (line_of (by omega)) (h.set ho) (fun i hi S' hS' => ⟨_, rfl, ?_⟩) fun sm o1 hsub h1 => ?_
  · obtain ⟨_, _, e, c, o2, rfl, c0, c1, h2, rfl⟩ := r_draw (n := m) (by omega) hS' (m := 3) (by omega) (by omega)
    refine ⟨decide (0 < c), o2, h2, ?_, fun _ => ?_⟩
    · simp [dSs, dS, dE, dEs, dAnd, dOr, dT, Ev.tAnd, Ev.tOr, dU, dN, dB2, dIf, dVar, dCst, dO, dC, dI, dCall, dKall, pick, entry, isiV, isiV2, isTys, isTy, tobV, truO, truV, okIf, datOf, seqOf, lstOf, datas, lstV, tupV, elsOf, Out.bind_ok, wipeD, e]
    · simp [dSs, dS, dE, dEs, dAnd, dOr, dT, Ev.tAnd, Ev.tOr, dU, dN, dB2, dIf, dVar, dCst, dO, dC, dI, dCall, dKall, pick, entry, isiV, isiV2, isTys, isTy, tobV, truO, truV, okIf, datOf, seqOf, lstOf, datas, lstV, tupV, elsOf, Out.bind_ok, wipeD]
  · rw [List.set_set]
    refine ⟨sm, o1, fun i hi => ?_, ?_, rfl, h1, rfl⟩
    · have := List.mem_range.mp (hsub.mem hi)
      omega
    · have := hsub.length_le
      rw [List.length_range] at this
      omega
def MS2 (p : Nat) (l : List Va) (S : Store) (ρ : EnvD) (S' : Store) : Prop := ∃ (sm : List Nat) (st : List Int) (o : Ob), (∀ i ∈ sm, i < l.length) ∧ sm.length ≤ 100 ∧ InR (szs l) st ∧ ρ = [some (.loc p), some (.d (varsD l)), some (.d (natsD sm)), none, some (.d (Ints st)), none, none, none, none, none, none, none, none, none, none] ∧ PotO o ∧ S' = S.set p o
theorem mid_2 {m : Nat} (hn : 0 < m) {p : Nat} {l l' : List Va} {w : Va} (hl : VasOk l) (el : l = l' ++ [w]) {S : Store} (h : Pot p S) {ρ : EnvD} {S0 : Store} (h0 : MS1 p l S ρ S0) {Rt : Val → Store → Prop} {B C : EnvD → Store → Prop} :
    GSW (dS G (sem G T m) (nthS f_law_middle.body 2) ρ S0) (MS2 p l S) Rt B C := by
  obtain ⟨sm, o, hsm, hsl, rfl, ho, rfl⟩ := h0
  have hf := hl.few
  have hw := (hl.each w (by rw [el]; simp)).one
  have hl' : l'.length ≤ 99 := by rw [el] at hf; simp at hf; omega
  have e1 : cutL l none (some (-1)) = l' := by rw [el]; exact cut_last l' w
  refine ⟨?_⟩
  simp only [nthS, f_law_middle]
  simp [dSs, dS, dE, dEs, dAnd, dOr, dT, Ev.tAnd, Ev.tOr, dU, dN, dB2, dIf, dVar, dCst, dO, dC, dI, dCall, dKall, pick, entry, isiV, isiV2, isTys, isTy, tobV, truO, truV, okIf, datOf, seqOf, lstOf, datas, lstV, tupV, elsOf, Out.bind_ok, tgt]
  refine gets_lcD (R := fun (v : Va) d => ∃ x : Int, d = .int x ∧ 0 ≤ x ∧ x < v.2.length) (fun v : Va => Val.d (varD v)) l' (S := S.set p o) (by simp [dSs, dS, dE, dEs, dAnd, dOr, dT, Ev.tAnd, Ev.tOr, dU, dN, dB2, dIf, dVar, dCst, dO, dC, dI, dCall, dKall, pick, entry, isiV, isiV2, isTys, isTy, tobV, truO, truV, okIf, datOf, seqOf, lstOf, datas, lstV, tupV, elsOf, Out.bind_ok, e1, Function.comp_def]) (line_of (by omega)) (h.set ho) (fun v hv S' hS' => ⟨_, rfl, ?_⟩) fun es o1 hr h1 => ?_
  · have hm : v ∈ l := by rw [el]; exact List.mem_append_left _ hv
    have q1 := (hl.each v hm).one
    have q2 := (hl.each v hm).few
    obtain ⟨_, _, e, c, o2, rfl, c0, c1, h2, rfl⟩ := r_draw (n := m) (by omega) hS' (m := (v.2.length : Int)) (by omega) (by omega)
    simp [dSs, dS, dE, dEs, dAnd, dOr, dT, Ev.tAnd, Ev.tOr, dU, dN, dB2, dIf, dVar, dCst, dO, dC, dI, dCall, dKall, pick, entry, isiV, isiV2, isTys, isTy, tobV, truO, truV, okIf, datOf, seqOf, lstOf, datas, lstV, tupV, elsOf, Out.bind_ok, wipeD, setAll, e]
    exact ⟨⟨c0, c1⟩, o2, h2, rfl⟩
  · obtain ⟨st, rfl, hst⟩ := inr_of hr
    have hsl2 := hst.len
    rw [List.length_map] at hsl2
    have sz : st.length + 1 ≤ sizeLine := line_of (by omega)
    rw [List.set_set]
    simp [dSs, dS, dE, dEs, dAnd, dOr, dT, Ev.tAnd, Ev.tOr, dU, dN, dB2, dIf, dVar, dCst, dO, dC, dI, dCall, dKall, pick, entry, isiV, isiV2, isTys, isTy, tobV, truO, truV, okIf, datOf, seqOf, lstOf, datas, lstV, tupV, elsOf, Out.bind_ok, sz]
    refine ⟨sm, st ++ [0], o1, hsm, hsl, ?_, by simp, h1, rfl⟩
    rw [el]
    show InR ((l' ++ [w]).map fun v => (v.2.length : Int)) _
    rw [List.map_append]
    exact hst.app ⟨⟨by omega, by show (0 : Int) < (w.2.length : Int); omega⟩, True.intro⟩
def ITb (p n : Nat) (l : List Va) (sm : List Nat) (st : List Int) (S : Store) (its : List Val) (ρ : EnvD) (S' : Store) : Prop := ∃ (ts : List (List Ru)) (o : Ob) (y z : Option Val),
  ρ = [some (.loc p), some (.d (varsD l)), some (.d (natsD sm)), none, some (.d (Ints st)), none, none, some (.loc S.length), y, z, none, none, none, none, none] ∧ (∀ t ∈ ts, TbSm (szs l) t) ∧ ts.length + its.length = n ∧ PotO o ∧ S' = S.set p o ++ [.lst (ts.map tbD)]
def MS4 (p : Nat) (l : List Va) (S : Store) (ρ : EnvD) (S' : Store) : Prop := ∃ sm st n, (∀ i ∈ sm, i < l.length) ∧ sm.length ≤ 100 ∧ InR (szs l) st ∧ (1 ≤ n ∧ n ≤ 3) ∧ ITb p n l sm st S [] ρ S'
theorem mid_4 {m : Nat} (hn : 7 < m) {p : Nat} {l : List Va} (hl : VasOk l) {S : Store} (h : Pot p S) {sm : List Nat} {st : List Int} {o : Ob} (hsm : ∀ i ∈ sm, i < l.length) (hsl : sm.length ≤ 100) (hst : InR (szs l) st) (ho : PotO o) {Rt : Val → Store → Prop} {B C : EnvD → Store → Prop} :
    GSW (dS G (sem G T m) (nthS f_law_middle.body 4) [some (.loc p), some (.d (varsD l)), some (.d (natsD sm)), none, some (.d (Ints st)), none, none, some (.loc S.length), none, none, none, none, none, none, none] (S.set p o ++ [.lst []])) (MS4 p l S) Rt B C := by
  have pa : Pot p (S.set p o ++ [.lst []]) := (h.set ho).app
  obtain ⟨_, _, e, c, o1, rfl, c0, c1, h1, rfl⟩ := r_draw (n := m) (by omega) pa (m := 3) (by omega) (by omega)
  rw [set_app h] at e
  obtain ⟨k, rfl⟩ : ∃ k : Nat, c = (k : Int) := ⟨c.toNat, by omega⟩
  refine gsw_for rfl (w := rngI 0 (k + 1)) (S1 := S.set p o1 ++ [.lst []]) (it_rng1 (by simp [dSs, dS, dE, dEs, dAnd, dOr, dT, Ev.tAnd, Ev.tOr, dU, dN, dB2, dIf, dVar, dCst, dO, dC, dI, dCall, dKall, pick, entry, isiV, isiV2, isTys, isTy, tobV, truO, truV, okIf, datOf, seqOf, lstOf, datas, lstV, tupV, elsOf, Out.bind_ok, e]; omega) (by omega)) (ITb p (k + 1) l sm st S) ?_ ?_ ⟨[], o1, none, none, rfl, (fun _ h => by cases h), by simp [rngI], h1, rfl⟩
  · rintro v its ρ S' ⟨ts, o, y, z, rfl, hts, hc, ho, rfl⟩
    obtain ⟨D, hD⟩ : ∃ D, D = ts.map tbD := ⟨_, rfl⟩
    have hz : D.length < sizeLine := by rw [hD, List.length_map, sizeLine_eq]; simp at hc; omega
    rw [← hD]
    have pb : Pot p (S.set p o ++ [.lst D]) := (h.set ho).app
    obtain ⟨_, _, e1, f, o2, rfl, f0, f1, h2, rfl⟩ := r_draw (n := m) (by omega) pb (m := 4) (by omega) (by omega)
    rw [set_app h] at e1
    obtain ⟨j, rfl⟩ : ∃ k : Nat, f = (k : Int) := ⟨f.toNat, by omega⟩
    have pc : Pot p (S.set p o2 ++ [.lst D]) := (h.set h2).app
    refine ⟨True.intro, _, rfl, ?_⟩
    simp [dSs, dS, dE, dEs, dAnd, dOr, dT, Ev.tAnd, Ev.tOr, dU, dN, dB2, dIf, dVar, dCst, dO, dC, dCall, dKall, pick, entry, isiV, isiV2, isTys, isTy, tobV, truO, truV, okIf, datOf, seqOf, lstOf, datas, lstV, tupV, elsOf, Out.bind_ok, tgt]
    refine gets_lcN (R := fun d => ∃ r : Ru, d = ruD r ∧ RuSm (szs l) r) 0 j (S := S.set p o2 ++ [.lst D]) (it_rng1 (by simp [dSs, dS, dE, dEs, dAnd, dOr, dT, Ev.tAnd, Ev.tOr, dU, dN, dB2, dIf, dVar, dCst, dO, dC, dI, dCall, dKall, pick, entry, isiV, isiV2, isTys, isTy, tobV, truO, truV, okIf, datOf, seqOf, lstOf, datas, lstV, tupV, elsOf, Out.bind_ok, e1]) (by omega)) (by rw [sizeLine_eq]; omega) pc (fun i hi S' hS' => ⟨_, rfl, ?_⟩) fun es o3 he hR h3 => ?_
    · obtain ⟨g, as, ss, q1, q2, q3, hd, hq1, hq2, hq3, e2, e3, e4⟩ := r_three hl hsm hsl (k := 2) (by omega) (m := m) (by omega) hS'
      have pd := hS'.set hq3
      obtain ⟨_, _, e5, b, o5, rfl, b0, b1, h5, rfl⟩ := r_draw (n := m) (by omega) pd (m := 2) (by omega) (by omega)
      have e2' : sem G T m 37 [.loc p, .d (varsD l), .d (.int 2)] S' = .ok (.d g) (S'.set p q1) := e2
      simp [dSs, dS, dE, dEs, dAnd, dOr, dT, Ev.tAnd, Ev.tOr, dU, dN, dB2, dIf, dVar, dCst, dO, dC, dI, dCall, dKall, pick, entry, isiV, isiV2, isTys, isTy, tobV, truO, truV, okIf, datOf, seqOf, lstOf, datas, lstV, tupV, elsOf, Out.bind_ok, wipeD, e2', e3, e4, e5]
      exact ⟨⟨⟨⟨g, as, ss⟩, b⟩, ⟨rfl, rfl, rfl, rfl⟩, hd, by show b = 0 ∨ b = 1; omega⟩, o5, h5, by simp⟩
    · obtain ⟨rs, rfl, hrs⟩ := all_of hR
      rw [set_app h]
      have pd : Pot p (S.set p o3 ++ [.lst D]) := (h.set h3).app
      obtain ⟨_, _, e2, as, o4, rfl, has, h4, rfl⟩ := r_law_acts hl hsm hsl (n := m) (by omega) pd
      rw [set_app h] at e2
      have pe : Pot p (S.set p o4 ++ [.lst D]) := (h.set h4).app
      obtain ⟨_, _, e3, ss, o5, rfl, hss, h5, rfl⟩ := r_law_says (n := m) (by omega) pe
      rw [set_app h] at e3
      rw [List.length_map] at he
      have hrl : rs.length + 1 ≤ sizeLine := by rw [sizeLine_eq]; omega
      have ap := fun d => app0 (S := S) (p := p) (d := d) o5 [] hz
      simp [dSs, dS, dE, dEs, dAnd, dOr, dT, Ev.tAnd, Ev.tOr, dU, dN, dB2, dIf, dVar, dCst, dO, dC, dI, dCall, dKall, pick, entry, isiV, isiV2, isTys, isTy, tobV, truO, truV, okIf, datOf, seqOf, lstOf, datas, lstV, tupV, elsOf, Out.bind_ok, tgt, recV, at0, e2, e3, hrl, ap]
      have hrl2 : rs.length ≤ 3 := by omega
      refine ⟨ts ++ [rs ++ [⟨⟨.tuple [.str "all", .tuple []], as, ss⟩, 1⟩]], o5, _, _, rfl, fun t ht => ?_, by simp at hc ⊢; omega, h5, by rw [hD]; simp⟩
      rcases List.mem_append.mp ht with ht | ht
      · exact hts t ht
      · rw [List.mem_singleton.mp ht]
        refine ⟨fun r hr => ?_, ⟨_, _, rfl, rfl⟩, by simp; omega⟩
        rcases List.mem_append.mp hr with hr | hr
        · exact hrs r hr
        · rw [List.mem_singleton.mp hr]
          exact ⟨⟨ALL_g, has, hss⟩, .inr rfl⟩
  · intro ρ S' h
    exact ⟨True.intro, sm, st, k + 1, hsm, hsl, hst, by omega, h⟩
def IGs (p n : Nat) (l : List Va) (sm : List Nat) (st : List Int) (y z : Option Val) (D : List PyData) (S : Store) (its : List Val) (ρ : EnvD) (S' : Store) : Prop := ∃ (gs : List (List Do)) (o : Ob) (u : Option Val),
  ρ = [some (.loc p), some (.d (varsD l)), some (.d (natsD sm)), none, some (.d (Ints st)), none, none, some (.loc S.length), y, z, none, some (.loc (S.length + 1)), u, none, none] ∧ (∀ t ∈ gs, t.length ≤ 2 ∧ ∀ r ∈ t, DoSm (szs l) r) ∧ gs.length + its.length = n ∧ PotO o ∧ S' = S.set p o ++ [.lst D, .lst (gs.map grD)]
theorem mid_6 {m : Nat} (hn : 7 < m) {p : Nat} {l : List Va} (hl : VasOk l) {S : Store} (h : Pot p S) {sm : List Nat} {st : List Int} {o : Ob} {y z : Option Val} {D : List PyData} (hsm : ∀ i ∈ sm, i < l.length) (hsl : sm.length ≤ 100) (ho : PotO o) {Rt : Val → Store → Prop} {B C : EnvD → Store → Prop} :
    GSW (dS G (sem G T m) (nthS f_law_middle.body 6) [some (.loc p), some (.d (varsD l)), some (.d (natsD sm)), none, some (.d (Ints st)), none, none, some (.loc S.length), y, z, none, some (.loc (S.length + 1)), none, none, none] (S.set p o ++ [.lst D, .lst []])) (fun ρ S' => ∃ n, n ≤ 2 ∧ IGs p n l sm st y z D S [] ρ S') Rt B C := by
  have pa : Pot p (S.set p o ++ [.lst D, .lst []]) := (h.set ho).app
  obtain ⟨_, _, e, c, o1, rfl, c0, c1, h1, rfl⟩ := r_draw (n := m) (by omega) pa (m := 3) (by omega) (by omega)
  rw [set_app h] at e
  obtain ⟨k, rfl⟩ : ∃ k : Nat, c = (k : Int) := ⟨c.toNat, by omega⟩
  refine gsw_for rfl (w := rngI 0 k) (S1 := S.set p o1 ++ [.lst D, .lst []]) (it_rng1 (by simp [dSs, dS, dE, dEs, dAnd, dOr, dT, Ev.tAnd, Ev.tOr, dU, dN, dB2, dIf, dVar, dCst, dO, dC, dI, dCall, dKall, pick, entry, isiV, isiV2, isTys, isTy, tobV, truO, truV, okIf, datOf, seqOf, lstOf, datas, lstV, tupV, elsOf, Out.bind_ok, e]) (by omega)) (IGs p k l sm st y z D S) ?_ ?_ ⟨[], o1, none, rfl, (fun _ h => by cases h), by simp [rngI], h1, rfl⟩
  · rintro v its ρ S' ⟨gs, o, u, rfl, hgs, hc, ho, rfl⟩
    obtain ⟨E, hE⟩ : ∃ E, E = gs.map grD := ⟨_, rfl⟩
    have hz : E.length < sizeLine := by rw [hE, List.length_map, sizeLine_eq]; simp at hc; omega
    rw [← hE]
    have pb : Pot p (S.set p o ++ [.lst D, .lst E]) := (h.set ho).app
    obtain ⟨_, _, e1, f, o2, rfl, f0, f1, h2, rfl⟩ := r_draw (n := m) (by omega) pb (m := 3) (by omega) (by omega)
    rw [set_app h] at e1
    obtain ⟨j, rfl⟩ : ∃ k : Nat, f = (k : Int) := ⟨f.toNat, by omega⟩
    have pc : Pot p (S.set p o2 ++ [.lst D, .lst E]) := (h.set h2).app
    refine ⟨True.intro, _, rfl, ?_⟩
    simp [dSs, dS, dE, dEs, dAnd, dOr, dT, Ev.tAnd, Ev.tOr, dU, dN, dB2, dIf, dVar, dCst, dO, dC, dCall, dKall, pick, entry, isiV, isiV2, isTys, isTy, tobV, truO, truV, okIf, datOf, seqOf, lstOf, datas, lstV, tupV, elsOf, Out.bind_ok, tgt, recV, at1]
    refine gets_lcN (R := fun d => ∃ r : Do, d = doD r ∧ DoSm (szs l) r) 0 j (S := S.set p o2 ++ [.lst D, .lst E]) (it_rng1 (by simp [dSs, dS, dE, dEs, dAnd, dOr, dT, Ev.tAnd, Ev.tOr, dU, dN, dB2, dIf, dVar, dCst, dO, dC, dI, dCall, dKall, pick, entry, isiV, isiV2, isTys, isTy, tobV, truO, truV, okIf, datOf, seqOf, lstOf, datas, lstV, tupV, elsOf, Out.bind_ok, e1]) (by omega)) (by rw [sizeLine_eq]; omega) pc (fun i hi S' hS' => ⟨_, rfl, ?_⟩) fun es o3 he hR h3 => ?_
    · obtain ⟨g, as, ss, q1, q2, q3, hd, hq1, hq2, hq3, e2, e3, e4⟩ := r_three hl hsm hsl (k := 1) (by omega) (m := m) (by omega) hS'
      have e2' : sem G T m 37 [.loc p, .d (varsD l), .d (.int 1)] S' = .ok (.d g) (S'.set p q1) := e2
      simp [dSs, dS, dE, dEs, dAnd, dOr, dT, Ev.tAnd, Ev.tOr, dU, dN, dB2, dIf, dVar, dCst, dO, dC, dI, dCall, dKall, pick, entry, isiV, isiV2, isTys, isTy, tobV, truO, truV, okIf, datOf, seqOf, lstOf, datas, lstV, tupV, elsOf, Out.bind_ok, wipeD, e2', e3, e4]
      exact ⟨⟨⟨g, as, ss⟩, ⟨rfl, rfl, rfl⟩, hd⟩, q3, hq3, rfl⟩
    · obtain ⟨rs, rfl, hrs⟩ := all_of hR
      rw [set_app h]
      rw [List.length_map] at he
      have ap := fun d => app1 (S := S) (p := p) (d := d) o3 (.lst D) [] hz
      simp [dSs, dS, dE, dEs, dAnd, dOr, dT, Ev.tAnd, Ev.tOr, dU, dN, dB2, dIf, dVar, dCst, dO, dC, dI, dCall, dKall, pick, entry, isiV, isiV2, isTys, isTy, tobV, truO, truV, okIf, datOf, seqOf, lstOf, datas, lstV, tupV, elsOf, Out.bind_ok, tgt, recV, at1, ap]
      refine ⟨gs ++ [rs], o3, _, rfl, fun t ht => ?_, by simp at hc ⊢; omega, h3, by rw [hE]; simp⟩
      rcases List.mem_append.mp ht with ht | ht
      · exact hgs t ht
      · rw [List.mem_singleton.mp ht]
        exact ⟨by omega, hrs⟩
  · intro ρ S' h
    exact ⟨True.intro, k, by omega, h⟩
theorem r_law_middle {n : Nat} (hn : 9 < n) {p : Nat} {S : Store} (h : Pot p S) : Gets (sem G T n 41 [.loc p] S) fun v S' => ∃ M o, v = .d (midD M) ∧ Drawn M ∧ PotO o ∧ S' = S.set p o := by
  obtain ⟨m, rfl⟩ : ∃ m, n = m + 1 := ⟨n - 1, by omega⟩
  refine gets_body t_law_middle rfl ?_
  obtain ⟨_, _, e0, r, ks, e, o0, rfl, hk, ho0, rfl⟩ := r_law_variables (n := m) (by omega) h
  obtain ⟨l, el⟩ : ∃ l, l = mkL r ks e := ⟨_, rfl⟩
  have hl := mk_ok hk
  rw [← el] at e0 hl
  refine gsw_at rfl rfl rfl (N' := fun ρ S' => ρ = [some (.loc p), some (.d (varsD l)), none, none, none, none, none, none, none, none, none, none, none, none, none] ∧ S' = S.set p o0) ⟨?_⟩ ?_
  · simp [dSs, dS, dE, dEs, dAnd, dOr, dT, Ev.tAnd, Ev.tOr, dU, dN, dB2, dIf, dVar, dCst, dO, dC, dI, dCall, dKall, pick, entry, isiV, isiV2, isTys, isTy, tobV, truO, truV, okIf, datOf, seqOf, lstOf, datas, lstV, tupV, elsOf, Out.bind_ok, f_law_middle, nthS, tgt, e0]
  rintro ρ S' ⟨rfl, rfl⟩
  refine gsw_at rfl rfl rfl (mid_1 (by omega) hl h ho0) ?_
  intro ρ S' h1
  refine gsw_at rfl rfl rfl (mid_2 (l' := preL r ks) (w := vE e) (by omega) hl el h h1) ?_
  rintro ρ S' ⟨sm, st, o2, hsm, hsl, hst, rfl, ho2, rfl⟩
  refine gsw_at rfl rfl rfl (N' := fun ρ S' => ρ = [some (.loc p), some (.d (varsD l)), some (.d (natsD sm)), none, some (.d (Ints st)), none, none, some (.loc S.length), none, none, none, none, none, none, none] ∧ S' = S.set p o2 ++ [.lst []]) ⟨?_⟩ ?_
  · simp [dSs, dS, dE, dEs, dAnd, dOr, dT, Ev.tAnd, Ev.tOr, dU, dN, dB2, dIf, dVar, dCst, dO, dC, dI, dCall, dKall, pick, entry, isiV, isiV2, isTys, isTy, tobV, truO, truV, okIf, datOf, seqOf, lstOf, datas, lstV, tupV, elsOf, Out.bind_ok, f_law_middle, nthS, tgt]
  rintro ρ S' ⟨rfl, rfl⟩
  refine gsw_at rfl rfl rfl (mid_4 (by omega) hl h hsm hsl hst ho2) ?_
  rintro ρ S' ⟨sm, st, nn, hsm, hsl, hst, hnn, ts, o4, y, z, rfl, hts, hc, ho4, rfl⟩
  have hts2 : TsSm (szs l) ts := ⟨hts, by simp at hc; omega⟩
  obtain ⟨D, hD⟩ : ∃ D, D = ts.map tbD := ⟨_, rfl⟩
  rw [← hD]
  refine gsw_at rfl rfl rfl (N' := fun ρ S' => ρ = [some (.loc p), some (.d (varsD l)), some (.d (natsD sm)), none, some (.d (Ints st)), none, none, some (.loc S.length), y, z, none, some (.loc (S.length + 1)), none, none, none] ∧ S' = S.set p o4 ++ [.lst D, .lst []]) ⟨?_⟩ ?_
  · simp [dSs, dS, dE, dEs, dAnd, dOr, dT, Ev.tAnd, Ev.tOr, dU, dN, dB2, dIf, dVar, dCst, dO, dC, dI, dCall, dKall, pick, entry, isiV, isiV2, isTys, isTy, tobV, truO, truV, okIf, datOf, seqOf, lstOf, datas, lstV, tupV, elsOf, Out.bind_ok, f_law_middle, nthS, tgt]
  rintro ρ S' ⟨rfl, rfl⟩
  refine gsw_at rfl rfl rfl (mid_6 (by omega) hl h hsm hsl ho4) ?_
  rintro ρ S' ⟨n2, hn2, gs, o6, u, rfl, hgs, hc2, ho6, rfl⟩
  have hgs2 : GsSm (szs l) gs := ⟨hgs, by simp at hc2; omega⟩
  obtain ⟨E, hE⟩ : ∃ E, E = gs.map grD := ⟨_, rfl⟩
  rw [← hE]
  have i1 : atI (l.map varD) (-1) = some (varD (vE e)) := by
    rw [el]
    unfold mkL
    rw [List.map_append]
    exact atI_end
  have ve := vE_ok hk.c.1 hk.c.2
  have v1 := ve.1.one
  have v5 : (vE e).2.length ≤ 3 := by have := (ve_by e hk.c.2 hk.c.1).2.1; show (ens.take e).length ≤ 3; have := hk.c.2; omega
  have pa : Pot p (S.set p o6 ++ [.lst D, .lst E]) := (h.set ho6).app
  refine gsw_at rfl rfl rfl (N' := fun ρ S' => ∃ es o, EsSm (szs l) (vE e).2.length es ∧ ρ = [some (.loc p), some (.d (varsD l)), some (.d (natsD sm)), none, some (.d (Ints st)), none, none, some (.loc S.length), y, z, none, some (.loc (S.length + 1)), u, some (.d (.list (es.map enD))), none] ∧ PotO o ∧ S' = S.set p o ++ [.lst D, .lst E]) ⟨?_⟩ ?_
  · simp [dSs, dS, dE, dEs, dAnd, dOr, dT, Ev.tAnd, Ev.tOr, dU, dN, dB2, dIf, dVar, dCst, dO, dC, dCall, dKall, pick, entry, isiV, isiV2, isTys, isTy, tobV, truO, truV, okIf, datOf, seqOf, lstOf, datas, lstV, tupV, elsOf, Out.bind_ok, f_law_middle, nthS, tgt]
    refine gets_lcD (R := fun (i : Nat) d => ∃ x : En0, d = enD x ∧ EnSm (szs l) (vE e).2.length x) (fun (i : Nat) => Val.d (.int (1 + (i : Int)))) (List.range ((vE e).2.length - 1)) (S := S.set p o6 ++ [.lst D, .lst E]) (it_rng2 (S1 := S.set p o6 ++ [.lst D, .lst E]) (by simp [dSs, dS, dE, dEs, dAnd, dOr, dT, Ev.tAnd, Ev.tOr, dU, dN, dB2, dIf, dVar, dCst, dO, dC, dI, dCall, dKall, pick, entry, isiV, isiV2, isTys, isTy, tobV, truO, truV, okIf, datOf, seqOf, lstOf, datas, lstV, tupV, elsOf, Out.bind_ok]) (by simp [dSs, dS, dE, dEs, dAnd, dOr, dT, Ev.tAnd, Ev.tOr, dU, dN, dB2, dIf, dVar, dCst, dO, dC, dI, dCall, dKall, pick, entry, isiV, isiV2, isTys, isTy, tobV, truO, truV, okIf, datOf, seqOf, lstOf, datas, lstV, tupV, elsOf, Out.bind_ok, i1]) (by omega)) (by rw [List.length_range]; exact line_of (by omega)) pa (fun i hi S' hS' => ⟨_, rfl, ?_⟩) fun es o hr ho => ?_
    · have hi := List.mem_range.mp hi
      obtain ⟨_, _, e1, g, o1, rfl, hg, ht, h1, rfl⟩ := r_law_guard hl 1 m (by omega) hS'
      have pb := hS'.set h1
      obtain ⟨_, _, e3, ss, o2, rfl, hss, h2, rfl⟩ := r_law_says (n := m) (by omega) pb
      simp only [List.set_set] at e3
      have e1' : sem G T m 37 [.loc p, .d (varsD l), .d (.int 1)] S' = .ok (.d g) (S'.set p o1) := e1
      simp [dSs, dS, dE, dEs, dAnd, dOr, dT, Ev.tAnd, Ev.tOr, dU, dN, dB2, dIf, dVar, dCst, dO, dC, dI, dCall, dKall, pick, entry, isiV, isiV2, isTys, isTy, tobV, truO, truV, okIf, datOf, seqOf, lstOf, datas, lstV, tupV, elsOf, Out.bind_ok, wipeD, e1', e3]
      exact ⟨⟨⟨1 + (i : Int), g, ss⟩, ⟨rfl, rfl, rfl⟩, ⟨by show 1 ≤ 1 + (i : Int); omega, by show 1 + (i : Int) < (vE e).2.length; omega⟩, ⟨hg.up (by omega), ht.imp (by decide) (by decide)⟩, hss⟩, o2, h2, rfl⟩
    · have hel := hr.len
      obtain ⟨xs, rfl, hxs⟩ := all_of (f := enD) (P := fun x => EnSm (szs l) (vE e).2.length x) (fun d hd => (hr.mem d hd).elim fun _ hx => hx.2)
      rw [List.length_range, List.length_map] at hel
      rw [set_app h]
      simp
      exact ⟨xs, ⟨hxs, by omega⟩, rfl, o, ho, rfl⟩
  rintro ρ S' ⟨es, o, hes, rfl, ho, rfl⟩
  have pb : Pot p (S.set p o ++ [.lst D, .lst E]) := (h.set ho).app
  obtain ⟨_, _, e1, vw, o1, rfl, hvw, htv, h1, rfl⟩ := r_law_views hk (n := m) (by omega) pb
  rw [set_app h, ← el] at e1
  have DR := drawn_of hk (el ▸ hst) (el ▸ hts2) (el ▸ hgs2) (el ▸ hes) hvw htv
  obtain ⟨A, hA⟩ : ∃ A, A = es.map enD := ⟨_, rfl⟩
  rw [← hA]
  obtain ⟨Q, hQ⟩ : ∃ Q : Val → Store → Prop, Q = fun v S' => ∃ M o, v = .d (midD M) ∧ Drawn M ∧ PotO o ∧ S' = S.set p o := ⟨_, rfl⟩
  rw [← hQ]
  refine gsw_at rfl rfl rfl (N' := fun _ _ => False) ⟨?_⟩ fun _ _ z => z.elim
  simp only [nthS, f_law_middle]
  simp [dSs, dS, dE, dEs, dAnd, dOr, dT, Ev.tAnd, Ev.tOr, dU, dN, dB2, dIf, dVar, dCst, dO, dC, dI, dCall, dKall, pick, entry, isiV, isiV2, isTys, isTy, tobV, truO, truV, okIf, datOf, seqOf, lstOf, datas, lstV, tupV, elsOf, Out.bind_ok, tuple_loc (at0 _ _ _), tuple_loc (at1 _ _ _ _), e1]
  rw [hQ]
  exact ⟨_, o1, by rw [hA, hD, hE, el], DR, h1, by simp⟩
end HT
end

section
set_option Elab.async false
set_option linter.all false
set_option maxRecDepth 100000
set_option maxHeartbeats 4000000
/-! F8: k43: the drawn box, all its rows -/
namespace HT
open PySem PySem.Spec L2 Ev
theorem Rel2.snoc {α β : Type} {R : α → β → Prop} {a : α} {b : β} (r : R a b) : ∀ {as : List α} {bs : List β}, Rel2 R as bs → Rel2 R (as ++ [a]) (bs ++ [b])
  | [], [], _ => ⟨r, True.intro⟩
  | _ :: _, _ :: _, h => ⟨h.1, Rel2.snoc r h.2⟩
  | [], _ :: _, h => h.elim
  | _ :: _, [], h => h.elim
theorem range_up : ∀ (n k : Nat), (List.range' k n).Pairwise (· < ·)
  | 0, _ => .nil
  | n + 1, k => by
    rw [List.range'_succ]
    refine List.pairwise_cons.mpr ⟨fun x hx => ?_, range_up n (k + 1)⟩
    have := List.mem_range'.mp hx
    omega
theorem lot_sub {k : Nat} {l' : List Nat} (h : l'.Sublist (List.range k)) (ne : l' ≠ []) (hk : k ≤ 100) : LotOk (k : Int) (l'.map fun (i : Nat) => (i : Int)) := by
  refine ⟨?_, fun x hx => ?_, by simpa using ne, ?_⟩
  · rw [List.pairwise_map]
    have h1 := range_up k 0
    rw [← List.range_eq_range'] at h1
    exact (h1.sublist h).imp fun {a b} hab => by omega
  · obtain ⟨i, hi, rfl⟩ := List.mem_map.mp hx
    have := List.mem_range.mp (h.mem hi)
    omega
  · rw [List.length_map]
    have := h.length_le
    rw [List.length_range] at this
    omega
def IBx (M : Mid) (p : Nat) (S : Store) (its : List Val) (ρ : EnvD) (S' : Store) : Prop := ∃ (done rest : List Va) (b : List (List Int)) (o : Ob) (x y z : Option Val), M.vars = done ++ rest ∧ its = rest.map (fun v => Val.d (varD v)) ∧ Rel2 LotOk (szs done) b ∧
  ρ = [some (.loc p), some (.d (midD M)), some (.loc S.length), x, y, z, none] ∧ PotO o ∧ S' = S.set p o ++ [.lst (b.map Ints)]
theorem r_law_box {M : Mid} (hM : Drawn M) {n : Nat} (hn : 1 < n) {p : Nat} {S : Store} (h : Pot p S) : Gets (sem G T n 43 [.loc p, .d (midD M)] S) fun v S' => ∃ b o, v = .d (boxD b) ∧ BoxOk (szs M.vars) b ∧ PotO o ∧ S' = S.set p o := by
  obtain ⟨m, rfl⟩ : ∃ m, n = m + 1 := ⟨n - 1, by omega⟩
  obtain ⟨o0, ho0, hpo0⟩ := id h
  have es : S.set p o0 = S := by
    obtain ⟨hl, e⟩ := List.getElem?_eq_some_iff.mp ho0
    rw [← e, List.set_getElem_self]
  have hf := hM.few
  refine gets_sem t_law_box rfl ?_
  simp [dSs, dS, dE, dEs, dAnd, dOr, dT, Ev.tAnd, Ev.tOr, dU, dN, dB2, dIf, dVar, dCst, dO, dC, dCall, dKall, pick, entry, isiV, isiV2, isTys, isTy, tobV, truO, truV, okIf, datOf, seqOf, lstOf, datas, lstV, tupV, elsOf, Out.bind_ok, f_law_box, tgt]
  refine ⟨⟨M.vars.map fun v => Val.d (varD v), none⟩, S ++ [.lst []], by simp [dSs, dS, dE, dEs, dAnd, dOr, dT, Ev.tAnd, Ev.tOr, dU, dN, dB2, dIf, dVar, dCst, dO, dC, dI, dCall, dKall, pick, entry, isiV, isiV2, isTys, isTy, tobV, truO, truV, okIf, datOf, seqOf, lstOf, datas, lstV, tupV, elsOf, Out.bind_ok, Function.comp_def], ?_⟩
  refine gs_for (IBx M p S) ?_ ?_ _ _ _ ⟨[], M.vars, [], o0, none, none, none, rfl, rfl, True.intro, rfl, hpo0, by rw [es]; rfl⟩
  · rintro v its ρ S' ⟨done, rest, b, o, x, y, z, ev, e, hb, rfl, ho, rfl⟩
    cases rest with
    | nil => cases e
    | cons a rest =>
      cases e
      have hm : a ∈ M.vars := by rw [ev]; simp
      have q1 := (hM.ok.vars.each a hm).one
      have q2 := (hM.vars a hm).few
      have hbl := hb.len
      have hdl : done.length ≤ 5 := by rw [ev] at hf; simp at hf; omega
      rw [List.length_map] at hbl
      obtain ⟨D, hD⟩ : ∃ D, D = b.map Ints := ⟨_, rfl⟩
      have hz : D.length < sizeLine := by rw [hD, List.length_map, sizeLine_eq]; omega
      rw [← hD]
      have pa : Pot p (S.set p o ++ [.lst D]) := (h.set ho).app
      refine ⟨True.intro, _, rfl, ?_⟩
      simp [dSs, dS, dE, dEs, dAnd, dOr, dT, Ev.tAnd, Ev.tOr, dU, dN, dB2, dIf, dVar, dCst, dO, dC, dCall, dKall, pick, entry, isiV, isiV2, isTys, isTy, tobV, truO, truV, okIf, datOf, seqOf, lstOf, datas, lstV, tupV, elsOf, Out.bind_ok, tgt, setAll]
      obtain ⟨k, hk⟩ : ∃ k, k = a.2.length := ⟨_, rfl⟩
      refine gets_lcF (p := p) k (S := S.set p o ++ [.lst D]) ?_ (line_of (by omega)) pa (fun i hi S' hS' => ⟨_, rfl, ?_⟩) fun sm o1 hsub h1 => ?_
      · refine it_rng1 (k := k) (S1 := S.set p o ++ [.lst D]) ?_ (by omega)
        simp [dSs, dS, dE, dEs, dAnd, dOr, dT, Ev.tAnd, Ev.tOr, dU, dN, dB2, dIf, dVar, dCst, dO, dC, dI, dCall, dKall, pick, entry, isiV, isiV2, isTys, isTy, tobV, truO, truV, okIf, datOf, seqOf, lstOf, datas, lstV, tupV, elsOf, Out.bind_ok, hk]
      · obtain ⟨_, _, e, c, o2, rfl, c0, c1, h2, rfl⟩ := r_draw (n := m) (by omega) hS' (m := 3) (by omega) (by omega)
        refine ⟨decide (0 < c), o2, h2, ?_, fun _ => ?_⟩
        · simp [dSs, dS, dE, dEs, dAnd, dOr, dT, Ev.tAnd, Ev.tOr, dU, dN, dB2, dIf, dVar, dCst, dO, dC, dI, dCall, dKall, pick, entry, isiV, isiV2, isTys, isTy, tobV, truO, truV, okIf, datOf, seqOf, lstOf, datas, lstV, tupV, elsOf, Out.bind_ok, wipeD, e]
        · simp [dSs, dS, dE, dEs, dAnd, dOr, dT, Ev.tAnd, Ev.tOr, dU, dN, dB2, dIf, dVar, dCst, dO, dC, dI, dCall, dKall, pick, entry, isiV, isiV2, isTys, isTy, tobV, truO, truV, okIf, datOf, seqOf, lstOf, datas, lstV, tupV, elsOf, Out.bind_ok, wipeD]
      · rw [set_app h]
        have hcl : ∀ d ∈ sm.map (fun (i : Nat) => PyData.int (i : Int)), Cl 63 d := fun d hd => by
          obtain ⟨x, _, rfl⟩ := List.mem_map.mp hd
          exact .int
        have ne := fun S => ne_nil hcl S
        have nx : M.vars = (done ++ [a]) ++ rest := by rw [ev]; simp
        have one : ∀ (o' : Ob), PotO o' → ∃ (c : Int) (o2 : Ob), sem G T m 32 [.loc p, .d (.int (a.2.length : Int))] (S.set p o' ++ [.lst D]) = .ok (.d (.int c)) (S.set p o2 ++ [.lst D]) ∧ 0 ≤ c ∧ c < a.2.length ∧ PotO o2 := fun o' ho' => by
          have pb : Pot p (S.set p o' ++ [.lst D]) := (h.set ho').app
          obtain ⟨_, _, e2, c, o2, rfl, c0, c1, h2, rfl⟩ := r_draw (n := m) (by omega) pb (m := (a.2.length : Int)) (by omega) (by omega)
          rw [set_app h] at e2
          exact ⟨c, o2, e2, c0, c1, h2⟩
        have sgl : ∀ (c : Int) (o2 : Ob) (x y z : Option Val), 0 ≤ c → c < a.2.length → PotO o2 → IBx M p S (rest.map (fun v => Val.d (varD v))) [some (.loc p), some (.d (midD M)), some (.loc S.length), x, y, z, none] (S.set p o2 ++ [.lst (D ++ [.tuple [.int c]])]) := fun c o2 x y z c0 c1 h2 =>
          ⟨done ++ [a], rest, b ++ [[c]], o2, x, y, z, nx, rfl, by
            show Rel2 LotOk ((done ++ [a]).map fun v => (v.2.length : Int)) _
            rw [List.map_append]
            exact hb.snoc ⟨by simp, fun x hx => by rw [List.mem_singleton.mp hx]; exact ⟨c0, c1⟩, by simp, by simp⟩, rfl, h2, by rw [hD]; simp⟩
        by_cases hs : sm = []
        · obtain ⟨c, o2, e2, c0, c1, h2⟩ := one o1 h1
          have ap := fun d => app0 (S := S) (p := p) (d := d) o2 [] hz
          have ne2 := ne (S.set p o1 ++ [.lst D])
          rw [hs] at ne2
          simp only [List.map_nil, List.isEmpty_nil, Bool.not_true] at ne2
          subst hs
          have ne3 : cmpV .NotEq (.d (natsD [])) (.d (.list [])) (S.set p o1 ++ [.lst D]) = .ok (.d (.bool false)) (S.set p o1 ++ [.lst D]) := ne2
          simp [dSs, dS, dE, dEs, dAnd, dOr, dT, Ev.tAnd, Ev.tOr, dU, dN, dB2, dIf, dVar, dCst, dO, dC, dI, dCall, dKall, pick, entry, isiV, isiV2, isTys, isTy, tobV, truO, truV, okIf, datOf, seqOf, lstOf, datas, lstV, tupV, elsOf, Out.bind_ok, recV, at0, ne3, e2, ap]
          exact sgl c o2 _ _ _ c0 c1 h2
        · have pb : Pot p (S.set p o1 ++ [.lst D]) := (h.set h1).app
          obtain ⟨_, _, e3, f, o3, rfl, f0, f1, h3, rfl⟩ := r_draw (n := m) (by omega) pb (m := 3) (by omega) (by omega)
          rw [set_app h] at e3
          have hs2 : (sm.map fun (i : Nat) => PyData.int (i : Int)).isEmpty = false := by simpa using hs
          have ne2 := ne (S.set p o1 ++ [.lst D])
          rw [hs2] at ne2
          by_cases hf0 : 0 < f
          · have ap := fun d => app0 (S := S) (p := p) (d := d) o3 [] hz
            simp [dSs, dS, dE, dEs, dAnd, dOr, dT, Ev.tAnd, Ev.tOr, dU, dN, dB2, dIf, dVar, dCst, dO, dC, dI, dCall, dKall, pick, entry, isiV, isiV2, isTys, isTy, tobV, truO, truV, okIf, datOf, seqOf, lstOf, datas, lstV, tupV, elsOf, Out.bind_ok, recV, at0, ne2, e3, hf0, ap]
            refine ⟨done ++ [a], rest, b ++ [sm.map fun (i : Nat) => (i : Int)], o3, _, _, _, nx, rfl, ?_, rfl, h3, by rw [hD]; simp [Function.comp_def]⟩
            show Rel2 LotOk ((done ++ [a]).map fun v => (v.2.length : Int)) _
            rw [List.map_append]
            rw [hk] at hsub
            exact hb.snoc (lot_sub hsub hs (by omega))
          · obtain ⟨c, o2, e2, c0, c1, h2⟩ := one o3 h3
            have ap := fun d => app0 (S := S) (p := p) (d := d) o2 [] hz
            simp [dSs, dS, dE, dEs, dAnd, dOr, dT, Ev.tAnd, Ev.tOr, dU, dN, dB2, dIf, dVar, dCst, dO, dC, dI, dCall, dKall, pick, entry, isiV, isiV2, isTys, isTy, tobV, truO, truV, okIf, datOf, seqOf, lstOf, datas, lstV, tupV, elsOf, Out.bind_ok, recV, at0, ne2, e3, hf0, e2, ap]
            exact sgl c o2 _ _ _ c0 c1 h2
  · rintro ρ S' ⟨done, rest, b, o, x, y, z, ev, e, hb, rfl, ho, rfl⟩
    cases rest with
    | cons a rest => cases e
    | nil =>
      refine ⟨True.intro, ?_⟩
      simp at ev
      simp [dSs, dS, dE, dEs, dAnd, dOr, dT, Ev.tAnd, Ev.tOr, dU, dN, dB2, dIf, dVar, dCst, dO, dC, dI, dCall, dKall, pick, entry, isiV, isiV2, isTys, isTy, tobV, truO, truV, okIf, datOf, seqOf, lstOf, datas, lstV, tupV, elsOf, Out.bind_ok, tuple_loc (at0 _ _ _)]
      exact ⟨b, rfl, by rw [ev]; exact hb, o, ho, rfl⟩
/-! ### all rows -/
def stepR (rows : List (List Int)) (s : List Int) : List (List Int) := rows.flatMap fun r => s.map fun v => r ++ [v]
def allR (b : List (List Int)) : List (List Int) := b.foldl stepR [[]]
theorem step_len (s : List Int) : ∀ rows : List (List Int), (stepR rows s).length = rows.length * s.length
  | [] => by simp [stepR]
  | r :: rows => by
    have ih := step_len s rows
    unfold stepR at ih ⊢
    rw [List.flatMap_cons, List.length_append, ih, List.length_map, List.length_cons, Nat.succ_mul]
    omega
theorem all_mem : ∀ (b : List (List Int)) (rows : List (List Int)) (r : List Int), r ∈ b.foldl stepR rows ↔ ∃ q ∈ rows, ∃ vs, r = q ++ vs ∧ InBox b vs
  | [], rows, r => by
    constructor
    · intro h; exact ⟨r, h, [], by simp, True.intro⟩
    · rintro ⟨q, hq, vs, rfl, hv⟩
      cases vs with
      | nil => simpa using hq
      | cons _ _ => exact hv.elim
  | s :: b, rows, r => by
    rw [List.foldl_cons, all_mem b]
    constructor
    · rintro ⟨q, hq, vs, rfl, hv⟩
      obtain ⟨q0, h0, h1⟩ := List.mem_flatMap.mp hq
      obtain ⟨v, hv1, rfl⟩ := List.mem_map.mp h1
      exact ⟨q0, h0, v :: vs, by simp, hv1, hv⟩
    · rintro ⟨q, hq, vs, rfl, hv⟩
      cases vs with
      | nil => exact hv.elim
      | cons v vs => exact ⟨q ++ [v], List.mem_flatMap.mpr ⟨q, hq, List.mem_map.mpr ⟨v, hv.1, rfl⟩⟩, vs, by simp, hv.2⟩
theorem allR_mem {b : List (List Int)} {r : List Int} : r ∈ allR b ↔ InBox b r := by
  unfold allR
  rw [all_mem]
  constructor
  · rintro ⟨q, hq, vs, rfl, hv⟩
    rw [List.mem_singleton.mp hq]
    simpa using hv
  · intro h
    exact ⟨[], List.mem_singleton.mpr rfl, r, by simp, h⟩
theorem all_grow : ∀ (b : List (List Int)) (rows : List (List Int)), (∀ s ∈ b, s ≠ []) → rows.length ≤ (b.foldl stepR rows).length
  | [], rows, _ => Nat.le_refl _
  | s :: b, rows, h => by
    have h1 : 1 ≤ s.length := List.length_pos_iff.mpr (h s List.mem_cons_self)
    have h2 := all_grow b (stepR rows s) fun t ht => h t (List.mem_cons_of_mem _ ht)
    rw [step_len] at h2
    have h3 : rows.length * 1 ≤ rows.length * s.length := Nat.mul_le_mul_left _ h1
    rw [List.foldl_cons]
    omega
theorem all_one : ∀ (b : List (List Int)) (rows : List (List Int)), rows ≠ [] → (∀ s ∈ b, s ≠ []) → (b.foldl stepR rows).length = 1 → ∀ s ∈ b, s.length = 1
  | [], _, _, _, _, s, hs => by cases hs
  | s :: b, rows, hr, h, e, t, ht => by
    have h1 : 1 ≤ s.length := List.length_pos_iff.mpr (h s List.mem_cons_self)
    have r1 : 1 ≤ rows.length := List.length_pos_iff.mpr hr
    rw [List.foldl_cons] at e
    have hb := fun t ht => h t (List.mem_cons_of_mem _ ht)
    have h2 := all_grow b (stepR rows s) hb
    rw [step_len, e] at h2
    have s1 : s.length = 1 := by
      have : 1 * s.length ≤ rows.length * s.length := Nat.mul_le_mul_right _ r1
      omega
    rcases List.mem_cons.mp ht with rfl | ht
    · exact s1
    · refine all_one b (stepR rows s) (fun z => ?_) hb e t ht
      have := step_len s rows
      rw [z, s1] at this
      simp at this
      omega
/-- a list of rows, frozen or held -/
def RowV (S T : Store) (rows : List (List Int)) (v : Val) : Prop := v = .d (.list (rows.map Ints)) ∨ ∃ T1, T = T1 ++ [.lst (rows.map Ints)] ∧ v = .loc (S ++ T1).length
def IAl (b : List (List Int)) (S : Store) (its : List Val) (ρ : EnvD) (S' : Store) : Prop := ∃ (bs : List (List Int)) (rows : List (List Int)) (T : Store) (v : Val) (x y z : Option Val), its = bs.map (fun s => Val.d (Ints s)) ∧ ρ = [some (.d (boxD b)), some v, x, y, z, none] ∧ RowV S T rows v ∧ S' = S ++ T ∧
  bs.foldl stepR rows = allR b ∧ (∀ s ∈ bs, s.length ≤ 5) ∧ rows.length * 5 ^ bs.length ≤ 3125 ∧ (∀ r ∈ rows, r.length ≤ 100 - bs.length) ∧ bs.length ≤ 5
def IAi (b : List (List Int)) (S1 : Store) (v : Val) (s : List Int) (rows : List (List Int)) (its : List Val) (ρ : EnvD) (S' : Store) : Prop := ∃ (rs acc : List (List Int)) (z : Option Val), its = rs.map (fun r => Val.d (Ints r)) ∧ ρ = [some (.d (boxD b)), some v, some (.d (Ints s)), some (.loc S1.length), z, none] ∧
  acc ++ stepR rs s = stepR rows s ∧ (∀ r ∈ rs, r.length ≤ 99) ∧ S' = S1 ++ [.lst (acc.map Ints)]
theorem rowv_seq {S T : Store} {rows : List (List Int)} {v : Val} (h : RowV S T rows v) (U : Store) : ∃ n, seqI v (S ++ T ++ U) = .ok ⟨rows.map (fun r => Val.d (Ints r)), n⟩ (S ++ T ++ U) ∧ ∀ U', (⟨rows.map (fun r => Val.d (Ints r)), n⟩ : Itm).ck (S ++ T ++ U') := by
  rcases h with rfl | ⟨T1, rfl, rfl⟩
  · exact ⟨none, by simp [Function.comp_def], fun _ => True.intro⟩
  · have g : ∀ U', (S ++ (T1 ++ [Ob.lst (rows.map Ints)]) ++ U')[(S ++ T1).length]? = some (.lst (rows.map Ints)) := fun U' => by
      have e : S ++ (T1 ++ [Ob.lst (rows.map Ints)]) ++ U' = (S ++ T1) ++ (Ob.lst (rows.map Ints) :: U') := by simp
      rw [e, List.getElem?_append_right (Nat.le_refl _)]
      simp
    refine ⟨some ((S ++ T1).length, rows.map Ints), ?_, fun U' => g U'⟩
    unfold seqI
    dsimp only
    rw [g U]
    simp [Function.comp_def]
theorem step_mem {rows : List (List Int)} {s r : List Int} (h : r ∈ stepR rows s) : ∃ q ∈ rows, r.length = q.length + 1 := by
  obtain ⟨q, hq, h1⟩ := List.mem_flatMap.mp h
  obtain ⟨v, _, rfl⟩ := List.mem_map.mp h1
  exact ⟨q, hq, by simp⟩
theorem r_law_all {n : Nat} (hn : 0 < n) {b : List (List Int)} (hb : ∀ s ∈ b, s.length ≤ 5) (hl : b.length ≤ 5) (S : Store) : sem G T n 44 [.d (boxD b)] S = .ok (.d (.list ((allR b).map Ints))) S := by
  obtain ⟨m, rfl⟩ : ∃ m, n = m + 1 := ⟨n - 1, by omega⟩
  refine ok_of (gets_sem t_law_all rfl ?_)
  simp [dSs, dS, dE, dEs, dAnd, dOr, dT, Ev.tAnd, Ev.tOr, dU, dN, dB2, dIf, dVar, dCst, dO, dC, dCall, dKall, pick, entry, isiV, isiV2, isTys, isTy, tobV, truO, truV, okIf, datOf, seqOf, lstOf, datas, lstV, tupV, elsOf, Out.bind_ok, f_law_all, tgt]
  refine ⟨⟨b.map fun s => Val.d (Ints s), none⟩, S, by simp [dSs, dS, dE, dEs, dAnd, dOr, dT, Ev.tAnd, Ev.tOr, dU, dN, dB2, dIf, dVar, dCst, dO, dC, dI, dCall, dKall, pick, entry, isiV, isiV2, isTys, isTy, tobV, truO, truV, okIf, datOf, seqOf, lstOf, datas, lstV, tupV, elsOf, Out.bind_ok, Function.comp_def], ?_⟩
  have p5 : 1 * 5 ^ b.length ≤ 3125 := by
    have : b.length = 0 ∨ b.length = 1 ∨ b.length = 2 ∨ b.length = 3 ∨ b.length = 4 ∨ b.length = 5 := by omega
    rcases this with e | e | e | e | e | e <;> rw [e] <;> decide
  refine gs_for (IAl b S) ?_ ?_ _ _ _ ⟨b, [[]], [], .d (.list [.tuple []]), none, none, none, rfl, rfl, .inl rfl, by simp, rfl, hb, p5, (fun r hr => by rw [List.mem_singleton.mp hr]; simp), hl⟩
  · rintro v its ρ S' ⟨bs, rows, T, w, x, y, z, e, rfl, hw, rfl, hf, h5, hp, hr, hbl⟩
    cases bs with
    | nil => cases e
    | cons s bs =>
      cases e
      obtain ⟨n, e1, ck⟩ := rowv_seq hw [.lst []]
      have s5 := h5 s List.mem_cons_self
      rw [List.length_cons, Nat.pow_succ] at hp
      have o5 : 1 ≤ 5 ^ bs.length := Nat.one_le_pow _ _ (by decide)
      have rp : rows.length * 5 ≤ 3125 := Nat.le_trans (Nat.mul_le_mul_left _ (by omega)) hp
      obtain ⟨S1, hS1⟩ : ∃ S1, S1 = S ++ T := ⟨_, rfl⟩
      rw [← hS1] at e1 ck ⊢
      have hS : ∀ A, (S1 ++ [Ob.lst A])[S1.length]? = some (.lst A) := fun A => by simp
      refine ⟨True.intro, _, rfl, ?_⟩
      simp [dSs, dS, dE, dEs, dAnd, dOr, dT, Ev.tAnd, Ev.tOr, dU, dN, dB2, dIf, dVar, dCst, dO, dC, dCall, dKall, pick, entry, isiV, isiV2, isTys, isTy, tobV, truO, truV, okIf, datOf, seqOf, lstOf, datas, lstV, tupV, elsOf, Out.bind_ok, tgt]
      refine ⟨⟨rows.map fun r => Val.d (Ints r), n⟩, S1 ++ [.lst []], by simp [dSs, dS, dE, dEs, dAnd, dOr, dT, Ev.tAnd, Ev.tOr, dU, dN, dB2, dIf, dVar, dCst, dO, dC, dI, dCall, dKall, pick, entry, isiV, isiV2, isTys, isTy, tobV, truO, truV, okIf, datOf, seqOf, lstOf, datas, lstV, tupV, elsOf, Out.bind_ok, e1], ?_⟩
      refine gs_for (IAi b S1 w s rows) ?_ ?_ _ _ _ ⟨rows, [], _, rfl, rfl, by simp, (fun r hr' => by have := hr r hr'; rw [List.length_cons] at this; omega), by simp⟩
      · rintro v its ρ S' ⟨rs, acc, z', e, rfl, hacc, h99, rfl⟩
        cases rs with
        | nil => cases e
        | cons r rs =>
          cases e
          have lr := line_of (k := r.length + 1) (by have := h99 r List.mem_cons_self; omega)
          have hlen := congrArg List.length hacc
          rw [List.length_append, step_len, step_len, List.length_cons, Nat.succ_mul] at hlen
          have hm : rows.length * s.length ≤ rows.length * 5 := Nat.mul_le_mul_left _ s5
          obtain ⟨A, hA⟩ : ∃ A, A = acc.map Ints := ⟨_, rfl⟩
          have la : A.length + s.length ≤ sizeLine := line_of (by rw [hA, List.length_map]; omega)
          rw [← hA]
          refine ⟨ck _, _, rfl, ?_⟩
          simp [dSs, dS, dE, dEs, dAnd, dOr, dT, Ev.tAnd, Ev.tOr, dU, dN, dB2, dIf, dVar, dCst, dO, dC, dCall, dKall, pick, entry, isiV, isiV2, isTys, isTy, tobV, truO, truV, okIf, datOf, seqOf, lstOf, datas, lstV, tupV, elsOf, Out.bind_ok, tgt, recV, hS]
          refine gets_each (fun v : Int => Val.d (.int v)) (fun v => Ints (r ++ [v])) s (n := none) (S := S1 ++ [Ob.lst A]) (by simp [dSs, dS, dE, dEs, dAnd, dOr, dT, Ev.tAnd, Ev.tOr, dU, dN, dB2, dIf, dVar, dCst, dO, dC, dI, dCall, dKall, pick, entry, isiV, isiV2, isTys, isTy, tobV, truO, truV, okIf, datOf, seqOf, lstOf, datas, lstV, tupV, elsOf, Out.bind_ok, Function.comp_def]) (by simp) (fun v hv => ⟨_, rfl, by simp [dSs, dS, dE, dEs, dAnd, dOr, dT, Ev.tAnd, Ev.tOr, dU, dN, dB2, dIf, dVar, dCst, dO, dC, dI, dCall, dKall, pick, entry, isiV, isiV2, isTys, isTy, tobV, truO, truV, okIf, datOf, seqOf, lstOf, datas, lstV, tupV, elsOf, Out.bind_ok, wipeD, lr]⟩) (line_of (by omega)) ?_
          have ex := ext_loc (S := S1 ++ [Ob.lst A]) (p := S1.length) (zs := s.map fun v => Ints (r ++ [v])) (hS A) (by simpa using la)
          rw [List.set_append_right _ _ (Nat.le_refl _)] at ex
          simp only [Nat.sub_self, List.set_cons_zero] at ex
          simp only [Bool.false_eq_true, if_false]
          rw [ex]
          simp
          refine ⟨rs, acc ++ s.map fun v => r ++ [v], _, rfl, rfl, ?_, fun q hq => h99 q (List.mem_cons_of_mem _ hq), by rw [hA]; simp [Function.comp_def]⟩
          rw [← hacc]
          simp [stepR]
      · rintro ρ S' ⟨rs, acc, z', e, rfl, hacc, h99, rfl⟩
        cases rs with
        | cons r rs => cases e
        | nil =>
          refine ⟨ck _, ?_⟩
          have ea : acc = stepR rows s := by simpa [stepR] using hacc
          simp [dSs, dS, dE, dEs, dAnd, dOr, dT, Ev.tAnd, Ev.tOr, dU, dN, dB2, dIf, dVar, dCst, dO, dC, dCall, dKall, pick, entry, isiV, isiV2, isTys, isTy, tobV, truO, truV, okIf, datOf, seqOf, lstOf, datas, lstV, tupV, elsOf, Out.bind_ok, tgt]
          refine ⟨bs, stepR rows s, T ++ [.lst ((stepR rows s).map Ints)], _, _, _, _, rfl, rfl, .inr ⟨T, rfl, by rw [hS1]⟩, by rw [hS1, ea]; simp, ?_, fun t ht => h5 t (List.mem_cons_of_mem _ ht), ?_, fun q hq => ?_, by rw [List.length_cons] at hbl; omega⟩
          · rw [← hf, List.foldl_cons]
          · rw [step_len]
            refine Nat.le_trans (Nat.mul_le_mul_right _ (Nat.mul_le_mul_left _ s5)) ?_
            rw [Nat.mul_assoc, Nat.mul_comm 5]
            exact hp
          · obtain ⟨q0, h0, h1⟩ := step_mem hq
            have := hr q0 h0
            rw [List.length_cons] at this hbl
            omega
  · rintro ρ S' ⟨bs, rows, T, w, x, y, z, e, rfl, hw, rfl, hf, h5, hp, hr, hbl⟩
    cases bs with
    | cons s bs => cases e
    | nil =>
      refine ⟨True.intro, ?_⟩
      have er : rows = allR b := hf
      rcases hw with rfl | ⟨T1, rfl, rfl⟩
      · simp [dSs, dS, dE, dEs, dAnd, dOr, dT, Ev.tAnd, Ev.tOr, dU, dN, dB2, dIf, dVar, dCst, dO, dC, dI, dCall, dKall, pick, entry, isiV, isiV2, isTys, isTy, tobV, truO, truV, okIf, datOf, seqOf, lstOf, datas, lstV, tupV, elsOf, Out.bind_ok, er]
      · have g : (S ++ (T1 ++ [Ob.lst (rows.map Ints)]))[(S ++ T1).length]? = some (.lst (rows.map Ints)) := by
          rw [← List.append_assoc, List.getElem?_append_right (Nat.le_refl _)]
          simp
        have ng : ¬ ((S ++ T1).length < S.length) := by simp
        have bk : back false S.length (.loc (S ++ T1).length) (S ++ (T1 ++ [Ob.lst (rows.map Ints)])) = .ok (.d (.list (rows.map Ints))) S := by
          unfold back
          dsimp only
          rw [if_neg ng, g]
          simp
        simp only [dSs, dS, dE, dEs, dAnd, dOr, dT, Ev.tAnd, Ev.tOr, dU, dN, dB2, dIf, dVar, dCst, dO, dC, dI, dCall, dKall, pick, entry, isiV, isiV2, isTys, isTy, tobV, truO, truV, okIf, datOf, seqOf, lstOf, datas, lstV, tupV, elsOf, Out.bind_ok, List.getElem?_cons_succ, List.getElem?_cons_zero]
        simp
        rw [show S.length + T1.length = (S ++ T1).length by simp, bk]
        simp [er]
end HT
end

section
set_option Elab.async false
set_option linter.all false
set_option maxRecDepth 100000
set_option maxHeartbeats 4000000
/-! F9: the weight of a middle form -/
namespace HT
open PySem PySem.Spec L2 Ev
/-- a row: its guard, its acts, the rest -/
abbrev Rw := PyData × List PyData × List PyData
abbrev rwD (r : Rw) : PyData := .tuple (r.1 :: .tuple r.2.1 :: r.2.2)
def rowW (r : Rw) : Int := 1 + (tests 14 r.1 : Nat) + (r.2.1.length : Nat)
def rowsW (M : Mid) : List (List Rw) := (M.tables.map fun t => t.map fun r => (r.r.g, r.r.as, [.tuple r.r.ss, .int r.k])) ++ (M.groups.map fun t => t.map fun r => (r.g, r.as, [.tuple r.ss]))
theorem rowsW_D (M : Mid) : (rowsW M).map (fun t => PyData.tuple (t.map rwD)) = M.tables.map tbD ++ M.groups.map grD := by
  simp [rowsW, Function.comp_def]
structure WOk (zs : List Int) (W : List (List Rw)) : Prop where
  ok : ∀ t ∈ W, t.length ≤ 1000 ∧ ∀ r ∈ t, GOk zs 14 r.1
  few : W.length ≤ 2000
theorem rowsW_ok {M : Mid} (hM : MidOk M) : WOk (szs M.vars) (rowsW M) := by
  have l1 := hM.lt
  have l2 := hM.lg
  refine ⟨fun t ht => ?_, by simp [rowsW]; omega⟩
  rcases List.mem_append.mp ht with ht | ht
  · obtain ⟨u, hu, rfl⟩ := List.mem_map.mp ht
    have q := hM.tables u hu
    refine ⟨by rw [List.length_map]; exact q.few, fun r hr => ?_⟩
    obtain ⟨v, hv, rfl⟩ := List.mem_map.mp hr
    exact (q.each v hv).1.g
  · obtain ⟨u, hu, rfl⟩ := List.mem_map.mp ht
    have q := hM.groups u hu
    refine ⟨by rw [List.length_map]; exact q.few, fun r hr => ?_⟩
    obtain ⟨v, hv, rfl⟩ := List.mem_map.mp hr
    exact (q.each v hv).g
def sumW (W : List (List Rw)) : Int := (W.map fun t => (t.map rowW).sum).sum
def endW (M : Mid) : Int := (M.ends.map fun e => 1 + ((tests 14 e.g : Nat) : Int)).sum
def IWt (M : Mid) (tot : Int) (S : Store) (its : List Val) (ρ : EnvD) (S' : Store) : Prop := ∃ (W : List (List Rw)) (c : Int) (x : Option Val), its = W.map (fun t => Val.d (.tuple (t.map rwD))) ∧ ρ = [some (.d (midD M)), some (.d (.int c)), x, none, none, none, none] ∧ (∀ t ∈ W, t.length ≤ 1000 ∧ ∀ r ∈ t, GOk (szs M.vars) 14 r.1) ∧ c + sumW W = tot ∧ S' = S
theorem ends_ok {M : Mid} (hM : MidOk M) : ∀ e ∈ M.ends, GOk (szs M.vars) 14 e.g := by
  obtain ⟨w', r', ns, e2, _, _⟩ := hM.vars.ended
  exact fun e he => (hM.ends w' r' e2 e he).g
theorem r_weight {n : Nat} (hn : 24 < n) {M : Mid} (hM : MidOk M) (S : Store) : sem G T n 30 [.d (midD M)] S = .ok (.d (.int (sumW (rowsW M) + endW M))) S := by
  obtain ⟨m, rfl⟩ : ∃ m, n = m + 1 := ⟨n - 1, by omega⟩
  refine ok_of (gets_sem t_weight rfl ?_)
  have a0 := fun S => r_want_middle (n := m) (by omega) hM S
  have l1 := hM.lt
  have l2 := hM.lg
  have l3 := hM.le
  have sz : M.tables.length + M.groups.length ≤ sizeLine := line_of (by omega)
  have w0 := rowsW_ok hM
  simp [dSs, dS, dE, dEs, dAnd, dOr, dT, Ev.tAnd, Ev.tOr, dU, dN, dB2, dIf, dVar, dCst, dO, dC, dCall, dKall, pick, entry, isiV, isiV2, isTys, isTy, tobV, truO, truV, okIf, datOf, seqOf, lstOf, datas, lstV, tupV, elsOf, Out.bind_ok, f_weight, tgt, a0]
  refine ⟨⟨(rowsW M).map fun t => Val.d (.tuple (t.map rwD)), none⟩, S, ?_, ?_⟩
  · have e := rowsW_D M
    have e2 : (rowsW M).map (fun t => Val.d (.tuple (t.map rwD))) = (M.tables.map tbD ++ M.groups.map grD).map Val.d := by rw [← e, List.map_map]; rfl
    rw [e2]
    simp [dSs, dS, dE, dEs, dAnd, dOr, dT, Ev.tAnd, Ev.tOr, dU, dN, dB2, dIf, dVar, dCst, dO, dC, dI, dCall, dKall, pick, entry, isiV, isiV2, isTys, isTy, tobV, truO, truV, okIf, datOf, seqOf, lstOf, datas, lstV, tupV, elsOf, Out.bind_ok, sz]
  refine gs_for (IWt M (sumW (rowsW M)) S) ?_ ?_ _ _ _ ⟨rowsW M, 0, none, rfl, rfl, w0.ok, by omega, rfl⟩
  · rintro v its ρ S' ⟨W, c, x, e1, rfl, hW, ht, rfl⟩
    cases W with
    | nil => cases e1
    | cons t W =>
      cases e1
      obtain ⟨t1, t2⟩ := hW t List.mem_cons_self
      refine ⟨True.intro, _, rfl, ?_⟩
      simp [dSs, dS, dE, dEs, dAnd, dOr, dT, Ev.tAnd, Ev.tOr, dU, dN, dB2, dIf, dVar, dCst, dO, dC, dI, dCall, dKall, pick, entry, isiV, isiV2, isTys, isTy, tobV, truO, truV, okIf, datOf, seqOf, lstOf, datas, lstV, tupV, elsOf, Out.bind_ok, tgt]
      refine gets_each (fun r : Rw => Val.d (rwD r)) (fun r => .int (rowW r)) t (n := none) (S := S') (by simp [dSs, dS, dE, dEs, dAnd, dOr, dT, Ev.tAnd, Ev.tOr, dU, dN, dB2, dIf, dVar, dCst, dO, dC, dI, dCall, dKall, pick, entry, isiV, isiV2, isTys, isTy, tobV, truO, truV, okIf, datOf, seqOf, lstOf, datas, lstV, tupV, elsOf, Out.bind_ok, Function.comp_def]) (by simp) (fun r hr => ⟨_, rfl, by simp [dSs, dS, dE, dEs, dAnd, dOr, dT, Ev.tAnd, Ev.tOr, dU, dN, dB2, dIf, dVar, dCst, dO, dC, dI, dCall, dKall, pick, entry, isiV, isiV2, isTys, isTy, tobV, truO, truV, okIf, datOf, seqOf, lstOf, datas, lstV, tupV, elsOf, Out.bind_ok, wipeD, r_weight_of 14 r.1 (t2 r hr) m (by omega), rowW]⟩) (line_of (by omega)) ?_
      simp [dSs, dS, dE, dEs, dAnd, dOr, dT, Ev.tAnd, Ev.tOr, dU, dN, dB2, dIf, dVar, dCst, dO, dC, dI, dCall, dKall, pick, entry, isiV, isiV2, isTys, isTy, tobV, truO, truV, okIf, datOf, seqOf, lstOf, datas, lstV, tupV, elsOf, Out.bind_ok]
      refine ⟨W, c + (t.map rowW).sum, _, rfl, rfl, fun u hu => hW u (List.mem_cons_of_mem _ hu), ?_, rfl⟩
      rw [← ht]
      simp [sumW]
      omega
  · rintro ρ S' ⟨W, c, x, e1, rfl, hW, ht, rfl⟩
    cases W with
    | cons t W => cases e1
    | nil =>
      refine ⟨True.intro, ?_⟩
      have ec : c = sumW (rowsW M) := by rw [← ht]; simp [sumW]
      simp [dSs, dS, dE, dEs, dAnd, dOr, dT, Ev.tAnd, Ev.tOr, dU, dN, dB2, dIf, dVar, dCst, dO, dC, dI, dCall, dKall, pick, entry, isiV, isiV2, isTys, isTy, tobV, truO, truV, okIf, datOf, seqOf, lstOf, datas, lstV, tupV, elsOf, Out.bind_ok, tgt]
      refine gets_each (fun e : En0 => Val.d (enD e)) (fun e => .int (1 + ((tests 14 e.g : Nat) : Int))) M.ends (n := none) (S := S') (by simp [dSs, dS, dE, dEs, dAnd, dOr, dT, Ev.tAnd, Ev.tOr, dU, dN, dB2, dIf, dVar, dCst, dO, dC, dI, dCall, dKall, pick, entry, isiV, isiV2, isTys, isTy, tobV, truO, truV, okIf, datOf, seqOf, lstOf, datas, lstV, tupV, elsOf, Out.bind_ok, Function.comp_def]) (by simp) (fun e he => ⟨_, rfl, by simp [dSs, dS, dE, dEs, dAnd, dOr, dT, Ev.tAnd, Ev.tOr, dU, dN, dB2, dIf, dVar, dCst, dO, dC, dI, dCall, dKall, pick, entry, isiV, isiV2, isTys, isTy, tobV, truO, truV, okIf, datOf, seqOf, lstOf, datas, lstV, tupV, elsOf, Out.bind_ok, wipeD, setAll, r_weight_of 14 e.g (ends_ok hM e he) m (by omega)]⟩) (line_of (by omega)) ?_
      simp [dSs, dS, dE, dEs, dAnd, dOr, dT, Ev.tAnd, Ev.tOr, dU, dN, dB2, dIf, dVar, dCst, dO, dC, dI, dCall, dKall, pick, entry, isiV, isiV2, isTys, isTy, tobV, truO, truV, okIf, datOf, seqOf, lstOf, datas, lstV, tupV, elsOf, Out.bind_ok, ec, endW]
end HT
end

section
set_option Elab.async false
set_option linter.all false
set_option maxRecDepth 100000
set_option maxHeartbeats 4000000
/-! F10: the law's own weight -/
namespace HT
open PySem PySem.Spec L2 Ev
def ILw (M : Mid) (tot : Int) (S : Store) (its : List Val) (ρ : EnvD) (S' : Store) : Prop := ∃ (W : List (List Rw)) (c : Int) (x y : Option Val), its = W.map (fun t => Val.d (.tuple (t.map rwD))) ∧ ρ = [some (.d (midD M)), some (.d (.int c)), x, y, none, none, none] ∧ (∀ t ∈ W, t.length ≤ 1000 ∧ ∀ r ∈ t, GOk (szs M.vars) 14 r.1) ∧ c + sumW W = tot ∧ S' = S
def ILr (M : Mid) (tot : Int) (x : Option Val) (S : Store) (its : List Val) (ρ : EnvD) (S' : Store) : Prop := ∃ (rs : List Rw) (c : Int) (y : Option Val), its = rs.map (fun r => Val.d (rwD r)) ∧ ρ = [some (.d (midD M)), some (.d (.int c)), x, y, none, none, none] ∧ (∀ r ∈ rs, GOk (szs M.vars) 14 r.1) ∧ c + (rs.map rowW).sum = tot ∧ S' = S
def ILe (M : Mid) (tot : Int) (x y : Option Val) (S : Store) (its : List Val) (ρ : EnvD) (S' : Store) : Prop := ∃ (es : List En0) (c : Int) (z u v : Option Val), its = es.map (fun e => Val.d (enD e)) ∧ ρ = [some (.d (midD M)), some (.d (.int c)), x, y, z, u, v] ∧ (∀ e ∈ es, GOk (szs M.vars) 14 e.g) ∧ c + (es.map fun e => 1 + ((tests 14 e.g : Nat) : Int)).sum = tot ∧ S' = S
theorem r_law_weight {n : Nat} (hn : 24 < n) {M : Mid} (hM : MidOk M) (S : Store) : sem G T n 48 [.d (midD M)] S = .ok (.d (.int (sumW (rowsW M) + endW M))) S := by
  obtain ⟨m, rfl⟩ : ∃ m, n = m + 1 := ⟨n - 1, by omega⟩
  refine ok_of (gets_sem t_law_weight rfl ?_)
  have l1 := hM.lt
  have l2 := hM.lg
  have l3 := hM.le
  have sz : M.tables.length + M.groups.length ≤ sizeLine := line_of (by omega)
  have w0 := rowsW_ok hM
  simp [dSs, dS, dE, dEs, dAnd, dOr, dT, Ev.tAnd, Ev.tOr, dU, dN, dB2, dIf, dVar, dCst, dO, dC, dCall, dKall, pick, entry, isiV, isiV2, isTys, isTy, tobV, truO, truV, okIf, datOf, seqOf, lstOf, datas, lstV, tupV, elsOf, Out.bind_ok, f_law_weight, tgt]
  refine ⟨⟨(rowsW M).map fun t => Val.d (.tuple (t.map rwD)), none⟩, S, ?_, ?_⟩
  · have e := rowsW_D M
    have e2 : (rowsW M).map (fun t => Val.d (.tuple (t.map rwD))) = (M.tables.map tbD ++ M.groups.map grD).map Val.d := by rw [← e, List.map_map]; rfl
    rw [e2]
    simp [dSs, dS, dE, dEs, dAnd, dOr, dT, Ev.tAnd, Ev.tOr, dU, dN, dB2, dIf, dVar, dCst, dO, dC, dI, dCall, dKall, pick, entry, isiV, isiV2, isTys, isTy, tobV, truO, truV, okIf, datOf, seqOf, lstOf, datas, lstV, tupV, elsOf, Out.bind_ok, sz]
  refine gs_for (ILw M (sumW (rowsW M)) S) ?_ ?_ _ _ _ ⟨rowsW M, 0, none, none, rfl, rfl, w0.ok, by omega, rfl⟩
  · rintro v its ρ S' ⟨W, c, x, y, e1, rfl, hW, ht, rfl⟩
    cases W with
    | nil => cases e1
    | cons t W =>
      cases e1
      obtain ⟨t1, t2⟩ := hW t List.mem_cons_self
      refine ⟨True.intro, _, rfl, ?_⟩
      simp [dSs, dS, dE, dEs, dAnd, dOr, dT, Ev.tAnd, Ev.tOr, dU, dN, dB2, dIf, dVar, dCst, dO, dC, dCall, dKall, pick, entry, isiV, isiV2, isTys, isTy, tobV, truO, truV, okIf, datOf, seqOf, lstOf, datas, lstV, tupV, elsOf, Out.bind_ok, tgt]
      refine ⟨⟨t.map fun r => Val.d (rwD r), none⟩, S', by simp [dSs, dS, dE, dEs, dAnd, dOr, dT, Ev.tAnd, Ev.tOr, dU, dN, dB2, dIf, dVar, dCst, dO, dC, dI, dCall, dKall, pick, entry, isiV, isiV2, isTys, isTy, tobV, truO, truV, okIf, datOf, seqOf, lstOf, datas, lstV, tupV, elsOf, Out.bind_ok, Function.comp_def], ?_⟩
      refine gs_for (ILr M (c + (t.map rowW).sum) (some (.d (.tuple (t.map rwD)))) S') ?_ ?_ _ _ _ ⟨t, c, y, rfl, rfl, t2, rfl, rfl⟩
      · rintro v its ρ S' ⟨rs, c', y', e2, rfl, hr, ht2, rfl⟩
        cases rs with
        | nil => cases e2
        | cons r rs =>
          cases e2
          have q := r_law_tests 14 r.1 (hr r List.mem_cons_self) m (by omega)
          refine ⟨True.intro, _, rfl, ?_⟩
          simp [dSs, dS, dE, dEs, dAnd, dOr, dT, Ev.tAnd, Ev.tOr, dU, dN, dB2, dIf, dVar, dCst, dO, dC, dI, dCall, dKall, pick, entry, isiV, isiV2, isTys, isTy, tobV, truO, truV, okIf, datOf, seqOf, lstOf, datas, lstV, tupV, elsOf, Out.bind_ok, tgt, q]
          refine ⟨rs, _, _, rfl, rfl, fun u hu => hr u (List.mem_cons_of_mem _ hu), ?_, rfl⟩
          rw [← ht2]
          simp [rowW]
          omega
      · rintro ρ S' ⟨rs, c', y', e2, rfl, hr, ht2, rfl⟩
        cases rs with
        | cons r rs => cases e2
        | nil =>
          refine ⟨True.intro, ?_⟩
          try simp only [gs_next]
          refine ⟨W, c', _, _, rfl, rfl, fun u hu => hW u (List.mem_cons_of_mem _ hu), ?_, rfl⟩
          rw [← ht]
          simp [sumW] at ht2 ⊢
          omega
  · rintro ρ S' ⟨W, c, x, y, e1, rfl, hW, ht, rfl⟩
    cases W with
    | cons t W => cases e1
    | nil =>
      refine ⟨True.intro, ?_⟩
      have ec : c = sumW (rowsW M) := by rw [← ht]; simp [sumW]
      refine ⟨⟨M.ends.map fun e => Val.d (enD e), none⟩, S', by simp [dSs, dS, dE, dEs, dAnd, dOr, dT, Ev.tAnd, Ev.tOr, dU, dN, dB2, dIf, dVar, dCst, dO, dC, dI, dCall, dKall, pick, entry, isiV, isiV2, isTys, isTy, tobV, truO, truV, okIf, datOf, seqOf, lstOf, datas, lstV, tupV, elsOf, Out.bind_ok, Function.comp_def], ?_⟩
      refine gs_for (ILe M (c + endW M) x y S') ?_ ?_ _ _ _ ⟨M.ends, c, none, none, none, rfl, rfl, ends_ok hM, rfl, rfl⟩
      · rintro v its ρ S' ⟨es, c', z, u, w, e2, rfl, hr, ht2, rfl⟩
        cases es with
        | nil => cases e2
        | cons e es =>
          cases e2
          have q := r_law_tests 14 e.g (hr e List.mem_cons_self) m (by omega)
          refine ⟨True.intro, _, rfl, ?_⟩
          simp [dSs, dS, dE, dEs, dAnd, dOr, dT, Ev.tAnd, Ev.tOr, dU, dN, dB2, dIf, dVar, dCst, dO, dC, dI, dCall, dKall, pick, entry, isiV, isiV2, isTys, isTy, tobV, truO, truV, okIf, datOf, seqOf, lstOf, datas, lstV, tupV, elsOf, Out.bind_ok, tgt, setAll, q]
          refine ⟨es, _, _, _, _, rfl, rfl, fun u hu => hr u (List.mem_cons_of_mem _ hu), ?_, rfl⟩
          rw [← ht2]
          simp
          omega
      · rintro ρ S' ⟨es, c', z, u, w, e2, rfl, hr, ht2, rfl⟩
        cases es with
        | cons e es => cases e2
        | nil =>
          refine ⟨True.intro, ?_⟩
          simp at ht2
          simp [dSs, dS, dE, dEs, dAnd, dOr, dT, Ev.tAnd, Ev.tOr, dU, dN, dB2, dIf, dVar, dCst, dO, dC, dI, dCall, dKall, pick, entry, isiV, isiV2, isTys, isTy, tobV, truO, truV, okIf, datOf, seqOf, lstOf, datas, lstV, tupV, elsOf, Out.bind_ok, ht2, ec]
end HT
end

section
set_option Elab.async false
set_option linter.all false
set_option maxRecDepth 100000
set_option maxHeartbeats 4000000
/-! F11: k43: the law's turns -/
namespace HT
open PySem PySem.Spec L2 Ev
theorem repr_d {d : PyData} (r : Rp d) (S : Store) : biV .repr [.d d] S = .ok (.d (.str d.shown)) S := repr_ok rfl r
theorem up_len : ∀ {s : List Int} {a z : Int}, s.Pairwise (· < ·) → (∀ x ∈ s, a ≤ x ∧ x < z) → (s.length : Int) ≤ max 0 (z - a)
  | [], a, z, _, _ => by simp; omega
  | x :: s, a, z, h, hb => by
    obtain ⟨h1, h2⟩ := List.pairwise_cons.mp h
    have hx := hb x List.mem_cons_self
    have ih := up_len (a := x + 1) (z := z) h2 fun y hy => ⟨by have := h1 y hy; omega, (hb y (List.mem_cons_of_mem _ hy)).2⟩
    rw [List.length_cons]
    omega
theorem lot_le {z : Int} {s : List Int} (h : LotOk z s) (hz : z ≤ 5) : s.length ≤ 5 := by
  have := up_len h.up h.within
  omega
theorem box_le {M : Mid} (hM : Drawn M) {b : List (List Int)} (hb : BoxOk (szs M.vars) b) : (∀ s ∈ b, s.length ≤ 5 ∧ ∀ x ∈ s, 0 ≤ x ∧ x < 5) ∧ b.length ≤ 5 := by
  have hl := hb.len
  rw [List.length_map] at hl
  refine ⟨fun s hs => ?_, by have := hM.few; omega⟩
  obtain ⟨z, hz, ok⟩ := hb.mem s hs
  obtain ⟨v, hv, rfl⟩ := List.mem_map.mp hz
  have := (hM.vars v hv).few
  exact ⟨lot_le ok (by omega), fun x hx => by have := ok.within x hx; omega⟩
theorem box_tame {b : List (List Int)} (h : (∀ s ∈ b, s.length ≤ 5 ∧ ∀ x ∈ s, 0 ≤ x ∧ x < 5) ∧ b.length ≤ 5) : Tame 30 2 (boxD b) :=
  Tame.tup (k := 1) (TameAll.all (a := 5) (n := 5) (fun d hd => by
    obtain ⟨s, hs, rfl⟩ := List.mem_map.mp hd
    exact Tame.tup (k := 0) (TameAll.all (a := 0) (n := 5) (fun d hd => by
      obtain ⟨x, hx, rfl⟩ := List.mem_map.mp hd
      have := (h.1 s hs).2 x hx
      exact tame_small (by omega) (by omega)) (by rw [List.length_map]; exact (h.1 s hs).1))) (by rw [List.length_map]; exact h.2))
section
variable {M : Mid} {b : List (List Int)}
theorem rows_few (hM : Drawn M) (hb : BoxOk (szs M.vars) b) : (allR b).length ≤ 100000 := by
  have h := box_le hM hb
  have key : ∀ (bs : List (List Int)) (rows : List (List Int)), (∀ s ∈ bs, s.length ≤ 5) → (bs.foldl stepR rows).length ≤ rows.length * 5 ^ bs.length := by
    intro bs
    induction bs with
    | nil => intro rows _; simp
    | cons s bs ih =>
      intro rows hs
      rw [List.foldl_cons, List.length_cons, Nat.pow_succ]
      refine Nat.le_trans (ih _ fun t ht => hs t (List.mem_cons_of_mem _ ht)) ?_
      rw [step_len, Nat.mul_comm (5 ^ bs.length) 5, ← Nat.mul_assoc]
      exact Nat.mul_le_mul_right _ (Nat.mul_le_mul_left _ (hs s List.mem_cons_self))
  have k2 := key b [[]] fun s hs => (h.1 s hs).1
  have h5 := h.2
  have p5 : 5 ^ b.length ≤ 3125 := by
    have : b.length = 0 ∨ b.length = 1 ∨ b.length = 2 ∨ b.length = 3 ∨ b.length = 4 ∨ b.length = 5 := by omega
    rcases this with e | e | e | e | e | e <;> rw [e] <;> decide
  show (b.foldl stepR [[]]).length ≤ 100000
  simp at k2
  omega
end
theorem tests_pow {zs : List Int} : ∀ {d : Nat} {g : PyData}, GOk zs d g → tests d g ≤ 1000 ^ d
  | 0, _, h => h.elim
  | d + 1, g, h => by
    have p1 : 1 ≤ 1000 ^ d := Nat.one_le_pow _ _ (by decide)
    have sum : ∀ gs : List PyData, (∀ k ∈ gs, tests d k ≤ 1000 ^ d) → (gs.map (tests d)).sum ≤ gs.length * 1000 ^ d := by
      intro gs
      induction gs with
      | nil => intro _; simp
      | cons k gs ih =>
        intro hk
        have h1 := hk k List.mem_cons_self
        have h2 := ih fun j hj => hk j (List.mem_cons_of_mem _ hj)
        rw [List.map_cons, List.sum_cons, List.length_cons, Nat.succ_mul]
        omega
    rw [Nat.pow_succ]
    have big : ∀ gs : List PyData, gs.length ≤ 1000 → (∀ k ∈ gs, GOk zs d k) → (gs.map (tests d)).sum ≤ 1000 ^ d * 1000 := fun gs hl hk => by
      have := sum gs fun k hm => tests_pow (hk k hm)
      rw [Nat.mul_comm (1000 ^ d)]
      exact Nat.le_trans this (Nat.mul_le_mul_right _ hl)
    rcases h with ⟨v, x, z, rfl, _⟩ | ⟨a, c, rfl, _⟩ | ⟨k, rfl, hk⟩ | ⟨gs, rfl, hl, hk⟩ | ⟨gs, rfl, hl, hk⟩
    · simp only [tests]; omega
    · simp only [tests]; omega
    · have := tests_pow hk
      have e : tests (d + 1) (.tuple [.str "not", k]) = tests d k := by simp [tests]
      rw [e]
      omega
    · have e : tests (d + 1) (.tuple [.str "all", .tuple gs]) = (gs.map (tests d)).sum := by simp only [tests]; simp
      rw [e]
      exact big gs hl hk
    · have e : tests (d + 1) (.tuple [.str "any", .tuple gs]) = (gs.map (tests d)).sum := by simp only [tests]; simp
      rw [e]
      exact big gs hl hk
theorem sum_bd {α : Type} {f : α → Int} {B : Int} (hB : 0 ≤ B) : ∀ {l : List α} , (∀ x ∈ l, 0 ≤ f x ∧ f x ≤ B) → 0 ≤ (l.map f).sum ∧ (l.map f).sum ≤ l.length * B
  | [], _ => by simp
  | x :: l, h => by
    have h1 := h x List.mem_cons_self
    have h2 := sum_bd hB (l := l) fun y hy => h y (List.mem_cons_of_mem _ hy)
    rw [List.map_cons, List.sum_cons, List.length_cons]
    have e : ((l.length + 1 : Nat) : Int) * B = l.length * B + B := by rw [Int.natCast_add, Int.add_mul]; simp
    rw [e]
    omega
theorem weight_small {M : Mid} (hM : MidOk M) : (sumW (rowsW M) + endW M).natAbs < 10 ^ 100 := by
  have tp : ∀ g, GOk (szs M.vars) 14 g → ((tests 14 g : Nat) : Int) ≤ 10 ^ 42 := fun g hg => by
    have := tests_pow hg
    have e : (1000 : Nat) ^ 14 = 10 ^ 42 := by decide
    rw [e] at this
    omega
  have la : ∀ t ∈ rowsW M, ∀ r ∈ t, r.2.1.length ≤ 1000 := fun t ht => by
    rcases List.mem_append.mp ht with ht | ht
    · obtain ⟨u, hu, rfl⟩ := List.mem_map.mp ht
      intro r hr
      obtain ⟨v, hv, rfl⟩ := List.mem_map.mp hr
      exact ((hM.tables u hu).each v hv).1.la
    · obtain ⟨u, hu, rfl⟩ := List.mem_map.mp ht
      intro r hr
      obtain ⟨v, hv, rfl⟩ := List.mem_map.mp hr
      exact ((hM.groups u hu).each v hv).la
  have w0 := rowsW_ok hM
  have h1 : ∀ t ∈ rowsW M, 0 ≤ (t.map rowW).sum ∧ (t.map rowW).sum ≤ 10 ^ 50 := fun t ht => by
    obtain ⟨t1, t2⟩ := w0.ok t ht
    have q := sum_bd (f := rowW) (B := 10 ^ 43) (by decide) (l := t) fun r hr => by
      have a := tp r.1 (t2 r hr)
      have b := la t ht r hr
      unfold rowW
      omega
    have : (t.length : Int) * 10 ^ 43 ≤ 1000 * 10 ^ 43 := Int.mul_le_mul_of_nonneg_right (by omega) (by decide)
    omega
  have h2 := sum_bd (f := fun t : List Rw => (t.map rowW).sum) (B := 10 ^ 50) (by decide) (l := rowsW M) h1
  have h3 := sum_bd (f := fun e : En0 => 1 + ((tests 14 e.g : Nat) : Int)) (B := 10 ^ 43) (by decide) (l := M.ends) fun e he => by
    have a := tp e.g (ends_ok hM e he)
    omega
  have l1 := w0.few
  have l3 := hM.le
  have m1 : ((rowsW M).length : Int) * 10 ^ 50 ≤ 2000 * 10 ^ 50 := Int.mul_le_mul_of_nonneg_right (by omega) (by decide)
  have m2 : (M.ends.length : Int) * 10 ^ 43 ≤ 1000 * 10 ^ 43 := Int.mul_le_mul_of_nonneg_right (by omega) (by decide)
  unfold sumW endW
  omega
end HT
end

section
set_option Elab.async false
set_option linter.all false
set_option maxRecDepth 100000
set_option maxHeartbeats 4000000
/-! F12: k43: the law's turns -/
namespace HT
open PySem PySem.Spec L2 Ev
def IRt (M : Mid) (X : Str) (c : Int) (p : Nat) (S : Store) (its : List Val) (ρ : EnvD) (S' : Store) : Prop := ∃ (o : Ob) (x4 x5 x6 x7 x8 : Option Val), ρ = [some (.loc p), some (.d (midD M)), some (.d (.str X)), some (.d (.int c)), x4, x5, x6, x7, x8, none] ∧ PotO o ∧ S' = S.set p o
theorem r_law_right {n : Nat} (hn : 28 < n) {p : Nat} {S : Store} (h : Pot p S) : Gets (sem G T n 49 [.loc p] S) fun v S' => ∃ o, v = .d (.bool true) ∧ PotO o ∧ S' = S.set p o := by
  obtain ⟨m, rfl⟩ : ∃ m, n = m + 1 := ⟨n - 1, by omega⟩
  refine gets_body t_law_right rfl ?_
  obtain ⟨_, _, e0, M, o0, rfl, hM, ho0, rfl⟩ := r_law_middle (n := m) (by omega) h
  have hl := hM.ok.vars
  have hf := hM.few
  obtain ⟨X, hX⟩ : ∃ X, X = (midD M).shown := ⟨_, rfl⟩
  obtain ⟨c, hc⟩ : ∃ c, c = sumW (rowsW M) + endW M := ⟨_, rfl⟩
  have cs := weight_small hM.ok
  rw [← hc] at cs
  have a1 := fun S => repr_d (rp_of hM.tame (by decide) (by decide)) S
  rw [← hX] at a1
  have a2 := fun S => r_law_weight (n := m) (by omega) hM.ok S
  have a3 := fun S => r_weight (n := m) (by omega) hM.ok S
  rw [← hc] at a2 a3
  have a4 := fun S => repr_d (d := .list [.int c, .int c]) (rp_of (Tame.list (k := 0) (m := 2) (.cons (a := 0) (b := 1) (tame_int cs) (.cons (a := 0) (b := 0) (tame_int cs) .nil))) (by decide) (by decide)) S
  refine gsw_at rfl rfl rfl (N' := fun ρ S' => ρ = [some (.loc p), some (.d (midD M)), none, none, none, none, none, none, none, none] ∧ S' = S.set p o0) ⟨?_⟩ ?_
  · simp [dSs, dS, dE, dEs, dAnd, dOr, dT, Ev.tAnd, Ev.tOr, dU, dN, dB2, dIf, dVar, dCst, dO, dC, dI, dCall, dKall, pick, entry, isiV, isiV2, isTys, isTy, tobV, truO, truV, okIf, datOf, seqOf, lstOf, datas, lstV, tupV, elsOf, Out.bind_ok, f_law_right, nthS, tgt, e0]
  rintro ρ S' ⟨rfl, rfl⟩
  refine gsw_at rfl rfl rfl (N' := fun ρ S' => ρ = [some (.loc p), some (.d (midD M)), some (.d (.str X)), some (.d (.int c)), none, none, none, none, none, none] ∧ S' = S.set p o0) ⟨?_⟩ ?_
  · simp [dSs, dS, dE, dEs, dAnd, dOr, dT, Ev.tAnd, Ev.tOr, dU, dN, dB2, dIf, dVar, dCst, dO, dC, dI, dCall, dKall, pick, entry, isiV, isiV2, isTys, isTy, tobV, truO, truV, okIf, datOf, seqOf, lstOf, datas, lstV, tupV, elsOf, Out.bind_ok, f_law_right, nthS, tgt, parD, a1, a2]
  rintro ρ S' ⟨rfl, rfl⟩
  refine gsw_at rfl rfl rfl (N' := fun ρ S' => ρ = [some (.loc p), some (.d (midD M)), some (.d (.str X)), some (.d (.int c)), none, none, none, none, none, none] ∧ S' = S.set p o0) ⟨?_⟩ ?_
  · simp [dSs, dS, dE, dEs, dAnd, dOr, dT, Ev.tAnd, Ev.tOr, dU, dN, dB2, dIf, dVar, dCst, dO, dC, dI, dCall, dKall, pick, entry, isiV, isiV2, isTys, isTy, tobV, truO, truV, okIf, datOf, seqOf, lstOf, datas, lstV, tupV, elsOf, Out.bind_ok, f_law_right, nthS, tgt, a3, a4]
  rintro ρ S' ⟨rfl, rfl⟩
  refine gsw_at rfl rfl rfl (N' := fun ρ S' => IRt M X c p S [] ρ S') (gsw_for rfl (w := rngI 0 8) (S1 := S.set p o0) (it_rng1 (k := 8) (by simp [dSs, dS, dE, dEs, dAnd, dOr, dT, Ev.tAnd, Ev.tOr, dU, dN, dB2, dIf, dVar, dCst, dO, dC, dI, dCall, dKall, pick, entry, isiV, isiV2, isTys, isTy, tobV, truO, truV, okIf, datOf, seqOf, lstOf, datas, lstV, tupV, elsOf, Out.bind_ok]) (by omega)) (IRt M X c p S) ?_ ?_ ⟨o0, none, none, none, none, none, rfl, ho0, rfl⟩) ?_
  · rintro v its ρ S' ⟨o, x4, x5, x6, x7, x8, rfl, ho, rfl⟩
    have pa : Pot p (S.set p o) := h.set ho
    obtain ⟨_, _, e1, g, o1, rfl, hg, ht, h1, rfl⟩ := r_law_guard hl 4 m (by omega) pa
    have e1' : sem G T m 37 [.loc p, .d (varsD M.vars), .d (.int 4)] (S.set p o) = .ok (.d g) ((S.set p o).set p o1) := e1
    have pb := pa.set h1
    obtain ⟨_, _, e2, b, o2, rfl, hb, h2, rfl⟩ := r_law_box hM (n := m) (by omega) pb
    simp only [List.set_set] at e1' e2
    have le1 := box_le hM hb
    have rf := rows_few hM hb
    have tg : tests 5 g ≤ 1000 := by
      have q1 : tests 5 g ≤ g.bulk := tests_bulk (d := 5) hg
      have q2 := ht.bulk
      have q3 : gB 4 = 887 := by decide
      omega
    have hzl : (szs M.vars).length ≤ 100 := by rw [List.length_map]; omega
    have hzv : ∀ z ∈ szs M.vars, z ≤ 100 := fun z hz => by
      obtain ⟨v, hv, rfl⟩ := List.mem_map.mp hz
      have := (hM.vars v hv).few
      omega
    obtain ⟨f1, f2, f3, f4, f5⟩ := fold_all hb hzl hzv (d := 5) (by decide) hg tg
    have ht2 : Tame 887 9 g := ht.imp (by decide) (by decide)
    obtain ⟨U, hU⟩ : ∃ U, U = S.set p o2 := ⟨_, rfl⟩
    have b1 := r_law_folded hb 5 g hg (by decide) tg m (by omega) U
    have b2 := repr_d (d := .list [g, boxD b]) (rp_of (Tame.list (k := 9) (m := 919) (.cons (a := 887) (b := 31) ht2 (.cons (a := 30) (b := 0) ((box_tame le1).imp (by decide) (by decide)) .nil))) (by decide) (by decide)) U
    have b3 := r_fold_guard (n := m) (by omega) hM.ok hb (d := 5) (by decide) hg tg U
    obtain ⟨D, hD⟩ : ∃ D, D = fold b 5 g := ⟨_, rfl⟩
    rw [← hD] at b1 b3 f1 f2 f3 f4 f5
    have b4 := repr_d (d := .list [D, D]) (rp_of (Tame.list (k := 10) (m := 48002) (.cons (a := 24000) (b := 24001) f5 (.cons (a := 24000) (b := 0) f5 .nil))) (by decide) (by decide)) U
    have b5 := r_law_all (n := m) (by omega) (b := b) (fun s hs => (le1.1 s hs).1) le1.2 U
    have b6 := r_law_tests 5 g hg m (by omega) U
    have b7 := r_law_tests 5 D f1 m (by omega) U
    have b8 := r_fold_guard (n := m) (by omega) hM.ok hb (d := 5) (by decide) f1 (by omega) U
    rw [f3] at b8
    have cD : Cl 60 D := (g_cl f1).up (by decide)
    have b9 : cmpV .NotEq (.d D) (.d D) U = .ok (.d (.bool false)) U := by
      rw [ne_dd (cD.up (by decide)).sh (cD.up (by decide)).sh, (eqv_sit (gok_sit f1) (gok_sit f1)).mpr rfl]
      rfl
    have nlt : ¬ ((tests 5 g : Nat) : Int) < (tests 5 D : Nat) := by omega
    rw [← hU] at e2
    refine ⟨True.intro, _, rfl, ?_⟩
    simp [dSs, dS, dE, dEs, dAnd, dOr, dT, Ev.tAnd, Ev.tOr, dU, dN, dB2, dIf, dVar, dCst, dO, dC, dI, dCall, dKall, pick, entry, isiV, isiV2, isTys, isTy, tobV, truO, truV, okIf, datOf, seqOf, lstOf, datas, lstV, tupV, elsOf, Out.bind_ok, tgt, setAll, e1', e2, b1, b2, b3, b4, b5]
    refine gets_each (fun r : List Int => Val.d (Ints r)) (fun r => .bool true) (allR b) (n := none) (S := U) (by simp [dSs, dS, dE, dEs, dAnd, dOr, dT, Ev.tAnd, Ev.tOr, dU, dN, dB2, dIf, dVar, dCst, dO, dC, dI, dCall, dKall, pick, entry, isiV, isiV2, isTys, isTy, tobV, truO, truV, okIf, datOf, seqOf, lstOf, datas, lstV, tupV, elsOf, Out.bind_ok, b5, Function.comp_def]) (by simp) (fun r hr => ⟨_, rfl, ?_⟩) (line_of rf) ?_
    · have hin := allR_mem.mp hr
      have q1 := r_law_is_true (InBox.inr hb hin) (.inl rfl) 5 g hg m (by omega) U
      have q2 := r_law_is_true (InBox.inr hb hin) (.inl rfl) 5 D f1 m (by omega) U
      rw [f4 r hin] at q2
      simp [dSs, dS, dE, dEs, dAnd, dOr, dT, Ev.tAnd, Ev.tOr, dU, dN, dB2, dIf, dVar, dCst, dO, dC, dI, dCall, dKall, pick, entry, isiV, isiV2, isTys, isTy, tobV, truO, truV, okIf, datOf, seqOf, lstOf, datas, lstV, tupV, elsOf, Out.bind_ok, wipeD, q1, q2]
    · simp [dSs, dS, dE, dEs, dAnd, dOr, dT, Ev.tAnd, Ev.tOr, dU, dN, dB2, dIf, dVar, dCst, dO, dC, dI, dCall, dKall, pick, entry, isiV, isiV2, isTys, isTy, tobV, truO, truV, okIf, datOf, seqOf, lstOf, datas, lstV, tupV, elsOf, Out.bind_ok, tgt, b6, b7, b8, b9, b2, nlt]
      exact ⟨o2, _, _, _, _, _, rfl, h2, hU⟩
  · intro ρ S' h
    exact ⟨True.intro, h⟩
  rintro ρ S' ⟨o, x4, x5, x6, x7, x8, rfl, ho, rfl⟩
  refine gsw_at rfl rfl rfl (N' := fun _ _ => False) ⟨?_⟩ fun _ _ z => z.elim
  simp [dSs, dS, dE, dEs, dAnd, dOr, dT, Ev.tAnd, Ev.tOr, dU, dN, dB2, dIf, dVar, dCst, dO, dC, dI, dCall, dKall, pick, entry, isiV, isiV2, isTys, isTy, tobV, truO, truV, okIf, datOf, seqOf, lstOf, datas, lstV, tupV, elsOf, Out.bind_ok, f_law_right, nthS, a1]
  exact ⟨o, ho, rfl⟩
end HT
end

section
set_option Elab.async false
set_option linter.all false
set_option maxRecDepth 100000
set_option maxHeartbeats 4000000
namespace HT
open PySem PySem.Spec L2 Ev
/-- the pot that is laid -/
theorem r_pot {n : Nat} (hn : 0 < n) {ns : List Int} {k : Int} (hk : 0 ≤ k) (hk2 : k < 100) {S : Store} :
    Gets (sem G T n 31 [.d (.list (ns.map .int)), .d (.int k)] S) fun v S' => ∃ o, v = .loc S.length ∧ PotO o ∧ S' = S ++ [o] := by
  obtain ⟨n', rfl⟩ : ∃ m, n = m + 1 := ⟨n - 1, by omega⟩
  refine gets_sem t_law_pot rfl ?_
  simp [dSs, dS, dE, dEs, dAnd, dOr, dT, Ev.tAnd, Ev.tOr, dU, dN, dB2, dIf, dVar, dCst, dO, dC, dI, dCall, dKall, pick, entry, isiV, isiV2, isTys, isTy, tobV, truO, truV, okIf, datOf, seqOf, lstOf, datas, lstV, tupV, elsOf, Out.bind_ok, f_law_pot, tgt]
  refine ⟨fun hk3 => ?_, fun hk3 => ?_⟩
  · have hd : k.toNat < ns.length := by omega
    have ea : atI (ns.map PyData.int) k = some (.int ns[k.toNat]) := by
      unfold atI ixN
      rw [if_pos hk, if_pos (by simpa using hk3)]
      simp [hd]
    rw [ea]
    simp [dSs, dS, dE, dEs, dAnd, dOr, dT, Ev.tAnd, Ev.tOr, dU, dN, dB2, dIf, dVar, dCst, dO, dC, dI, dCall, dKall, pick, entry, isiV, isiV2, isTys, isTy, tobV, truO, truV, okIf, datOf, seqOf, lstOf, datas, lstV, tupV, elsOf, Out.bind_ok, back]
    exact pot_o _ k
  · have e1 : cutL ns none (some 1) = ns.take 1 := cut_to ns 1
    simp [dSs, dS, dE, dEs, dAnd, dOr, dT, Ev.tAnd, Ev.tOr, dU, dN, dB2, dIf, dVar, dCst, dO, dC, dI, dCall, dKall, pick, entry, isiV, isiV2, isTys, isTy, tobV, truO, truV, okIf, datOf, seqOf, lstOf, datas, lstV, tupV, elsOf, Out.bind_ok, back, e1]
    exact pot_o _ k
def ILaw (c : Nat) (its : List Val) (acc : List PyData) (_S : Store) : Prop := ∃ k cnt : Nat, k + cnt = c ∧ its = (List.range' k cnt).map (fun (i : Nat) => Val.d (.int (0 + (i : Int)))) ∧ acc = (List.replicate k true).map .bool
theorem r_law {n : Nat} (hn : 29 < n) (ns : List Int) : Gets (sem G T n 50 [.d (.list (ns.map .int))] []) fun v _ => v = .d (.bool true) := by
  obtain ⟨m, rfl⟩ : ∃ m, n = m + 1 := ⟨n - 1, by omega⟩
  refine gets_sem t_law rfl ?_
  simp [dSs, dS, dE, dEs, dAnd, dOr, dT, Ev.tAnd, Ev.tOr, dU, dN, dB2, dIf, dVar, dCst, dO, dC, dCall, dKall, pick, entry, isiV, isiV2, isTys, isTy, tobV, truO, truV, okIf, datOf, seqOf, lstOf, datas, lstV, tupV, elsOf, Out.bind_ok, f_law, tgt]
  refine gets_dLc ⟨rngI 0 2, [], it_rng1 (k := 2) (S1 := []) (by simp [dSs, dS, dE, dEs, dAnd, dOr, dT, Ev.tAnd, Ev.tOr, dU, dN, dB2, dIf, dVar, dCst, dO, dC, dI, dCall, dKall, pick, entry, isiV, isiV2, isTys, isTy, tobV, truO, truV, okIf, datOf, seqOf, lstOf, datas, lstV, tupV, elsOf, Out.bind_ok]) (by decide), ?_⟩
  refine gets_lc (ILaw 2) ?_ ?_ _ _ _ ⟨0, 2, rfl, by simp [rngI, List.range_eq_range'], rfl⟩
  · rintro v its acc S' ⟨k, cnt, hk, e, rfl⟩
    cases cnt with
    | zero => cases e
    | succ cnt =>
      rw [List.range'_succ, List.map_cons] at e
      cases e
      refine ⟨by simp [Itm.ck, rngI], by rw [sizeLine_eq]; simp; omega, _, rfl, ?_⟩
      have z0 : (0 : Int) + (k : Int) = (k : Int) := by omega
      rw [z0]
      obtain ⟨_, _, e1, o, rfl, ho, rfl⟩ := r_pot (n := m) (by omega) (ns := ns) (k := (k : Int)) (by omega) (by omega) (S := S')
      have hp : Pot S'.length (S' ++ [o]) := ⟨o, by simp, ho⟩
      obtain ⟨_, _, e2, o2, rfl, ho2, rfl⟩ := r_law_right (n := m) (by omega) hp
      simp [dSs, dS, dE, dEs, dAnd, dOr, dT, Ev.tAnd, Ev.tOr, dU, dN, dB2, dIf, dVar, dCst, dO, dC, dI, dCall, dKall, pick, entry, isiV, isiV2, isTys, isTy, tobV, truO, truV, okIf, datOf, seqOf, lstOf, datas, lstV, tupV, elsOf, Out.bind_ok, wipeD, e1, e2]
      exact ⟨k + 1, cnt, by omega, by simp, by simp [List.replicate_succ']⟩
  · rintro acc S' ⟨k, cnt, hk, e, rfl⟩
    cases cnt with
    | succ cnt => rw [List.range'_succ, List.map_cons] at e; cases e
    | zero =>
      refine ⟨by simp [Itm.ck, rngI], ?_⟩
      have : k = 2 := by omega
      subst this
      simp [dSs, dS, dE, dEs, dAnd, dOr, dT, Ev.tAnd, Ev.tOr, dU, dN, dB2, dIf, dVar, dCst, dO, dC, dI, dCall, dKall, pick, entry, isiV, isiV2, isTys, isTy, tobV, truO, truV, okIf, datOf, seqOf, lstOf, datas, lstV, tupV, elsOf, Out.bind_ok]
      try rfl
end HT
end

section
set_option Elab.async false
set_option linter.all false
set_option maxRecDepth 100000
set_option maxHeartbeats 0
namespace HT
open PySem PySem.Spec PyProof.Rows L2 Ev
def top (i : Nat) : Stmt := PySem.Challenge.pw_talehouse_k43_whole_folded_guards.main.body.getD i (.Pass ⟨0, 0, 0, 0⟩)
def d_is_integer : Dn := ⟨⟨("is_integer", none), "is_integer", "is_integer", L2.defArgs (top 1), L2.defBody (top 1), L2.defScope (top 1), [], []⟩, ["value"], ["value"], f_is_integer⟩
def d_is_within : Dn := ⟨⟨("is_within", none), "is_within", "is_within", L2.defArgs (top 2), L2.defBody (top 2), L2.defScope (top 2), [], []⟩, ["value", "least", "most"], ["value", "least", "most"], f_is_within⟩
def d_is_tuple : Dn := ⟨⟨("is_tuple", none), "is_tuple", "is_tuple", L2.defArgs (top 3), L2.defBody (top 3), L2.defScope (top 3), [], []⟩, ["value", "many"], ["value", "many"], f_is_tuple⟩
def d_are_rising : Dn := ⟨⟨("are_rising", none), "are_rising", "are_rising", L2.defArgs (top 4), L2.defBody (top 4), L2.defScope (top 4), [], []⟩, ["values"], ["values", "near", "far"], f_are_rising⟩
def d_is_lot_of : Dn := ⟨⟨("is_lot_of", none), "is_lot_of", "is_lot_of", L2.defArgs (top 5), L2.defBody (top 5), L2.defScope (top 5), [], []⟩, ["value", "many"], ["value", "many", "one"], f_is_lot_of⟩
def d_is_box_of : Dn := ⟨⟨("is_box_of", none), "is_box_of", "is_box_of", L2.defArgs (top 12), L2.defBody (top 12), L2.defScope (top 12), [], []⟩, ["middle", "value"], ["middle", "value", "some", "row"], f_is_box_of⟩
def d_truth_in : Dn := ⟨⟨("truth_in", none), "truth_in", "truth_in", L2.defArgs (top 13), L2.defBody (top 13), L2.defScope (top 13), [], []⟩, ["box", "guard"], ["box", "guard", "word", "some", "near", "far", "one", "told"], f_truth_in⟩
def d_is_text : Dn := ⟨⟨("is_text", none), "is_text", "is_text", L2.defArgs (top 23), L2.defBody (top 23), L2.defScope (top 23), [], []⟩, ["value"], ["value", "one"], f_is_text⟩
def d_is_variable : Dn := ⟨⟨("is_variable", none), "is_variable", "is_variable", L2.defArgs (top 24), L2.defBody (top 24), L2.defScope (top 24), [], []⟩, ["value"], ["value", "one"], f_is_variable⟩
def d_are_variables : Dn := ⟨⟨("are_variables", none), "are_variables", "are_variables", L2.defArgs (top 25), L2.defBody (top 25), L2.defScope (top 25), [], []⟩, ["value"], ["value", "one", "labels"], f_are_variables⟩
def d_are_values_of : Dn := ⟨⟨("are_values_of", none), "are_values_of", "are_values_of", L2.defArgs (top 26), L2.defBody (top 26), L2.defScope (top 26), [], []⟩, ["variables", "value"], ["variables", "value", "one", "variable"], f_are_values_of⟩
def d_is_place_in : Dn := ⟨⟨("is_place_in", none), "is_place_in", "is_place_in", L2.defArgs (top 27), L2.defBody (top 27), L2.defScope (top 27), [], []⟩, ["variables", "value"], ["variables", "value"], f_is_place_in⟩
def d_is_value_in : Dn := ⟨⟨("is_value_in", none), "is_value_in", "is_value_in", L2.defArgs (top 28), L2.defBody (top 28), L2.defScope (top 28), [], []⟩, ["variables", "variable", "value"], ["variables", "variable", "value"], f_is_value_in⟩
def d_is_guard_in : Dn := ⟨⟨("is_guard_in", none), "is_guard_in", "is_guard_in", L2.defArgs (top 29), L2.defBody (top 29), L2.defScope (top 29), [], []⟩, ["variables", "value", "deep"], ["variables", "value", "deep", "one"], f_is_guard_in⟩
def d_is_act_in : Dn := ⟨⟨("is_act_in", none), "is_act_in", "is_act_in", L2.defArgs (top 30), L2.defBody (top 30), L2.defScope (top 30), [], []⟩, ["variables", "value"], ["variables", "value"], f_is_act_in⟩
def d_is_say : Dn := ⟨⟨("is_say", none), "is_say", "is_say", L2.defArgs (top 31), L2.defBody (top 31), L2.defScope (top 31), [], []⟩, ["value"], ["value"], f_is_say⟩
def d_are_doings : Dn := ⟨⟨("are_doings", none), "are_doings", "are_doings", L2.defArgs (top 32), L2.defBody (top 32), L2.defScope (top 32), [], []⟩, ["variables", "guard", "acts", "says"], ["variables", "guard", "acts", "says", "one"], f_are_doings⟩
def d_is_table_in : Dn := ⟨⟨("is_table_in", none), "is_table_in", "is_table_in", L2.defArgs (top 33), L2.defBody (top 33), L2.defScope (top 33), [], []⟩, ["variables", "value"], ["variables", "value", "one"], f_is_table_in⟩
def d_is_group_in : Dn := ⟨⟨("is_group_in", none), "is_group_in", "is_group_in", L2.defArgs (top 34), L2.defBody (top 34), L2.defScope (top 34), [], []⟩, ["variables", "value"], ["variables", "value", "one"], f_is_group_in⟩
def d_is_ending_in : Dn := ⟨⟨("is_ending_in", none), "is_ending_in", "is_ending_in", L2.defArgs (top 35), L2.defBody (top 35), L2.defScope (top 35), [], []⟩, ["variables", "value"], ["variables", "value"], f_is_ending_in⟩
def d_is_door_way : Dn := ⟨⟨("is_door_way", none), "is_door_way", "is_door_way", L2.defArgs (top 36), L2.defBody (top 36), L2.defScope (top 36), [], []⟩, ["variables", "value"], ["variables", "value"], f_is_door_way⟩
def d_is_shown_in : Dn := ⟨⟨("is_shown_in", none), "is_shown_in", "is_shown_in", L2.defArgs (top 37), L2.defBody (top 37), L2.defScope (top 37), [], []⟩, ["variables", "value"], ["variables", "value", "rooms", "one"], f_is_shown_in⟩
def d_are_views : Dn := ⟨⟨("are_views", none), "are_views", "are_views", L2.defArgs (top 38), L2.defBody (top 38), L2.defScope (top 38), [], []⟩, ["variables", "value"], ["variables", "value", "rooms", "one", "way"], f_are_views⟩
def d_is_middle_value : Dn := ⟨⟨("is_middle_value", none), "is_middle_value", "is_middle_value", L2.defArgs (top 39), L2.defBody (top 39), L2.defScope (top 39), [], []⟩, ["value"], ["value", "one", "variables"], f_is_middle_value⟩
def d_want_middle : Dn := ⟨⟨("want_middle", none), "want_middle", "want_middle", L2.defArgs (top 40), L2.defBody (top 40), L2.defScope (top 40), [], []⟩, ["middle"], ["middle"], f_want_middle⟩
def d_folded_in : Dn := ⟨⟨("folded_in", none), "folded_in", "folded_in", L2.defArgs (top 44), L2.defBody (top 44), L2.defScope (top 44), [], []⟩, ["box", "guard"], ["box", "guard", "told", "word", "inner", "found", "one", "late", "part"], f_folded_in⟩
def d_folded_same : Dn := ⟨⟨("folded_same", none), "folded_same", "folded_same", L2.defArgs (top 45), L2.defBody (top 45), L2.defScope (top 45), [], []⟩, ["box", "guard"], ["box", "guard", "near", "far"], f_folded_same⟩
def d_weight_of : Dn := ⟨⟨("weight_of", none), "weight_of", "weight_of", L2.defArgs (top 46), L2.defBody (top 46), L2.defScope (top 46), [], []⟩, ["guard"], ["guard", "one"], f_weight_of⟩
def d_want_guard_box : Dn := ⟨⟨("want_guard_box", none), "want_guard_box", "want_guard_box", L2.defArgs (top 47), L2.defBody (top 47), L2.defScope (top 47), [], []⟩, ["middle", "box", "guard"], ["middle", "box", "guard"], f_want_guard_box⟩
def d_fold_guard : Dn := ⟨⟨("fold_guard", none), "fold_guard", "fold_guard", L2.defArgs (top 48), L2.defBody (top 48), L2.defScope (top 48), [], []⟩, ["middle", "box", "guard"], ["middle", "box", "guard"], f_fold_guard⟩
def d_weight : Dn := ⟨⟨("weight", none), "weight", "weight", L2.defArgs (top 49), L2.defBody (top 49), L2.defScope (top 49), [], []⟩, ["middle"], ["middle", "found", "rows", "row", "value", "guard", "says"], f_weight⟩
def d_law_pot : Dn := ⟨⟨("_law_pot", none), "_law_pot", "_law_pot", L2.defArgs (top 51), L2.defBody (top 51), L2.defScope (top 51), [], []⟩, ["script", "k"], ["script", "k", "cell"], f_law_pot⟩
def d_law_draw : Dn := ⟨⟨("_law_draw", none), "_law_draw", "_law_draw", L2.defArgs (top 52), L2.defBody (top 52), L2.defScope (top 52), [], []⟩, ["pot", "many"], ["pot", "many", "digit"], f_law_draw⟩
def d_law_pick : Dn := ⟨⟨("_law_pick", none), "_law_pick", "_law_pick", L2.defArgs (top 53), L2.defBody (top 53), L2.defScope (top 53), [], []⟩, ["pot", "some"], ["pot", "some"], f_law_pick⟩
def d_law_text : Dn := ⟨⟨("_law_text", none), "_law_text", "_law_text", L2.defArgs (top 54), L2.defBody (top 54), L2.defScope (top 54), [], []⟩, ["pot", "signs", "most"], ["pot", "signs", "most", "turn"], f_law_text⟩
def d_law_variables : Dn := ⟨⟨("_law_variables", none), "_law_variables", "_law_variables", L2.defArgs (top 55), L2.defBody (top 55), L2.defScope (top 55), [], []⟩, ["pot"], ["pot", "rooms", "found", "at", "kind", "values"], f_law_variables⟩
def d_law_atom : Dn := ⟨⟨("_law_atom", none), "_law_atom", "_law_atom", L2.defArgs (top 56), L2.defBody (top 56), L2.defScope (top 56), [], []⟩, ["pot", "variables"], ["pot", "variables", "one", "other"], f_law_atom⟩
def d_law_guard : Dn := ⟨⟨("_law_guard", none), "_law_guard", "_law_guard", L2.defArgs (top 57), L2.defBody (top 57), L2.defScope (top 57), [], []⟩, ["pot", "variables", "deep"], ["pot", "variables", "deep", "way", "many", "turn"], f_law_guard⟩
def d_law_acts : Dn := ⟨⟨("_law_acts", none), "_law_acts", "_law_acts", L2.defArgs (top 58), L2.defBody (top 58), L2.defScope (top 58), [], []⟩, ["pot", "variables", "some"], ["pot", "variables", "some", "found", "turn", "one", "other"], f_law_acts⟩
def d_law_says : Dn := ⟨⟨("_law_says", none), "_law_says", "_law_says", L2.defArgs (top 59), L2.defBody (top 59), L2.defScope (top 59), [], []⟩, ["pot"], ["pot", "some", "turn"], f_law_says⟩
def d_law_views : Dn := ⟨⟨("_law_views", none), "_law_views", "_law_views", L2.defArgs (top 60), L2.defBody (top 60), L2.defScope (top 60), [], []⟩, ["pot", "variables"], ["pot", "variables", "rooms", "ways", "shown", "flags", "at", "one", "room", "door", "label", "values", "value"], f_law_views⟩
def d_law_middle : Dn := ⟨⟨("_law_middle", none), "_law_middle", "_law_middle", L2.defArgs (top 61), L2.defBody (top 61), L2.defScope (top 61), [], []⟩, ["pot"], ["pot", "variables", "some", "at", "start", "label", "values", "tables", "deed", "rules", "turn", "ticks", "group", "endings", "value"], f_law_middle⟩
def d_law_is_true : Dn := ⟨⟨("_law_is_true", none), "_law_is_true", "_law_is_true", L2.defArgs (top 62), L2.defBody (top 62), L2.defScope (top 62), [], []⟩, ["values", "guard"], ["values", "guard", "told", "one"], f_law_is_true⟩
def d_law_box : Dn := ⟨⟨("_law_box", none), "_law_box", "_law_box", L2.defArgs (top 63), L2.defBody (top 63), L2.defScope (top 63), [], []⟩, ["pot", "middle"], ["pot", "middle", "found", "label", "values", "some", "at"], f_law_box⟩
def d_law_all : Dn := ⟨⟨("_law_all", none), "_law_all", "_law_all", L2.defArgs (top 64), L2.defBody (top 64), L2.defScope (top 64), [], []⟩, ["box"], ["box", "found", "some", "late", "row", "value"], f_law_all⟩
def d_law_told : Dn := ⟨⟨("_law_told", none), "_law_told", "_law_told", L2.defArgs (top 65), L2.defBody (top 65), L2.defScope (top 65), [], []⟩, ["box", "guard"], ["box", "guard", "both", "value", "told", "some", "due", "one"], f_law_told⟩
def d_law_folded : Dn := ⟨⟨("_law_folded", none), "_law_folded", "_law_folded", L2.defArgs (top 66), L2.defBody (top 66), L2.defScope (top 66), [], []⟩, ["box", "guard"], ["box", "guard", "told", "near", "far", "inner", "parts", "one", "late", "part"], f_law_folded⟩
def d_law_tests : Dn := ⟨⟨("_law_tests", none), "_law_tests", "_law_tests", L2.defArgs (top 67), L2.defBody (top 67), L2.defScope (top 67), [], []⟩, ["guard"], ["guard", "one"], f_law_tests⟩
def d_law_weight : Dn := ⟨⟨("_law_weight", none), "_law_weight", "_law_weight", L2.defArgs (top 68), L2.defBody (top 68), L2.defScope (top 68), [], []⟩, ["middle"], ["middle", "found", "rules", "rule", "value", "guard", "says"], f_law_weight⟩
def d_law_right : Dn := ⟨⟨("_law_right", none), "_law_right", "_law_right", L2.defArgs (top 69), L2.defBody (top 69), L2.defScope (top 69), [], []⟩, ["pot"], ["pot", "middle", "shown", "heavy", "turn", "guard", "box", "due", "looks", "values"], f_law_right⟩
def d_law : Dn := ⟨⟨("law", none), "law", "law", L2.defArgs (top 70), L2.defBody (top 70), L2.defScope (top 70), [], []⟩, ["script"], ["script", "k"], f_law⟩
def P : Pd := ⟨[d_is_integer, d_is_within, d_is_tuple, d_are_rising, d_is_lot_of, d_is_box_of, d_truth_in, d_is_text, d_is_variable, d_are_variables, d_are_values_of, d_is_place_in, d_is_value_in, d_is_guard_in, d_is_act_in, d_is_say, d_are_doings, d_is_table_in, d_is_group_in, d_is_ending_in, d_is_door_way, d_is_shown_in, d_are_views, d_is_middle_value, d_want_middle, d_folded_in, d_folded_same, d_weight_of, d_want_guard_box, d_fold_guard, d_weight, d_law_pot, d_law_draw, d_law_pick, d_law_text, d_law_variables, d_law_atom, d_law_guard, d_law_acts, d_law_says, d_law_views, d_law_middle, d_law_is_true, d_law_box, d_law_all, d_law_told, d_law_folded, d_law_tests, d_law_weight, d_law_right, d_law], [("ALL", (.str "all")), ("NOT", (.str "not")), ("SAME", (.str "same")), ("IS", (.str "is")), ("MOST_TEXT", (.int 200)), ("MOST_DEEP", (.int 14)), ("WAYS", (.tuple [(.str "north"), (.str "south"), (.str "east"), (.str "west"), (.str "up"), (.str "down")])), ("ALWAYS", (.tuple [(.str "all"), (.tuple [])])), ("NEVER", (.tuple [(.str "any"), (.tuple [])]))], ["isinstance", "bool", "int", "len", "tuple", "all", "zip", "any", "str", "set", "sum", "list", "max", "abs", "divmod", "range", "enumerate", "repr"], [(29, 0, ["guard", "box", "middle"], [2, 1, 0]), (30, 0, ["middle"], [0])]⟩
/-! ### the check -/
theorem k_is_integer : Pd.okD P.pg d_is_integer = true := by decide +kernel
theorem k_is_within : Pd.okD P.pg d_is_within = true := by decide +kernel
theorem k_is_tuple : Pd.okD P.pg d_is_tuple = true := by decide +kernel
theorem k_are_rising : Pd.okD P.pg d_are_rising = true := by decide +kernel
theorem k_is_lot_of : Pd.okD P.pg d_is_lot_of = true := by decide +kernel
theorem k_is_box_of : Pd.okD P.pg d_is_box_of = true := by decide +kernel
theorem k_truth_in : Pd.okD P.pg d_truth_in = true := by decide +kernel
theorem k_is_text : Pd.okD P.pg d_is_text = true := by decide +kernel
theorem k_is_variable : Pd.okD P.pg d_is_variable = true := by decide +kernel
theorem k_are_variables : Pd.okD P.pg d_are_variables = true := by decide +kernel
theorem k_are_values_of : Pd.okD P.pg d_are_values_of = true := by decide +kernel
theorem k_is_place_in : Pd.okD P.pg d_is_place_in = true := by decide +kernel
theorem k_is_value_in : Pd.okD P.pg d_is_value_in = true := by decide +kernel
theorem k_is_guard_in : Pd.okD P.pg d_is_guard_in = true := by decide +kernel
theorem k_is_act_in : Pd.okD P.pg d_is_act_in = true := by decide +kernel
theorem k_is_say : Pd.okD P.pg d_is_say = true := by decide +kernel
theorem k_are_doings : Pd.okD P.pg d_are_doings = true := by decide +kernel
theorem k_is_table_in : Pd.okD P.pg d_is_table_in = true := by decide +kernel
theorem k_is_group_in : Pd.okD P.pg d_is_group_in = true := by decide +kernel
theorem k_is_ending_in : Pd.okD P.pg d_is_ending_in = true := by decide +kernel
theorem k_is_door_way : Pd.okD P.pg d_is_door_way = true := by decide +kernel
theorem k_is_shown_in : Pd.okD P.pg d_is_shown_in = true := by decide +kernel
theorem k_are_views : Pd.okD P.pg d_are_views = true := by decide +kernel
theorem k_is_middle_value : Pd.okD P.pg d_is_middle_value = true := by decide +kernel
theorem k_want_middle : Pd.okD P.pg d_want_middle = true := by decide +kernel
theorem k_folded_in : Pd.okD P.pg d_folded_in = true := by decide +kernel
theorem k_folded_same : Pd.okD P.pg d_folded_same = true := by decide +kernel
theorem k_weight_of : Pd.okD P.pg d_weight_of = true := by decide +kernel
theorem k_want_guard_box : Pd.okD P.pg d_want_guard_box = true := by decide +kernel
theorem k_fold_guard : Pd.okD P.pg d_fold_guard = true := by decide +kernel
theorem k_weight : Pd.okD P.pg d_weight = true := by decide +kernel
theorem k_law_pot : Pd.okD P.pg d_law_pot = true := by decide +kernel
theorem k_law_draw : Pd.okD P.pg d_law_draw = true := by decide +kernel
theorem k_law_pick : Pd.okD P.pg d_law_pick = true := by decide +kernel
theorem k_law_text : Pd.okD P.pg d_law_text = true := by decide +kernel
theorem k_law_variables : Pd.okD P.pg d_law_variables = true := by decide +kernel
theorem k_law_atom : Pd.okD P.pg d_law_atom = true := by decide +kernel
theorem k_law_guard : Pd.okD P.pg d_law_guard = true := by decide +kernel
theorem k_law_acts : Pd.okD P.pg d_law_acts = true := by decide +kernel
theorem k_law_says : Pd.okD P.pg d_law_says = true := by decide +kernel
theorem k_law_views : Pd.okD P.pg d_law_views = true := by decide +kernel
theorem k_law_middle : Pd.okD P.pg d_law_middle = true := by decide +kernel
theorem k_law_is_true : Pd.okD P.pg d_law_is_true = true := by decide +kernel
theorem k_law_box : Pd.okD P.pg d_law_box = true := by decide +kernel
theorem k_law_all : Pd.okD P.pg d_law_all = true := by decide +kernel
theorem k_law_told : Pd.okD P.pg d_law_told = true := by decide +kernel
theorem k_law_folded : Pd.okD P.pg d_law_folded = true := by decide +kernel
theorem k_law_tests : Pd.okD P.pg d_law_tests = true := by decide +kernel
theorem k_law_weight : Pd.okD P.pg d_law_weight = true := by decide +kernel
theorem k_law_right : Pd.okD P.pg d_law_right = true := by decide +kernel
theorem k_law : Pd.okD P.pg d_law = true := by decide +kernel
theorem b_is_integer : BnOk d_is_integer := fun _ _ _ _ _ _ us hl => match us, hl with | [_], _ => rfl
theorem b_is_within : BnOk d_is_within := fun _ _ _ _ _ _ us hl => match us, hl with | [_, _, _], _ => rfl
theorem b_is_tuple : BnOk d_is_tuple := fun _ _ _ _ _ _ us hl => match us, hl with | [_, _], _ => rfl
theorem b_are_rising : BnOk d_are_rising := fun _ _ _ _ _ _ us hl => match us, hl with | [_], _ => rfl
theorem b_is_lot_of : BnOk d_is_lot_of := fun _ _ _ _ _ _ us hl => match us, hl with | [_, _], _ => rfl
theorem b_is_box_of : BnOk d_is_box_of := fun _ _ _ _ _ _ us hl => match us, hl with | [_, _], _ => rfl
theorem b_truth_in : BnOk d_truth_in := fun _ _ _ _ _ _ us hl => match us, hl with | [_, _], _ => rfl
theorem b_is_text : BnOk d_is_text := fun _ _ _ _ _ _ us hl => match us, hl with | [_], _ => rfl
theorem b_is_variable : BnOk d_is_variable := fun _ _ _ _ _ _ us hl => match us, hl with | [_], _ => rfl
theorem b_are_variables : BnOk d_are_variables := fun _ _ _ _ _ _ us hl => match us, hl with | [_], _ => rfl
theorem b_are_values_of : BnOk d_are_values_of := fun _ _ _ _ _ _ us hl => match us, hl with | [_, _], _ => rfl
theorem b_is_place_in : BnOk d_is_place_in := fun _ _ _ _ _ _ us hl => match us, hl with | [_, _], _ => rfl
theorem b_is_value_in : BnOk d_is_value_in := fun _ _ _ _ _ _ us hl => match us, hl with | [_, _, _], _ => rfl
theorem b_is_guard_in : BnOk d_is_guard_in := fun _ _ _ _ _ _ us hl => match us, hl with | [_, _, _], _ => rfl
theorem b_is_act_in : BnOk d_is_act_in := fun _ _ _ _ _ _ us hl => match us, hl with | [_, _], _ => rfl
theorem b_is_say : BnOk d_is_say := fun _ _ _ _ _ _ us hl => match us, hl with | [_], _ => rfl
theorem b_are_doings : BnOk d_are_doings := fun _ _ _ _ _ _ us hl => match us, hl with | [_, _, _, _], _ => rfl
theorem b_is_table_in : BnOk d_is_table_in := fun _ _ _ _ _ _ us hl => match us, hl with | [_, _], _ => rfl
theorem b_is_group_in : BnOk d_is_group_in := fun _ _ _ _ _ _ us hl => match us, hl with | [_, _], _ => rfl
theorem b_is_ending_in : BnOk d_is_ending_in := fun _ _ _ _ _ _ us hl => match us, hl with | [_, _], _ => rfl
theorem b_is_door_way : BnOk d_is_door_way := fun _ _ _ _ _ _ us hl => match us, hl with | [_, _], _ => rfl
theorem b_is_shown_in : BnOk d_is_shown_in := fun _ _ _ _ _ _ us hl => match us, hl with | [_, _], _ => rfl
theorem b_are_views : BnOk d_are_views := fun _ _ _ _ _ _ us hl => match us, hl with | [_, _], _ => rfl
theorem b_is_middle_value : BnOk d_is_middle_value := fun _ _ _ _ _ _ us hl => match us, hl with | [_], _ => rfl
theorem b_want_middle : BnOk d_want_middle := fun _ _ _ _ _ _ us hl => match us, hl with | [_], _ => rfl
theorem b_folded_in : BnOk d_folded_in := fun _ _ _ _ _ _ us hl => match us, hl with | [_, _], _ => rfl
theorem b_folded_same : BnOk d_folded_same := fun _ _ _ _ _ _ us hl => match us, hl with | [_, _], _ => rfl
theorem b_weight_of : BnOk d_weight_of := fun _ _ _ _ _ _ us hl => match us, hl with | [_], _ => rfl
theorem b_want_guard_box : BnOk d_want_guard_box := fun _ _ _ _ _ _ us hl => match us, hl with | [_, _, _], _ => rfl
theorem b_fold_guard : BnOk d_fold_guard := fun _ _ _ _ _ _ us hl => match us, hl with | [_, _, _], _ => rfl
theorem b_weight : BnOk d_weight := fun _ _ _ _ _ _ us hl => match us, hl with | [_], _ => rfl
theorem b_law_pot : BnOk d_law_pot := fun _ _ _ _ _ _ us hl => match us, hl with | [_, _], _ => rfl
theorem b_law_draw : BnOk d_law_draw := fun _ _ _ _ _ _ us hl => match us, hl with | [_, _], _ => rfl
theorem b_law_pick : BnOk d_law_pick := fun _ _ _ _ _ _ us hl => match us, hl with | [_, _], _ => rfl
theorem b_law_text : BnOk d_law_text := fun _ _ _ _ _ _ us hl => match us, hl with | [_, _, _], _ => rfl
theorem b_law_variables : BnOk d_law_variables := fun _ _ _ _ _ _ us hl => match us, hl with | [_], _ => rfl
theorem b_law_atom : BnOk d_law_atom := fun _ _ _ _ _ _ us hl => match us, hl with | [_, _], _ => rfl
theorem b_law_guard : BnOk d_law_guard := fun _ _ _ _ _ _ us hl => match us, hl with | [_, _, _], _ => rfl
theorem b_law_acts : BnOk d_law_acts := fun _ _ _ _ _ _ us hl => match us, hl with | [_, _, _], _ => rfl
theorem b_law_says : BnOk d_law_says := fun _ _ _ _ _ _ us hl => match us, hl with | [_], _ => rfl
theorem b_law_views : BnOk d_law_views := fun _ _ _ _ _ _ us hl => match us, hl with | [_, _], _ => rfl
theorem b_law_middle : BnOk d_law_middle := fun _ _ _ _ _ _ us hl => match us, hl with | [_], _ => rfl
theorem b_law_is_true : BnOk d_law_is_true := fun _ _ _ _ _ _ us hl => match us, hl with | [_, _], _ => rfl
theorem b_law_box : BnOk d_law_box := fun _ _ _ _ _ _ us hl => match us, hl with | [_, _], _ => rfl
theorem b_law_all : BnOk d_law_all := fun _ _ _ _ _ _ us hl => match us, hl with | [_], _ => rfl
theorem b_law_told : BnOk d_law_told := fun _ _ _ _ _ _ us hl => match us, hl with | [_, _], _ => rfl
theorem b_law_folded : BnOk d_law_folded := fun _ _ _ _ _ _ us hl => match us, hl with | [_, _], _ => rfl
theorem b_law_tests : BnOk d_law_tests := fun _ _ _ _ _ _ us hl => match us, hl with | [_], _ => rfl
theorem b_law_weight : BnOk d_law_weight := fun _ _ _ _ _ _ us hl => match us, hl with | [_], _ => rfl
theorem b_law_right : BnOk d_law_right := fun _ _ _ _ _ _ us hl => match us, hl with | [_], _ => rfl
theorem b_law : BnOk d_law := fun _ _ _ _ _ _ us hl => match us, hl with | [_], _ => rfl
theorem w_0 : KwOk d_fold_guard 0 ["guard", "box", "middle"] [2, 1, 0] := fun _ _ _ _ _ _ us ws h1 h2 => match us, ws, h1, h2 with | [], [_, _, _], _, _ => ⟨_, rfl, rfl⟩
theorem w_1 : KwOk d_weight 0 ["middle"] [0] := fun _ _ _ _ _ _ us ws h1 h2 => match us, ws, h1, h2 with | [], [_], _, _ => ⟨_, rfl, rfl⟩
theorem okP : P.Ok where
  ok := by
    intro d m
    have m : d ∈ [d_is_integer, d_is_within, d_is_tuple, d_are_rising, d_is_lot_of, d_is_box_of, d_truth_in, d_is_text, d_is_variable, d_are_variables, d_are_values_of, d_is_place_in, d_is_value_in, d_is_guard_in, d_is_act_in, d_is_say, d_are_doings, d_is_table_in, d_is_group_in, d_is_ending_in, d_is_door_way, d_is_shown_in, d_are_views, d_is_middle_value, d_want_middle, d_folded_in, d_folded_same, d_weight_of, d_want_guard_box, d_fold_guard, d_weight, d_law_pot, d_law_draw, d_law_pick, d_law_text, d_law_variables, d_law_atom, d_law_guard, d_law_acts, d_law_says, d_law_views, d_law_middle, d_law_is_true, d_law_box, d_law_all, d_law_told, d_law_folded, d_law_tests, d_law_weight, d_law_right, d_law] := m
    simp only [List.mem_cons, List.not_mem_nil, or_false] at m
    rcases m with rfl | rfl | rfl | rfl | rfl | rfl | rfl | rfl | rfl | rfl | rfl | rfl | rfl | rfl | rfl | rfl | rfl | rfl | rfl | rfl | rfl | rfl | rfl | rfl | rfl | rfl | rfl | rfl | rfl | rfl | rfl | rfl | rfl | rfl | rfl | rfl | rfl | rfl | rfl | rfl | rfl | rfl | rfl | rfl | rfl | rfl | rfl | rfl | rfl | rfl | rfl
    · exact k_is_integer
    · exact k_is_within
    · exact k_is_tuple
    · exact k_are_rising
    · exact k_is_lot_of
    · exact k_is_box_of
    · exact k_truth_in
    · exact k_is_text
    · exact k_is_variable
    · exact k_are_variables
    · exact k_are_values_of
    · exact k_is_place_in
    · exact k_is_value_in
    · exact k_is_guard_in
    · exact k_is_act_in
    · exact k_is_say
    · exact k_are_doings
    · exact k_is_table_in
    · exact k_is_group_in
    · exact k_is_ending_in
    · exact k_is_door_way
    · exact k_is_shown_in
    · exact k_are_views
    · exact k_is_middle_value
    · exact k_want_middle
    · exact k_folded_in
    · exact k_folded_same
    · exact k_weight_of
    · exact k_want_guard_box
    · exact k_fold_guard
    · exact k_weight
    · exact k_law_pot
    · exact k_law_draw
    · exact k_law_pick
    · exact k_law_text
    · exact k_law_variables
    · exact k_law_atom
    · exact k_law_guard
    · exact k_law_acts
    · exact k_law_says
    · exact k_law_views
    · exact k_law_middle
    · exact k_law_is_true
    · exact k_law_box
    · exact k_law_all
    · exact k_law_told
    · exact k_law_folded
    · exact k_law_tests
    · exact k_law_weight
    · exact k_law_right
    · exact k_law
  bn := ⟨b_is_integer, b_is_within, b_is_tuple, b_are_rising, b_is_lot_of, b_is_box_of, b_truth_in, b_is_text, b_is_variable, b_are_variables, b_are_values_of, b_is_place_in, b_is_value_in, b_is_guard_in, b_is_act_in, b_is_say, b_are_doings, b_is_table_in, b_is_group_in, b_is_ending_in, b_is_door_way, b_is_shown_in, b_are_views, b_is_middle_value, b_want_middle, b_folded_in, b_folded_same, b_weight_of, b_want_guard_box, b_fold_guard, b_weight, b_law_pot, b_law_draw, b_law_pick, b_law_text, b_law_variables, b_law_atom, b_law_guard, b_law_acts, b_law_says, b_law_views, b_law_middle, b_law_is_true, b_law_box, b_law_all, b_law_told, b_law_folded, b_law_tests, b_law_weight, b_law_right, b_law, True.intro⟩
  kw := ⟨w_0, w_1, True.intro⟩
/-! ### the head -/
def lo0 : List PySem.Str := ["is_integer", "is_within", "is_tuple", "are_rising", "is_lot_of", "IS", "SAME", "NOT", "ALL", "ANY", "is_box_of", "truth_in", "TaleError", "InvalidBox", "InvalidGuard", "InvalidMiddle", "WAYS", "MOST_DEEP", "MOST_TEXT", "is_text", "is_variable", "are_variables", "are_values_of", "is_place_in", "is_value_in", "is_guard_in", "is_act_in", "is_say", "are_doings", "is_table_in"]
def lo1 : List PySem.Str := ["is_group_in", "is_ending_in", "is_door_way", "is_shown_in", "are_views", "is_middle_value", "want_middle", "ALWAYS", "NEVER", "folded_in", "folded_same", "weight_of", "want_guard_box", "fold_guard", "weight", "_law_pot", "_law_draw", "_law_pick", "_law_text", "_law_variables", "_law_atom", "_law_guard", "_law_acts", "_law_says", "_law_views", "_law_middle", "_law_is_true", "_law_box", "_law_all", "_law_told"]
def lo2 : List PySem.Str := ["_law_folded", "_law_tests", "_law_weight", "_law_right"]
def loose : List PySem.Str := lo0 ++ lo1 ++ lo2
abbrev R : PySem.W.OpenRow := PySem.W.OpenLaw.row PySem.Challenge.rw_talehouse_k43_whole_folded_guards
abbrev hk : PySem.W.Hook := hookV 4 P.fn P.ex
def ob (s : PySem.W.SharedT) : AlV := obsV 4 P.fn P.ex (HandSHeadRun.getT s)
theorem ob_eq (s : PySem.W.SharedT) : ob s = hk.obs s.abs := obsV_eq (HandSHeadRun.getT_eq s)
theorem run (w : World) : HandSHeadRun.RunEq R (PySem.W.view R.prog [70]) hk ob 3000 loose w := by
  intro os
  kernel_rfl
def DEPTH : Nat := 60
end HT
end

section
namespace HT
open PySem PySem.Spec L2 Ev
theorem sound : ∀ ns : List Int, ns.length ≤ 63 → ∃ S', sem P.Gd P.T DEPTH 50 [.d (.list (ns.map .int))] [] = .ok (.d (.bool true)) S' := by
  intro ns _
  obtain ⟨v, S', e, rfl⟩ := r_law (n := DEPTH) (by decide) ns
  exact ⟨S', e⟩
end HT
end

section
set_option Elab.async false
set_option linter.all false
set_option maxRecDepth 100000
set_option maxHeartbeats 0
open PySem PySem.W PySem.Calls PyProof.Rows in
theorem PySem.Challenge.cw_talehouse_k43_whole_folded_guards_holds : PySem.Challenge.rw_talehouse_k43_whole_folded_guards.Holds := by
  w_on; o_law
  refine HandSHeadRun.head_any (r := OpenLaw.row PySem.Challenge.rw_talehouse_k43_whole_folded_guards) (q := view (OpenLaw.row PySem.Challenge.rw_talehouse_k43_whole_folded_guards).prog [70]) (H := HT.hk) (ob := HT.ob) (M := 3000) (loose := HT.loose) (d := HandSHeadRun.topDef (OpenLaw.row PySem.Challenge.rw_talehouse_k43_whole_folded_guards).prog 70) (kwd := []) HT.ob_eq
    (by kernel_rfl) (fun s => by kernel_rfl) HT.run (by kernel_rfl) (by kernel_rfl) (by kernel_rfl) (by rfl) (by first | assumption | decide +kernel) (by decide +kernel) ⟨rfl, rfl, rfl, rfl, rfl, by decide +kernel⟩ ?hw ?hc
  case hw => w_witness2
  case hc => exact Ev.Pd.walk (k := 50) (m := HT.DEPTH) (x := "script") (dn := HT.d_law) HT.okP rfl (by decide) (by kernel_rfl) ⟨rfl, by decide, by decide⟩ rfl rfl (by kernel_rfl) HT.sound
end
