import PyProof.Rows.All
import Wide.All
import OpenK.AllK
import Wide.FinOn
import KE.KStateDown
import HandS.ForMost
import HandS.Exc
import HandS.ExcOwn
import HandS.WordsExc
import HandS.Defaults
import HandS.StrMore
import HandS.StrSplit
import HandS.Replace
import HandS.TupAny
import HandS.TupMul
import HandS.Deep
import HandS.IsInst
import HandS.Style
import HandS.Zip
import KE.GoesEnum
import KE.KDictList
import HandS.Strs
import HandS.FStr
import HandS.SetFor
import HandS.Codes
import HandS.Head0
import HandS.Head1
import HandS.Head2
import HandS.HeadEnd
import HandS.HeadHook1
import HandS.HeadHook2
import PySem.Challenge.RW_talehouse_k82_whole_rows_and_sums
section
set_option Elab.async false
set_option linter.all false
set_option maxRecDepth 100000
set_option maxHeartbeats 4000000
/-! E1: data, values, stores, the relation to the abstract heap, outcomes, readings -/
namespace Ev
open PySem PySem.Spec L2

/-! ### data on the heap -/
mutual
inductive Da (K : PySem.W.Frag) (F : Hp) : V → PyData → Prop
  | non : Da K F .non .none
  | bl (b : Bool) : Da K F (.bl b) (.bool b)
  | int (i : Int) : Da K F (.int i) (.int i)
  | str (x : Str) : Da K F (.str x) (.str x)
  | lst {a : Addr} {xs : List V} {ds : List PyData} : Rd F a (.lst xs) → DaAll K F xs ds → Da K F (.ref a) (.list ds)
  | tup {a : Addr} {xs : List V} {ds : List PyData} : SqT K F a xs → DaAll K F xs ds → Da K F (.ref a) (.tuple ds)
  | dct {a : Addr} : F a = some (.dK []) → Da K F (.ref a) (.dict [])
inductive DaAll (K : PySem.W.Frag) (F : Hp) : List V → List PyData → Prop
  | nil : DaAll K F [] []
  | cons {v : V} {vs : List V} {d : PyData} {ds : List PyData} : Da K F v d → DaAll K F vs ds → DaAll K F (v :: vs) (d :: ds)
end
theorem SqL.sub {K : PySem.W.Frag} {F G : Hp} {a : Addr} {xs : List V} (e : ∀ b o, F b = some o → G b = some o) (h : SqL K F a xs) : SqL K G a xs := by
  rcases h with (h | ⟨o, h⟩) | h
  · exact .inl (.inl (e _ _ h))
  · exact .inl (.inr ⟨o, e _ _ h⟩)
  · exact .inr h
theorem Rd.sub {F G : Hp} {a : Addr} {u : HO} (e : ∀ b o, F b = some o → G b = some o) (h : Rd F a u) : Rd G a u := by
  rcases h with h | ⟨o, h⟩
  · exact .inl (e _ _ h)
  · exact .inr ⟨o, e _ _ h⟩
theorem SqT.sub {K : PySem.W.Frag} {F G : Hp} {a : Addr} {xs : List V} (e : ∀ b o, F b = some o → G b = some o) (h : SqT K F a xs) : SqT K G a xs := by
  rcases h with (h | ⟨o, h⟩) | h
  · exact .inl (.inl (e _ _ h))
  · exact .inl (.inr ⟨o, e _ _ h⟩)
  · exact .inr h
mutual
theorem Da.sub {K : PySem.W.Frag} {F G : Hp} (e : ∀ b o, F b = some o → G b = some o) : ∀ {v : V} {d : PyData}, Da K F v d → Da K G v d
  | _, _, .non => .non
  | _, _, .bl b => .bl b
  | _, _, .int b => .int b
  | _, _, .str b => .str b
  | _, _, .lst h t => .lst (Rd.sub e h) (DaAll.sub e t)
  | _, _, .tup h t => .tup (SqT.sub e h) (DaAll.sub e t)
  | _, _, .dct h => .dct (e _ _ h)
theorem DaAll.sub {K : PySem.W.Frag} {F G : Hp} (e : ∀ b o, F b = some o → G b = some o) : ∀ {v : List V} {d : List PyData}, DaAll K F v d → DaAll K G v d
  | _, _, .nil => .nil
  | _, _, .cons h t => .cons (Da.sub e h) (DaAll.sub e t)
end
theorem DaAll.len {K : PySem.W.Frag} {F : Hp} : ∀ {v : List V} {d : List PyData}, DaAll K F v d → v.length = d.length
  | _, _, .nil => rfl
  | _, _, .cons _ t => congrArg Nat.succ (DaAll.len t)
theorem DaAll.get {K : PySem.W.Frag} {F : Hp} : ∀ {v : List V} {d : List PyData} {i : Nat} {x : PyData}, DaAll K F v d → d[i]? = some x → ∃ y, v[i]? = some y ∧ Da K F y x
  | _, _, _, _, .nil, e => by simp at e
  | _, _, 0, x, .cons h _, e => by simp at e; subst e; exact ⟨_, rfl, h⟩
  | _, _, i + 1, x, .cons _ t, e => by
    obtain ⟨y, h1, h2⟩ := DaAll.get (i := i) (x := x) t (by simpa using e)
    exact ⟨y, by simpa using h1, h2⟩
theorem DaAll.getV {K : PySem.W.Frag} {F : Hp} : ∀ {v : List V} {d : List PyData} {i : Nat} {y : V}, DaAll K F v d → v[i]? = some y → ∃ x, d[i]? = some x ∧ Da K F y x
  | _, _, _, _, .nil, e => by simp at e
  | _, _, 0, x, .cons h _, e => by simp at e; subst e; exact ⟨_, rfl, h⟩
  | _, _, i + 1, x, .cons _ t, e => by
    obtain ⟨y, h1, h2⟩ := DaAll.getV (i := i) (y := x) t (by simpa using e)
    exact ⟨y, by simpa using h1, h2⟩
theorem DaAll.append {K : PySem.W.Frag} {F : Hp} : ∀ {v w : List V} {d e : List PyData}, DaAll K F v d → DaAll K F w e → DaAll K F (v ++ w) (d ++ e)
  | _, _, _, _, .nil, h => h
  | _, _, _, _, .cons a t, h => .cons a (DaAll.append t h)
theorem DaAll.one {K : PySem.W.Frag} {F : Hp} {v : V} {d : PyData} (h : Da K F v d) : DaAll K F [v] [d] := .cons h .nil
theorem DaAll.set {K : PySem.W.Frag} {F : Hp} {y : V} {x : PyData} (h : Da K F y x) : ∀ {v : List V} {d : List PyData} (i : Nat), DaAll K F v d → DaAll K F (v.set i y) (d.set i x)
  | _, _, _, .nil => .nil
  | _, _, 0, .cons _ t => .cons h t
  | _, _, i + 1, .cons a t => .cons a (DaAll.set h i t)
theorem DaAll.drop {K : PySem.W.Frag} {F : Hp} : ∀ {v : List V} {d : List PyData} (n : Nat), DaAll K F v d → DaAll K F (v.drop n) (d.drop n)
  | _, _, 0, h => h
  | _, _, _ + 1, .nil => .nil
  | _, _, n + 1, .cons _ t => DaAll.drop n t
theorem DaAll.take {K : PySem.W.Frag} {F : Hp} : ∀ {v : List V} {d : List PyData} (n : Nat), DaAll K F v d → DaAll K F (v.take n) (d.take n)
  | _, _, 0, h => by simp; exact .nil
  | _, _, _ + 1, .nil => .nil
  | _, _, n + 1, .cons h t => .cons h (DaAll.take n t)
theorem DaAll.reverse {K : PySem.W.Frag} {F : Hp} : ∀ {v : List V} {d : List PyData}, DaAll K F v d → DaAll K F v.reverse d.reverse
  | _, _, .nil => .nil
  | _, _, .cons h t => by rw [List.reverse_cons, List.reverse_cons]; exact (DaAll.reverse t).append (.one h)

/-! ### values, objects, outcomes -/
/-- what stands in a tuple or a list that holds lists which are still written -/
inductive El where
  | d (x : PyData) | loc (n : Nat)
inductive Val where
  | d (x : PyData) | loc (n : Nat) | fn (g : Nat) | tp (es : List El) | ls (es : List El)
def El.val : El → Val
  | .d x => .d x
  | .loc n => .loc n
inductive Ob where
  | lst (xs : List PyData)
abbrev Store := List Ob
structure Exn where
  cls : Nat
  val : PyData
inductive Out (α : Type) where
  | ok (a : α) (S : Store) | err (e : Exn) (S : Store) | stuck
def Out.bind {α β : Type} (o : Out α) (φ : α → Store → Out β) : Out β := match o with
  | .ok a S => φ a S
  | .err e S => .err e S
  | .stuck => .stuck
abbrev EnvD := List (Option Val)
abbrev TD (α : Type) := EnvD → Store → Out α
inductive SOut where
  | next (ρ : EnvD) (S : Store) | ret (v : Val) (S : Store) | brk (ρ : EnvD) (S : Store) | cont (ρ : EnvD) (S : Store) | err (e : Exn) (ρ : EnvD) (S : Store) | stuck
abbrev SD := EnvD → Store → SOut
@[simp] theorem Out.bind_ok {α β : Type} (a : α) (S : Store) (φ : α → Store → Out β) : (Out.ok a S).bind φ = φ a S := rfl
@[simp] theorem Out.bind_err {α β : Type} (e : Exn) (S : Store) (φ : α → Store → Out β) : (Out.err e S).bind φ = .err e S := rfl
@[simp] theorem Out.bind_stuck {α β : Type} (φ : α → Store → Out β) : (Out.stuck : Out α).bind φ = .stuck := rfl

/-- what is fixed: the written part, where defs and classes stand -/
structure Gc where
  K : PySem.W.Frag
  ad : Nat → Addr
  ca : Nat → Addr
def ElR (g : Gc) (F : Hp) (f : List Addr) : V → El → Prop
  | x, .d y => Da g.K F x y
  | x, .loc n => ∃ a : Addr, f[n]? = some a ∧ x = .ref a
inductive ElRs (g : Gc) (F : Hp) (f : List Addr) : List V → List El → Prop
  | nil : ElRs g F f [] []
  | cons {x : V} {v : El} {xs : List V} {vs : List El} : ElR g F f x v → ElRs g F f xs vs → ElRs g F f (x :: xs) (v :: vs)
def VR (g : Gc) (F : Hp) (f : List Addr) : V → Val → Prop
  | x, .d y => Da g.K F x y
  | x, .loc n => ∃ a : Addr, f[n]? = some a ∧ x = .ref a
  | x, .fn k => x = .ref (g.ad k)
  | x, .tp es => ∃ (a : Addr) (xs : List V), x = .ref a ∧ SqT g.K F a xs ∧ ElRs g F f xs es
  | x, .ls es => ∃ (a : Addr) (xs : List V), x = .ref a ∧ Rd F a (.lst xs) ∧ ElRs g F f xs es
theorem ElR.vr {g : Gc} {F : Hp} {f : List Addr} {x : V} {v : El} (h : ElR g F f x v) : VR g F f x v.val := by
  cases v <;> exact h
theorem ElRs.len {g : Gc} {F : Hp} {f : List Addr} : ∀ {xs : List V} {vs : List El}, ElRs g F f xs vs → xs.length = vs.length
  | _, _, .nil => rfl
  | _, _, .cons _ t => congrArg Nat.succ (ElRs.len t)
theorem ElRs.get {g : Gc} {F : Hp} {f : List Addr} : ∀ {xs : List V} {vs : List El} {i : Nat} {v : El}, ElRs g F f xs vs → vs[i]? = some v → ∃ x, xs[i]? = some x ∧ ElR g F f x v
  | _, _, _, _, .nil, e => by simp at e
  | _, _, 0, x, .cons h _, e => by simp at e; subst e; exact ⟨_, rfl, h⟩
  | _, _, i + 1, x, .cons _ t, e => by
    obtain ⟨y, h1, h2⟩ := ElRs.get (i := i) (v := x) t (by simpa using e)
    exact ⟨y, by simpa using h1, h2⟩
inductive VRs (g : Gc) (F : Hp) (f : List Addr) : List V → List Val → Prop
  | nil : VRs g F f [] []
  | cons {x : V} {v : Val} {xs : List V} {vs : List Val} : VR g F f x v → VRs g F f xs vs → VRs g F f (x :: xs) (v :: vs)
def ObR (g : Gc) (F : Hp) : Ob → Option HO → Prop
  | .lst ds, o => ∃ xs, o = some (.lst xs) ∧ DaAll g.K F xs ds
abbrev Rs := List (Addr × HO)
/-- the abstract heap H holds: the frozen part F, the mutable objects at f (the store S), the reserved ones R -/
structure Sm (g : Gc) (F : Hp) (f : List Addr) (R : Rs) (S : Store) (H : Hp) : Prop where
  le : ∀ a o, F a = some o → H a = some o
  nof : ∀ a ∈ f, F a = none
  nd : f.Nodup
  len : S.length = f.length
  st : ∀ (n : Nat) (ob : Ob) (a : Addr), S[n]? = some ob → f[n]? = some a → ObR g F ob (H a)
  res : ∀ p ∈ R, H p.1 = some p.2 ∧ F p.1 = none ∧ p.1 ∉ f
structure En (g : Gc) (F : Hp) (f : List Addr) (ρ : EnvD) (σ : St) : Prop where
  len : ρ.length = σ.length
  get : ∀ (i : Nat) (v : Val), ρ[i]? = some (some v) → ∃ x, σ[i]? = some (some x) ∧ VR g F f x v
structure Ext (F : Hp) (f : List Addr) (F' : Hp) (f' : List Addr) : Prop where
  le : ∀ a o, F a = some o → F' a = some o
  pre : ∀ (n : Nat) (a : Addr), f[n]? = some a → f'[n]? = some a
theorem Ext.refl (F : Hp) (f : List Addr) : Ext F f F f := ⟨fun _ _ h => h, fun _ _ h => h⟩
theorem Ext.trans {F G J : Hp} {f h k : List Addr} (a : Ext F f G h) (b : Ext G h J k) : Ext F f J k := ⟨fun x o e => b.le x o (a.le x o e), fun n x e => b.pre n x (a.pre n x e)⟩
section
variable {g : Gc} {F F' : Hp} {f f' : List Addr}
theorem ElR.sub (e : Ext F f F' f') {x : V} {v : El} (h : ElR g F f x v) : ElR g F' f' x v := by
  cases v with
  | d y => exact Da.sub e.le h
  | loc n => obtain ⟨a, h1, h2⟩ := h; exact ⟨a, e.pre n a h1, h2⟩
theorem ElRs.sub (e : Ext F f F' f') : ∀ {xs : List V} {vs : List El}, ElRs g F f xs vs → ElRs g F' f' xs vs
  | _, _, .nil => .nil
  | _, _, .cons h t => .cons (h.sub e) (ElRs.sub e t)
theorem VR.sub (e : Ext F f F' f') {x : V} {v : Val} (h : VR g F f x v) : VR g F' f' x v := by
  cases v with
  | d y => exact Da.sub e.le h
  | loc n => obtain ⟨a, h1, h2⟩ := h; exact ⟨a, e.pre n a h1, h2⟩
  | fn k => exact h
  | tp es => obtain ⟨a, xs, h1, h2, h3⟩ := h; exact ⟨a, xs, h1, SqT.sub e.le h2, h3.sub e⟩
  | ls es => obtain ⟨a, xs, h1, h2, h3⟩ := h; exact ⟨a, xs, h1, Rd.sub e.le h2, h3.sub e⟩
theorem VRs.sub (e : Ext F f F' f') : ∀ {xs : List V} {vs : List Val}, VRs g F f xs vs → VRs g F' f' xs vs
  | _, _, .nil => .nil
  | _, _, .cons h t => .cons (h.sub e) (VRs.sub e t)
theorem VRs.len : ∀ {xs : List V} {vs : List Val}, VRs g F f xs vs → xs.length = vs.length
  | _, _, .nil => rfl
  | _, _, .cons _ t => congrArg Nat.succ (VRs.len t)
theorem VRs.get : ∀ {xs : List V} {vs : List Val} {i : Nat} {v : Val}, VRs g F f xs vs → vs[i]? = some v → ∃ x, xs[i]? = some x ∧ VR g F f x v
  | _, _, _, _, .nil, e => by simp at e
  | _, _, 0, x, .cons h _, e => by simp at e; subst e; exact ⟨_, rfl, h⟩
  | _, _, i + 1, x, .cons _ t, e => by
    obtain ⟨y, h1, h2⟩ := VRs.get (i := i) (v := x) t (by simpa using e)
    exact ⟨y, by simpa using h1, h2⟩
theorem VRs.append : ∀ {xs ys : List V} {vs ws : List Val}, VRs g F f xs vs → VRs g F f ys ws → VRs g F f (xs ++ ys) (vs ++ ws)
  | _, _, _, _, .nil, h => h
  | _, _, _, _, .cons a t, h => .cons a (VRs.append t h)
theorem En.sub {ρ : EnvD} {σ : St} (e : Ext F f F' f') (h : En g F f ρ σ) : En g F' f' ρ σ := ⟨h.len, fun i v q => let ⟨x, h1, h2⟩ := h.get i v q; ⟨x, h1, h2.sub e⟩⟩
theorem En.set {ρ : EnvD} {σ : St} (h : En g F f ρ σ) (i : Nat) {x : V} {v : Val} (r : VR g F f x v) : En g F f (ρ.set i (some v)) (σ.set i (some x)) := by
  refine ⟨by simpa using h.len, fun j w q => ?_⟩
  by_cases hj : i = j
  · subst hj
    by_cases hl : i < ρ.length
    · rw [List.getElem?_set_self hl] at q
      cases q
      exact ⟨x, by rw [List.getElem?_set_self (by rw [← h.len]; exact hl)], r⟩
    · rw [List.getElem?_eq_none (by simpa using Nat.le_of_not_lt hl)] at q
      cases q
  · rw [List.getElem?_set_ne hj] at q
    obtain ⟨y, h1, h2⟩ := h.get j w q
    exact ⟨y, by rw [List.getElem?_set_ne hj]; exact h1, h2⟩
theorem En.wipe {ρ : EnvD} {σ : St} (h : En g F f ρ σ) (i : Nat) : En g F f (ρ.set i none) (σ.set i none) := by
  refine ⟨by simpa using h.len, fun j w q => ?_⟩
  by_cases hj : i = j
  · subst hj
    by_cases hl : i < ρ.length
    · rw [List.getElem?_set_self hl] at q
      cases q
    · rw [List.getElem?_eq_none (by simpa using Nat.le_of_not_lt hl)] at q
      cases q
  · rw [List.getElem?_set_ne hj] at q
    obtain ⟨y, h1, h2⟩ := h.get j w q
    exact ⟨y, by rw [List.getElem?_set_ne hj]; exact h1, h2⟩
end
theorem Sm.getL {g : Gc} {F : Hp} {f : List Addr} {R : Rs} {S : Store} {H : Hp} (s : Sm g F f R S H) {n : Nat} {ds : List PyData} (h : S[n]? = some (.lst ds)) : ∃ a xs, f[n]? = some a ∧ H a = some (.lst xs) ∧ DaAll g.K F xs ds := by
  have hl : n < S.length := (List.getElem?_eq_some_iff.mp h).1
  have hf : n < f.length := by rw [← s.len]; exact hl
  obtain ⟨xs, h1, h2⟩ := s.st n _ f[n] h (List.getElem?_eq_getElem hf)
  exact ⟨f[n], xs, List.getElem?_eq_getElem hf, h1, h2⟩
/-- a new frozen object -/
theorem Sm.new {g : Gc} {F : Hp} {f : List Addr} {R : Rs} {S : Store} {H : Hp} (s : Sm g F f R S H) {p : Addr} {o : HO} (hp : H p = none) : Sm g (upd F p o) f R S (upd H p o) ∧ Ext F f (upd F p o) f := by
  have fp : F p = none := by
    cases q : F p with
    | none => rfl
    | some u => rw [s.le p u q] at hp; cases hp
  have fl : ∀ a ∈ f, a ≠ p := fun a ha z => by
    subst z
    obtain ⟨n, hn, e⟩ := List.getElem_of_mem ha
    have hS : n < S.length := by rw [s.len]; exact hn
    have q := s.st n S[n] f[n] (List.getElem?_eq_getElem hS) (List.getElem?_eq_getElem hn)
    rw [e] at q
    revert q
    cases S[n] with
    | lst ds => rintro ⟨xs, h1, _⟩; rw [hp] at h1; cases h1
  have ext : ∀ a u, F a = some u → upd F p o a = some u := fun a u e => by rw [upd_ne (ne_of_none e fp)]; exact e
  refine ⟨⟨fun a u e => ?_, fun a ha => by rw [upd_ne (fl a ha)]; exact s.nof a ha, s.nd, s.len, fun n ob a h1 h2 => ?_, fun q hq => ?_⟩, ⟨ext, fun _ _ h => h⟩⟩
  · by_cases h : a = p
    · subst h; rw [upd_same] at e ⊢; exact e
    · rw [upd_ne h] at e ⊢; exact s.le a u e
  · have na : a ≠ p := fl a (List.mem_of_getElem? h2)
    have q := s.st n ob a h1 h2
    rw [upd_ne na]
    cases ob with
    | lst ds => obtain ⟨xs, e1, e2⟩ := q; exact ⟨xs, e1, DaAll.sub ext e2⟩
  · obtain ⟨e1, e2, e3⟩ := s.res q hq
    have nq : q.1 ≠ p := ne_of_none e1 hp
    rw [upd_ne nq, upd_ne nq]
    exact ⟨e1, e2, e3⟩
/-- the heap has one object more that is told nowhere -/
theorem Sm.idle {g : Gc} {F : Hp} {f : List Addr} {R : Rs} {S : Store} {H H' : Hp} (s : Sm g F f R S H) (k : ∀ a o, H a = some o → H' a = some o) : Sm g F f R S H' := by
  refine ⟨fun a u e => k a u (s.le a u e), s.nof, s.nd, s.len, fun n ob a h1 h2 => ?_, fun q hq => let ⟨e1, e2, e3⟩ := s.res q hq; ⟨k _ _ e1, e2, e3⟩⟩
  have q := s.st n ob a h1 h2
  cases ob with
  | lst ds => obtain ⟨xs, e1, e2⟩ := q; exact ⟨xs, k _ _ e1, e2⟩
theorem Sm.notin {g : Gc} {F : Hp} {f : List Addr} {R : Rs} {S : Store} {H : Hp} (s : Sm g F f R S H) {p : Addr} (hp : H p = none) : p ∉ f ∧ F p = none := by
  refine ⟨fun ha => ?_, ?_⟩
  · obtain ⟨n, hn, e⟩ := List.getElem_of_mem ha
    have hS : n < S.length := by rw [s.len]; exact hn
    have q := s.st n S[n] f[n] (List.getElem?_eq_getElem hS) (List.getElem?_eq_getElem hn)
    rw [e] at q
    revert q
    cases S[n] with
    | lst ds => rintro ⟨xs, h1, _⟩; rw [hp] at h1; cases h1
  · cases q : F p with
    | none => rfl
    | some u => rw [s.le p u q] at hp; cases hp
/-- a new mutable object -/
theorem Sm.newM {g : Gc} {F : Hp} {f : List Addr} {R : Rs} {S : Store} {H : Hp} (s : Sm g F f R S H) {p : Addr} {o : HO} {ob : Ob} (hp : H p = none) (ho : ObR g F ob (some o)) :
    Sm g F (f ++ [p]) R (S ++ [ob]) (upd H p o) ∧ Ext F f F (f ++ [p]) ∧ (f ++ [p])[S.length]? = some p := by
  obtain ⟨n1, n2⟩ := s.notin hp
  have pre : ∀ (n : Nat) (a : Addr), f[n]? = some a → (f ++ [p])[n]? = some a := fun n a e => by
    rw [List.getElem?_append_left (List.getElem?_eq_some_iff.mp e).1]; exact e
  refine ⟨⟨fun a u e => ?_, fun a ha => ?_, ?_, by simp [s.len], fun n ob' a h1 h2 => ?_, fun q hq => ?_⟩, ⟨fun _ _ h => h, pre⟩, by rw [s.len]; simp⟩
  · rw [upd_ne (ne_of_none e n2)]; exact s.le a u e
  · rcases List.mem_append.mp ha with h | h
    · exact s.nof a h
    · rw [List.mem_singleton.mp h]; exact n2
  · exact List.nodup_append.mpr ⟨s.nd, by simp, fun a ha b hb => by rw [List.mem_singleton.mp hb]; exact fun z => n1 (z ▸ ha)⟩
  · by_cases hn : n < S.length
    · rw [List.getElem?_append_left hn] at h1
      rw [List.getElem?_append_left (by rw [← s.len]; exact hn)] at h2
      have na : a ≠ p := fun z => n1 (z ▸ List.mem_of_getElem? h2)
      rw [upd_ne na]
      exact s.st n ob' a h1 h2
    · have hn' : n = S.length := by
        have := (List.getElem?_eq_some_iff.mp h1).1
        simp at this; omega
      subst hn'
      rw [List.getElem?_append_right (Nat.le_refl _)] at h1
      rw [s.len, List.getElem?_append_right (Nat.le_refl _)] at h2
      simp at h1 h2
      subst h1 h2
      rw [upd_same]; exact ho
  · obtain ⟨e1, e2, e3⟩ := s.res q hq
    have nq : q.1 ≠ p := ne_of_none e1 hp
    rw [upd_ne nq]
    exact ⟨e1, e2, fun z => (List.mem_append.mp z).elim e3 fun z => nq (List.mem_singleton.mp z)⟩
/-- a mutable object is written -/
theorem Sm.put {g : Gc} {F : Hp} {f : List Addr} {R : Rs} {S : Store} {H : Hp} (s : Sm g F f R S H) {n : Nat} {p : Addr} {o : HO} {ob : Ob} (hn : f[n]? = some p) (ho : ObR g F ob (some o)) : Sm g F f R (S.set n ob) (upd H p o) := by
  have pf : p ∈ f := List.mem_of_getElem? hn
  refine ⟨fun a u e => ?_, s.nof, s.nd, by simpa using s.len, fun m ob' a h1 h2 => ?_, fun q hq => ?_⟩
  · rw [upd_ne (fun z => by rw [z, s.nof p pf] at e; cases e)]; exact s.le a u e
  · by_cases hm : n = m
    · subst hm
      rw [hn] at h2
      cases h2
      have hl : n < S.length := by rw [s.len]; exact (List.getElem?_eq_some_iff.mp hn).1
      rw [List.getElem?_set_self hl] at h1
      cases h1
      rw [upd_same]; exact ho
    · rw [List.getElem?_set_ne hm] at h1
      have na : a ≠ p := fun z => by
        subst z
        obtain ⟨h3, e3⟩ := List.getElem?_eq_some_iff.mp hn
        obtain ⟨h4, e4⟩ := List.getElem?_eq_some_iff.mp h2
        exact hm ((List.getElem_inj s.nd).mp (e3.trans e4.symm))
      rw [upd_ne na]
      exact s.st m ob' a h1 h2
  · obtain ⟨e1, e2, e3⟩ := s.res q hq
    have nq : q.1 ≠ p := fun z => e3 (by rw [z]; exact pf)
    rw [upd_ne nq]
    exact ⟨e1, e2, e3⟩
/-- a reserved object comes, and goes -/
theorem Sm.hold {g : Gc} {F : Hp} {f : List Addr} {R : Rs} {S : Store} {H : Hp} (s : Sm g F f R S H) {p : Addr} {o : HO} (hp : H p = none) : Sm g F f ((p, o) :: R) S (upd H p o) := by
  obtain ⟨n1, n2⟩ := s.notin hp
  refine ⟨fun a u e => by rw [upd_ne (ne_of_none e n2)]; exact s.le a u e, s.nof, s.nd, s.len, fun n ob a h1 h2 => ?_, fun q hq => ?_⟩
  · have na : a ≠ p := fun z => n1 (by rw [← z]; exact List.mem_of_getElem? h2)
    rw [upd_ne na]; exact s.st n ob a h1 h2
  · rcases List.mem_cons.mp hq with rfl | hq
    · exact ⟨upd_same, n2, n1⟩
    · obtain ⟨e1, e2, e3⟩ := s.res q hq
      rw [upd_ne (ne_of_none e1 hp)]
      exact ⟨e1, e2, e3⟩
theorem Sm.unhold {g : Gc} {F : Hp} {f : List Addr} {R : Rs} {S : Store} {H : Hp} {p : Addr × HO} (s : Sm g F f (p :: R) S H) : Sm g F f R S H :=
  ⟨s.le, s.nof, s.nd, s.len, s.st, fun q hq => s.res q (List.mem_cons_of_mem _ hq)⟩
/-- the held object is written -/
theorem Sm.rehold {g : Gc} {F : Hp} {f : List Addr} {R : Rs} {S : Store} {H : Hp} {p : Addr} {o o' : HO} (s : Sm g F f ((p, o) :: R) S H) (hR : ∀ q ∈ R, q.1 ≠ p) : Sm g F f ((p, o') :: R) S (upd H p o') := by
  obtain ⟨h1, h2, h3⟩ := s.res (p, o) List.mem_cons_self
  refine ⟨fun a u e => by rw [upd_ne (ne_of_none e h2)]; exact s.le a u e, s.nof, s.nd, s.len, fun n ob a e1 e2 => ?_, fun q hq => ?_⟩
  · have na : a ≠ p := fun z => h3 (by rw [← z]; exact List.mem_of_getElem? e2)
    rw [upd_ne na]; exact s.st n ob a e1 e2
  · rcases List.mem_cons.mp hq with rfl | hq
    · exact ⟨upd_same, h2, h3⟩
    · obtain ⟨e1, e2, e3⟩ := s.res q (List.mem_cons_of_mem _ hq)
      rw [upd_ne (hR q hq)]
      exact ⟨e1, e2, e3⟩
/-- the held object is frozen -/
theorem Sm.freeze {g : Gc} {F : Hp} {f : List Addr} {R : Rs} {S : Store} {H : Hp} {p : Addr} {o : HO} (s : Sm g F f ((p, o) :: R) S H) (hR : ∀ q ∈ R, q.1 ≠ p) : Sm g (upd F p o) f R S H ∧ Ext F f (upd F p o) f := by
  obtain ⟨h1, h2, h3⟩ := s.res (p, o) List.mem_cons_self
  have ext : ∀ a u, F a = some u → upd F p o a = some u := fun a u e => by rw [upd_ne (ne_of_none e h2)]; exact e
  refine ⟨⟨fun a u e => ?_, fun a ha => by
    have na : a ≠ p := fun z => h3 (by rw [← z]; exact ha)
    rw [upd_ne na]; exact s.nof a ha, s.nd, s.len, fun n ob a e1 e2 => ?_, fun q hq => ?_⟩, ⟨ext, fun _ _ h => h⟩⟩
  · by_cases h : a = p
    · subst h; rw [upd_same] at e; cases e; exact h1
    · rw [upd_ne h] at e; exact s.le a u e
  · have q := s.st n ob a e1 e2
    cases ob with
    | lst ds => obtain ⟨xs, q1, q2⟩ := q; exact ⟨xs, q1, DaAll.sub ext q2⟩
  · obtain ⟨e1, e2, e3⟩ := s.res q (List.mem_cons_of_mem _ hq)
    rw [upd_ne (hR q hq)]
    exact ⟨e1, e2, e3⟩

/-! ### readings -/
/-- how an exception lies behind -/
def ErrR (g : Gc) (F : Hp) (e : Exn) (C : Value) (d : Option Addr) (H : Hp) : Prop := ∃ dA x, C = .ref (g.ca e.cls) ∧ d = some dA ∧ H dA = some (.xd [(("value" : Str), x)]) ∧ Da g.K F x e.val
abbrev Kn (α : Type) := α → Hp → List Addr → Store → Hp → Prop
def Sat {α : Type} (g : Gc) (F : Hp) (f : List Addr) (R : Rs) (W : Value → Option Addr → Hp → Prop) (o : Out α) (k : Kn α) : Prop := match o with
  | .ok a S => ∀ F' f' H, Ext F f F' f' → Sm g F' f' R S H → k a F' f' S H
  | .err e S => ∀ F' f' H C d, Ext F f F' f' → Sm g F' f' R S H → ErrR g F' e C d H → W C d H
  | .stuck => False
section
variable {α β : Type} {g : Gc} {F F' : Hp} {f f' : List Addr} {R : Rs} {W : Value → Option Addr → Hp → Prop} {o : Out α} {k k' : Kn α}
theorem Sat.step (h : Sat g F f R W o k) (e : Ext F f F' f') : Sat g F' f' R W o k := by
  cases o with
  | ok a S => exact fun F2 f2 H2 e2 s => h F2 f2 H2 (e.trans e2) s
  | err x S => exact fun F2 f2 H2 C d e2 s r => h F2 f2 H2 C d (e.trans e2) s r
  | stuck => exact h
theorem Sat.imp (h : Sat g F f R W o k) (hk : ∀ a F' f' S H, Ext F f F' f' → Sm g F' f' R S H → o = .ok a S → k a F' f' S H → k' a F' f' S H) : Sat g F f R W o k' := by
  cases o with
  | ok a S => exact fun F2 f2 H2 e2 s => hk _ _ _ _ _ e2 s rfl (h F2 f2 H2 e2 s)
  | err x S => exact h
  | stuck => exact h
theorem Sat.bind {φ : α → Store → Out β} {k : Kn β} (h : Sat g F f R W (o.bind φ) k) : Sat g F f R W o fun a F' f' S' H' => Sat g F' f' R W (φ a S') k := by
  cases o with
  | ok a S => exact fun F2 f2 H2 e2 s => Sat.step h e2
  | err x S => exact h
  | stuck => exact h
/-- a value is there -/
theorem Sat.ok {a : α} {S : Store} {H : Hp} (h : Sat g F f R W (.ok a S) k) (s : Sm g F f R S H) : k a F f S H := h F f H (Ext.refl _ _) s
end
/-- a reading from a meaning -/
def rdG {α β : Type} (g : Gc) (W : WX) (rel : Hp → List Addr → β → α → Prop) (t : TD α) : St → Hp → (β → Hp → Prop) → Prop := fun σ H Q =>
  ∃ F f R ρ S, Sm g F f R S H ∧ En g F f ρ σ ∧ Sat g F f R (fun C d H' => W C d σ H') (t ρ S) fun v F' f' S' H' => ∀ x, rel F' f' x v → Q x H'
abbrev rd (g : Gc) (W : WX) (t : TD Val) : TE := rdG g W (fun F f x v => VR g F f x v) t
abbrev rdA (g : Gc) (W : WX) (t : TD (List Val)) : TA := rdG g W (fun F f x v => VRs g F f x v) t
abbrev rdT (g : Gc) (W : WX) (t : TD Bool) : TT := rdG g W (fun _ _ x v => x = v) t
section
variable {α β γ δ : Type} {g : Gc} {F : Hp} {f : List Addr} {R : Rs} {W : WX} {S : Store} {H : Hp} {ρ : EnvD} {σ : St} {rel : Hp → List Addr → β → α → Prop} {t : TD α} {Q : β → Hp → Prop}
theorem rd_of {k : Kn α} (s : Sm g F f R S H) (e : En g F f ρ σ) (h : Sat g F f R (fun C d H' => W C d σ H') (t ρ S) k)
    (hk : ∀ v F' f' S' H' x, Ext F f F' f' → Sm g F' f' R S' H' → En g F' f' ρ σ → rel F' f' x v → k v F' f' S' H' → Q x H') : rdG g W rel t σ H Q :=
  ⟨F, f, R, ρ, S, s, e, h.imp fun a F' f' S' H' x s' _ q y r => hk a F' f' S' H' y x s' (e.sub x) r q⟩
theorem rd_bind {φ : α → Store → Out γ} {k : Kn γ} (s : Sm g F f R S H) (e : En g F f ρ σ) (h : Sat g F f R (fun C d H' => W C d σ H') ((t ρ S).bind φ) k)
    (hk : ∀ v F' f' S' H' x, Ext F f F' f' → Sm g F' f' R S' H' → En g F' f' ρ σ → rel F' f' x v → Sat g F' f' R (fun C d H' => W C d σ H') (φ v S') k → Q x H') : rdG g W rel t σ H Q :=
  rd_of s e h.bind hk
end
/-! ### a weaker reading -/
theorem PE.imp {X : Cx} {e : Expr} {t u : TE} (h : PE X e t) (i : ∀ σ H Q, u σ H Q → t σ H Q) : PE X e u := ⟨fun pins s σ H Q I q => h.run pins s σ H Q I (i σ H Q q)⟩
theorem PT.imp {X : Cx} {e : Expr} {t u : TT} (h : PT X e t) (i : ∀ σ H Q, u σ H Q → t σ H Q) : PT X e u := ⟨fun pins s σ H Q I q => h.run pins s σ H Q I (i σ H Q q)⟩
theorem PW.imp {X : Cx} {e : Expr} {t u : TT} (h : PW X e t) (i : ∀ σ H Q, u σ H Q → t σ H Q) : PW X e u := ⟨fun wh pins s σ H Q I q => h.run wh pins s σ H Q I (i σ H Q q)⟩
theorem PA.imp {X : Cx} {e : List Expr} {t u : TA} (h : PA X e t) (i : ∀ σ H Q, u σ H Q → t σ H Q) : PA X e u := ⟨fun pos pins s σ H Q I q => h.run pos pins s σ H Q I (i σ H Q q)⟩
theorem PS.imp {X : Cx} {e : Stmt} {t u : TS} (h : PS X e t) (i : ∀ D σ H, u D σ H → t D σ H) : PS X e u := ⟨fun pins s σ H Q I q => h.run pins s σ H Q I (i Q σ H q)⟩
theorem PSs.imp {X : Cx} {e : List Stmt} {t u : TS} (h : PSs X e t) (i : ∀ D σ H, u D σ H → t D σ H) : PSs X e u := ⟨fun pins s σ H Q I q => h.run pins s σ H Q I (i Q σ H q)⟩
end Ev
end

section
set_option Elab.async false
set_option linter.all false
set_option maxRecDepth 100000
set_option maxHeartbeats 4000000
/-! E2: the small syntax and its meaning on data (no heap here) -/
namespace Ev
open PySem PySem.Spec L2

/-! ### operations on values -/
def seqOf (S : Store) : Val → Option (List PyData)
  | .d (.list xs) => some xs
  | .d (.tuple xs) => some xs
  | .loc n => match S[n]? with
    | some (.lst xs) => some xs
    | _ => none
  | _ => none
def lstOf (S : Store) : Val → Option (List PyData)
  | .d (.list xs) => some xs
  | .loc n => match S[n]? with
    | some (.lst xs) => some xs
    | _ => none
  | _ => none
/-- the data that some parts are now -/
def elsD (S : Store) : List El → Option (List PyData)
  | [] => some []
  | .d x :: r => (elsD S r).map (x :: ·)
  | .loc n :: r => match S[n]? with
    | some (.lst xs) => (elsD S r).map (.list xs :: ·)
    | _ => none
/-- the data that a value is now -/
def datOf (S : Store) : Val → Option PyData
  | .d x => some x
  | .loc n => match S[n]? with
    | some (.lst xs) => some (.list xs)
    | _ => none
  | .fn _ => none
  | .tp es => (elsD S es).map .tuple
  | .ls es => (elsD S es).map .list
def truV (S : Store) : Val → Option Bool
  | .d .none => some false
  | .d (.bool b) => some b
  | .d (.int i) => some (i != 0)
  | .d (.str s) => if s.length ≤ sizeLine then some ((s.length : Int) != 0) else none
  | .d (.list xs) => some (!xs.isEmpty)
  | .d (.tuple xs) => some (!xs.isEmpty)
  | .loc n => match S[n]? with
    | some (.lst xs) => some (!xs.isEmpty)
    | _ => none
  | _ => none
def okIf (c : Prop) [Decidable c] (v : PyData) (S : Store) : Out Val := if c then .ok (.d v) S else .stuck
/-- x, n times -/
def repS (x : Str) (n : Nat) : Str := ⟨(List.replicate n x.cps).foldl (· ++ ·) #[]⟩
theorem fold_cat (a : Array Nat) : ∀ (n : Nat) (acc : Array Nat), ((List.replicate n a).foldl (· ++ ·) acc).toList = acc.toList ++ (List.replicate n a.toList).flatten
  | 0, acc => by simp
  | n + 1, acc => by
    rw [List.replicate_succ, List.foldl_cons, fold_cat a n]
    simp [List.replicate_succ]
theorem repS_list (x : Str) (n : Nat) : (repS x n).cps.toList = (List.replicate n x.cps.toList).flatten := by
  have := fold_cat x.cps n #[]
  simpa [repS] using this
theorem repS_len (x : Str) (n : Nat) : (repS x n).length = n * x.length := by
  show (repS x n).cps.size = n * x.cps.size
  rw [← Array.length_toList, repS_list]
  simp
def binV (op : Operator) (v u : Val) (S : Store) : Out Val := match op, v, u with
  | .Add, .d (.int i), .d (.int j) => .ok (.d (.int (i + j))) S
  | .Add, .d (.str i), .d (.str j) => okIf (i.length + j.length ≤ sizeLine) (.str (i ++ j)) S
  | .Add, .d (.tuple xs), .d (.tuple ys) => okIf (xs.length + ys.length ≤ sizeLine) (.tuple (xs ++ ys)) S
  | .Add, .d (.list xs), .d (.list ys) => okIf (xs.length + ys.length ≤ sizeLine) (.list (xs ++ ys)) S
  | .Add, .loc n, .loc m => match lstOf S (.loc n), lstOf S (.loc m) with
    | some xs, some ys => okIf (xs.length + ys.length ≤ sizeLine) (.list (xs ++ ys)) S
    | _, _ => .stuck
  | .Add, .d (.list zs), .loc m => match lstOf S (.d (.list zs)), lstOf S (.loc m) with
    | some xs, some ys => okIf (xs.length + ys.length ≤ sizeLine) (.list (xs ++ ys)) S
    | _, _ => .stuck
  | .Add, .loc n, .d (.list zs) => match lstOf S (.loc n), lstOf S (.d (.list zs)) with
    | some xs, some ys => okIf (xs.length + ys.length ≤ sizeLine) (.list (xs ++ ys)) S
    | _, _ => .stuck
  | .Sub, .d (.int i), .d (.int j) => .ok (.d (.int (i - j))) S
  | .Mult, .d (.int i), .d (.int j) => okIf ((-(2 ^ 64) < i ∧ i < 2 ^ 64) ∨ (-(2 ^ 64) < j ∧ j < 2 ^ 64)) (.int (i * j)) S
  | .Mult, .d (.tuple xs), .d (.int j) => okIf (j = 1 ∨ (xs.isEmpty = false ∧ 2 ≤ j ∧ j ≤ 1000 ∧ xs.length ≤ 1000)) (.tuple (List.replicate j.toNat xs).flatten) S
  | .Mult, .d (.list xs), .d (.int j) => okIf (-(2 ^ 63) ≤ j ∧ j < 2 ^ 63 ∧ xs.length * j.toNat ≤ sizeLine) (.list (List.replicate j.toNat xs).flatten) S
  | .Mult, .d (.str x), .d (.int j) => okIf (2 ≤ j ∧ j ≤ 1000 ∧ 1 ≤ x.length ∧ x.length ≤ 1000) (.str (repS x j.toNat)) S
  | .Mod, .d (.int i), .d (.int j) => okIf (j ≠ 0) (.int (i.fmod j)) S
  | .FloorDiv, .d (.int i), .d (.int j) => okIf (j ≠ 0 ∧ j.natAbs < 1073741824) (.int (i.fdiv j)) S
  | .Pow, .d (.int i), .d (.int j) => okIf (0 ≤ j ∧ j ≤ 1000000 ∧ i.natAbs < 2 ^ 64) (.int (i ^ j.toNat)) S
  | _, _, _ => .stuck
/-- ints, all of a list -/
def intsOf : List PyData → Option (List Int)
  | [] => some []
  | .int i :: r => (intsOf r).map (i :: ·)
  | _ => none
def boolsOf : List PyData → Option (List Bool)
  | [] => some []
  | .bool i :: r => (boolsOf r).map (i :: ·)
  | _ => none
def cmpV (op : CmpOp) (v u : Val) (S : Store) : Out Val := match op with
  | .Eq => match v, u with
    | .d (.str i), .d (.str j) => .ok (.d (.bool (i == j))) S
    | v, u => match datOf S v, datOf S u with
      | some x, some y => okIf (SeqAt.shaped x = true ∧ SeqAt.shaped y = true) (.bool (PyData.eqv x y)) S
      | _, _ => .stuck
  | .NotEq => match v, u with
    | .d (.str i), .d (.str j) => .ok (.d (.bool (!(i == j)))) S
    | v, u => match datOf S v, datOf S u with
      | some x, some y => okIf (SeqAt.shaped x = true ∧ SeqAt.shaped y = true) (.bool (!PyData.eqv x y)) S
      | _, _ => .stuck
  | .Lt => match v, u with
    | .d (.int i), .d (.int j) => .ok (.d (.bool (decide (i < j)))) S
    | .d (.str i), .d (.str j) => .ok (.d (.bool (decide (i.cps.toList < j.cps.toList)))) S
    | .d (.tuple xs), .d (.tuple ys) => match intsOf xs, intsOf ys with
      | some ns, some ms => .ok (.d (.bool (HT.lexLt ns ms))) S
      | _, _ => .stuck
    | _, _ => .stuck
  | .LtE => match v, u with
    | .d (.int i), .d (.int j) => .ok (.d (.bool (decide (i ≤ j)))) S
    | .d (.str i), .d (.str j) => .ok (.d (.bool (!decide (j.cps.toList < i.cps.toList)))) S
    | _, _ => .stuck
  | .Gt => match v, u with
    | .d (.int i), .d (.int j) => .ok (.d (.bool (decide (j < i)))) S
    | _, _ => .stuck
  | .GtE => match v, u with
    | .d (.int i), .d (.int j) => .ok (.d (.bool (decide (j ≤ i)))) S
    | _, _ => .stuck
  | .Is => match v, u with
    | .d .none, .d .none => .ok (.d (.bool true)) S
    | .d (.bool a), .d (.bool b) => .ok (.d (.bool (decide (a = b)))) S
    | .d .none, .d (.bool _) => .ok (.d (.bool false)) S
    | _, .d .none => .ok (.d (.bool false)) S
    | _, _ => .stuck
  | .IsNot => match v, u with
    | .d .none, .d .none => .ok (.d (.bool false)) S
    | _, .d .none => .ok (.d (.bool true)) S
    | _, _ => .stuck
  | .In => match u with
    | .d (.str z) => match v with
      | .d (.str x) => okIf (x.length = 1) (.bool (decide (x.cps.getD 0 0 ∈ z.cps.toList))) S
      | _ => .stuck
    | _ => match datOf S v, seqOf S u with
      | some x, some ys => okIf (SeqAt.shaped x = true ∧ SeqAt.shaped (.list ys) = true) (.bool (ys.any fun z => PyData.eqv z x)) S
      | _, _ => .stuck
  | .NotIn => match u with
    | .d (.str z) => match v with
      | .d (.str x) => okIf (x.length = 1) (.bool (!decide (x.cps.getD 0 0 ∈ z.cps.toList))) S
      | _ => .stuck
    | _ => match datOf S v, seqOf S u with
      | some x, some ys => okIf (SeqAt.shaped x = true ∧ SeqAt.shaped (.list ys) = true) (.bool (!ys.any fun z => PyData.eqv z x)) S
      | _, _ => .stuck
def idxV (v u : Val) (S : Store) : Out Val := match u with
  | .d (.int i) => match v with
    | .d (.str z) => if z.length ≤ sizeLine then match atI z.cps.toList i with
        | some c => .ok (.d (.str ⟨#[c]⟩)) S
        | none => .stuck
      else .stuck
    | .tp es => match atI es i with
      | some x => .ok x.val S
      | none => .stuck
    | .ls es => match atI es i with
      | some x => .ok x.val S
      | none => .stuck
    | _ => match seqOf S v with
      | some xs => match atI xs i with
        | some x => .ok (.d x) S
        | none => .stuck
      | none => .stuck
  | _ => .stuck
def prtV (v : Val) (S : Store) : Out (Option Int) := match v with
  | .d (.int i) => .ok (some i) S
  | _ => .stuck
def cutD (xs : List PyData) (lo hi : Option Int) : List PyData := (xs.drop (HT.sIx xs.length 0 lo)).take (HT.sIx xs.length xs.length hi - HT.sIx xs.length 0 lo)
/-- v[lo:hi] -/
def sliV (v : Val) (lo hi : Option Int) (S : Store) : Out Val := match v with
  | .d (.str z) => okIf (z.length ≤ sizeLine) (.str (cutS z lo hi)) S
  | .d (.tuple xs) => .ok (.d (.tuple (cutD xs lo hi))) S
  | _ => match lstOf S v with
    | some xs => .ok (.d (.list (cutD xs lo hi))) S
    | none => .stuck
/-- v[::-1], v[:0:-1] -/
def revV (z : Bool) (v : Val) (S : Store) : Out Val := match v with
  | .d (.tuple xs) => .ok (.d (.tuple (if z = true then (xs.drop 1).reverse else xs.reverse))) S
  | _ => match lstOf S v with
    | some xs => if z = true then .stuck else .ok (.d (.list xs.reverse)) S
    | none => .stuck
/-- the kinds that isinstance is asked for -/
inductive Ty where
  | int | bool | str | tuple | list | dict
  deriving DecidableEq
def Ty.name : Ty → String
  | .int => "int" | .bool => "bool" | .str => "str" | .tuple => "tuple" | .list => "list" | .dict => "dict"
def isTy (S : Store) (v : Val) (t : Ty) : Option Bool := match v with
  | .d .none => some false
  | .d (.bool _) => some (t == .bool || t == .int)
  | .d (.int _) => some (t == .int)
  | .d (.str _) => some (t == .str)
  | .d (.tuple _) => some (t == .tuple)
  | .d (.list _) => some (t == .list)
  | .d (.dict _) => some (t == .dict)
  | .loc n => match S[n]? with
    | some (.lst _) => some (t == .list)
    | _ => none
  | _ => none
/-- one of some kinds -/
def isTys (S : Store) (v : Val) : List Ty → Option Bool
  | [] => some false
  | t :: ts => match isTy S v t, isTys S v ts with
    | some a, some b => some (a || b)
    | _, _ => none
def addD (acc : List Str) (x : Str) : List Str := if x ∈ acc then acc else acc ++ [x]
/-- whole numbers, rising, each once -/
def insU (x : Int) : List Int → List Int
  | [] => [x]
  | y :: r => if x < y then x :: y :: r else if x = y then y :: r else y :: insU x r
def sortU (ns : List Int) : List Int := ns.foldr insU []
/-- the texts, each once -/
def onceS (xs : List Str) : List Str := xs.foldl addD []
inductive BI where
  | len | all | any | tuple | list | sum | abs | max2 | min2 | int | strI | divmod | repr | ord | lenSet | listM | sortSet
  deriving DecidableEq
def strsOf : List PyData → Option (List Str)
  | [] => some []
  | .str i :: r => (strsOf r).map (i :: ·)
  | _ => none
def biV (b : BI) (vs : List Val) (S : Store) : Out Val := match b, vs with
  | .len, [.d (.str s)] => okIf (s.length ≤ sizeLine) (.int s.length) S
  | .len, [v] => match seqOf S v with
    | some xs => .ok (.d (.int xs.length)) S
    | none => .stuck
  | .all, [v] => match (lstOf S v).bind boolsOf with
    | some bs => .ok (.d (.bool (bs.all id))) S
    | none => .stuck
  | .any, [v] => match (lstOf S v).bind boolsOf with
    | some bs => .ok (.d (.bool (bs.any id))) S
    | none => .stuck
  | .tuple, [v] => match seqOf S v with
    | some xs => .ok (.d (.tuple xs)) S
    | none => .stuck
  | .list, [.d (.str z)] => okIf (z.length ≤ sizeLine) (.list (z.cps.toList.map fun c => .str ⟨#[c]⟩)) S
  | .list, [v] => match seqOf S v with
    | some xs => .ok (.d (.list xs)) S
    | none => .stuck
  | .listM, [v] => match seqOf S v with
    | some xs => .ok (.loc S.length) (S ++ [.lst xs])
    | none => .stuck
  | .sum, [v] => match (lstOf S v).bind intsOf with
    | some ns => .ok (.d (.int ns.sum)) S
    | none => .stuck
  | .abs, [.d (.int i)] => .ok (.d (.int (if i < 0 then -i else i))) S
  | .max2, [.d (.int i), .d (.int j)] => .ok (.d (.int (if j > i then j else i))) S
  | .min2, [.d (.int i), .d (.int j)] => .ok (.d (.int (if j < i then j else i))) S
  | .int, [.d (.int i)] => .ok (.d (.int i)) S
  | .int, [.d (.bool b)] => .ok (.d (.int (if b then 1 else 0))) S
  | .strI, [.d (.int i)] => okIf (i.natAbs.log2 < 1920) (.str (toString i)) S
  | .divmod, [.d (.int i), .d (.int j)] => okIf (0 < j ∧ j < 1073741824) (.tuple [.int (i / j), .int (i % j)]) S
  | .ord, [.d (.str x)] => okIf (x.length = 1) (.int (x.cps.getD 0 0 : Nat)) S
  | .lenSet, [v] => match (seqOf S v).bind strsOf with
    | some ss => okIf (ss.length < 4000) (.int ((onceS ss).length : Nat)) S
    | none => .stuck
  | .sortSet, [.d (.tuple xs)] => match intsOf xs with
    | some ns => okIf (ns.length < 64) (.list ((sortU ns).map .int)) S
    | none => .stuck
  | .repr, [v] => match datOf S v with
    | some x => okIf (x.showable = true ∧ x.depth ≤ 60 ∧ x.shown.length ≤ sizeLine) (.str x.shown) S
    | none => .stuck
  | _, _ => .stuck
inductive Me where
  | append | extend
  deriving DecidableEq
def meV (m : Me) (v : Val) (vs : List Val) (S : Store) : Out Val := match m, v, vs with
  | .append, .loc n, [.d x] => match S[n]? with
    | some (.lst xs) => if xs.length < sizeLine then .ok (.d .none) (S.set n (.lst (xs ++ [x]))) else .stuck
    | _ => .stuck
  | .extend, .loc n, [v] => match S[n]?, lstOf S v with
    | some (.lst xs), some zs => if xs.length + zs.length ≤ sizeLine then .ok (.d .none) (S.set n (.lst (xs ++ zs))) else .stuck
    | _, _ => .stuck
  | _, _, _ => .stuck
/-- methods of texts -/
inductive SM where
  | join | split | splitN | find | findN | index
  deriving DecidableEq
def smV (m : SM) (a : Str) (vs : List Val) (S : Store) : Out Val := match m, vs with
  | .join, [v] => match (seqOf S v).bind strsOf with
    | some ys => okIf ((ys.map (·.length)).sum + ys.length * a.length ≤ 16777216) (.str (Txt.join a ys)) S
    | none => .stuck
  | .split, [.d (.str b)] => okIf ((b.length == 0) = false ∧ a.length + 2 ≤ sizeLine) (.list ((Txt.split a b).map .str)) S
  | .splitN, [.d (.str b), .d (.int k)] => okIf ((b.length == 0) = false ∧ -(2 ^ 63) ≤ k ∧ k < 2 ^ 63 ∧ a.length + 2 ≤ sizeLine) (.list ((Txt.splitMax a b k).map .str)) S
  | .find, [.d (.str b)] => .ok (.d (.int (Txt.find a b))) S
  | .findN, [.d (.str b), .d (.int i)] => .ok (.d (.int (Txt.find3 a b i))) S
  | .index, [.d (.str b)] => match Builtin.Str.occurrences a b 0 a.length 1 with
    | i :: _ => .ok (.d (.int (i : Nat))) S
    | [] => .stuck
  | _, _ => .stuck
/-- a text -/
def strO (v : Val) (S : Store) : Out Str := match v with
  | .d (.str x) => .ok x S
  | _ => .stuck
/-- a field of an f-string -/
def fmtO (v : Val) (S : Store) : Out Str := match v with
  | .d (.str x) => if x.length ≤ sizeLine then .ok x S else .stuck
  | .d (.int i) => if i.natAbs.log2 < 1920 then .ok (toString i) S else .stuck
  | _ => .stuck
/-- the receiver of a method call -/
def recV (v : Val) (S : Store) : Out Val := match v with
  | .loc n => match S[n]? with
    | some (.lst _) => .ok v S
    | _ => .stuck
  | _ => .stuck
/-- v[u] = w -/
def setV (v u w : Val) (S : Store) : Out Unit := match v, u, w with
  | .loc n, .d (.int i), .d x => match S[n]? with
    | some (.lst xs) => match ixN xs.length i with
      | some j => .ok () (S.set n (.lst (xs.set j x)))
      | none => .stuck
    | _ => .stuck
  | _, _, _ => .stuck
/-- all are data -/
def datas : List Val → Option (List PyData)
  | [] => some []
  | .d x :: r => (datas r).map (x :: ·)
  | _ => none

/-! ### the syntax -/
inductive Tg where
  | nm (i : Nat) | tup (is : List Nat) | nest (i : Nat) (is : List Nat)
mutual
inductive CE where
  | var (i : Nat) | cst (d : PyData) | glb (k : Nat) | fnv (k : Nat)
  | bin (op : Operator) (a b : CE) | cmp (op : CmpOp) (a b : CE) | chn (o1 o2 : CmpOp) (a b c : CE)
  | and (es : CEs) | or (es : CEs) | not (a : CE) | ife (c a b : CE)
  | tup (es : CEs) | lst (m : Bool) (es : CEs) | idx (a i : CE) | sli (a : CE) (lo hi : CO) | rev (z : Bool) (a : CE)
  | call (k : Nat) (es : CEs) | kall (k : Nat) (gs : List Nat) (es ks : CEs) | isi (a : CE) (t : Ty) | isi2 (a : CE) (ts : List Ty) | sme (m : SM) (a : CE) (es : CEs) | fst (es : CEs) | bi (b : BI) (es : CEs) | meth (m : Me) (a : CE) (es : CEs)
  | lc (m : Bool) (elt : CE) (own : List (Str × Nat)) (tg : Tg) (it : CI) (cond : CO)
inductive CEs where
  | nil | cons (a : CE) (es : CEs)
inductive CO where
  | none | some (a : CE)
inductive CI where
  | seq (a : CE) | rng1 (a : CE) | rng2 (a b : CE) | rng3 (a b c : CE) | zip (a b : CE) | enum (a : CE)
end
/-- targets of an unpacking -/
inductive CT where
  | nm (i : Nat) | sub (a i : CE)
mutual
inductive CS where
  | ret (a : CE) | retN | ife (c : CE) (a b : CSs) | asg (t : Tg) (e : CE) | par (is : List Nat) (es : CEs) | seti (a i e : CE) | unp (ts : List CT) (e : CE)
  | for_ (tg : Tg) (it : CI) (b : CSs) | whl (n : Nat) (c : CE) (b : CSs) | expr (e : CE) | pass | brk | cnt | raise (c : Nat) (e : CE) | never
inductive CSs where
  | nil | cons (a : CS) (r : CSs)
end

/-! ### the meaning -/
abbrev Calls := Nat → List Val → Store → Out Val
def dVar (i : Nat) : TD Val := fun ρ S => match ρ[i]? with
  | some (some v) => .ok v S
  | _ => .stuck
def dCst (d : PyData) : TD Val := fun _ S => .ok (.d d) S
def dB2 (φ : Val → Val → Store → Out Val) (a b : TD Val) : TD Val := fun ρ S => (a ρ S).bind fun v S1 => (b ρ S1).bind fun u S2 => φ v u S2
def dU (φ : Val → Store → Out Val) (a : TD Val) : TD Val := fun ρ S => (a ρ S).bind fun v S1 => φ v S1
def dN (φ : List Val → Store → Out Val) (es : TD (List Val)) : TD Val := fun ρ S => (es ρ S).bind fun vs S1 => φ vs S1
/-- a truth value -/
def tobV (v : Val) (S : Store) : Out Bool := match v with
  | .d (.bool b) => .ok b S
  | _ => .stuck
def ofB (o : Out Bool) : Out Val := o.bind fun b S => .ok (.d (.bool b)) S
def truO (v : Val) (S : Store) : Out Bool := match truV S v with
  | some b => .ok b S
  | none => .stuck
def dIf {α : Type} (c : TD Bool) (a b : TD α) : TD α := fun ρ S => (c ρ S).bind fun k S1 => if k = true then a ρ S1 else b ρ S1
def elsOf : List Val → Option (List El)
  | [] => some []
  | .d x :: r => (elsOf r).map (.d x :: ·)
  | .loc n :: r => (elsOf r).map (.loc n :: ·)
  | _ => none
def lstV (m : Bool) (vs : List Val) (S : Store) : Out Val := match datas vs with
  | some xs => if xs.length ≤ sizeLine then (if m = true then .ok (.loc S.length) (S ++ [.lst xs]) else .ok (.d (.list xs)) S) else .stuck
  | none => match elsOf vs with
    | some es => if es.length ≤ sizeLine ∧ m = false then .ok (.ls es) S else .stuck
    | none => .stuck
def tupV (vs : List Val) (S : Store) : Out Val := match datas vs with
  | some xs => okIf (xs.length ≤ sizeLine) (.tuple xs) S
  | none => match elsOf vs with
    | some es => if es.length ≤ sizeLine then .ok (.tp es) S else .stuck
    | none => .stuck
/-- what a loop walks: the items; what the store must hold at each turn -/
structure Itm where
  vs : List Val
  n : Option (Nat × List PyData)
def Itm.ck (w : Itm) (S : Store) : Prop := match w.n with
  | none => True
  | some (n, xs) => S[n]? = some (.lst xs)
def seqI (v : Val) (S : Store) : Out Itm := match v with
  | .d (.list xs) => .ok ⟨xs.map .d, none⟩ S
  | .d (.tuple xs) => .ok ⟨xs.map .d, none⟩ S
  | .d (.str z) => .ok ⟨z.cps.toList.map fun c => .d (.str ⟨#[c]⟩), none⟩ S
  | .loc n => match S[n]? with
    | some (.lst xs) => .ok ⟨xs.map .d, some (n, xs)⟩ S
    | _ => .stuck
  | _ => .stuck
def rngI (lo : Int) (n : Nat) : Itm := ⟨(List.range n).map fun (i : Nat) => Val.d (.int (lo + (i : Int))), none⟩
def rng1I (v : Val) (S : Store) : Out Itm := match v with
  | .d (.int j) => if -(2 ^ 62) ≤ j ∧ j < 2 ^ 62 then .ok (rngI 0 j.toNat) S else .stuck
  | _ => .stuck
def rng2I (v u : Val) (S : Store) : Out Itm := match v, u with
  | .d (.int i), .d (.int j) => if -(2 ^ 62) ≤ i ∧ i < 2 ^ 62 ∧ -(2 ^ 62) ≤ j ∧ j < 2 ^ 62 then .ok (rngI i (j - i).toNat) S else .stuck
  | _, _ => .stuck
/-- range(i, j, -1) -/
def rng3I (v u w : Val) (S : Store) : Out Itm := match v, u, w with
  | .d (.int i), .d (.int j), .d (.int c) => if c = -1 ∧ -(2 ^ 62) ≤ i ∧ i < 2 ^ 62 ∧ -(2 ^ 62) ≤ j ∧ j < 2 ^ 62 then .ok ⟨(List.range (i - j).toNat).map fun (k : Nat) => Val.d (.int (i - (k : Int))), none⟩ S else .stuck
  | _, _, _ => .stuck
def zipI (v u : Val) (S : Store) : Out Itm := match v, u with
  | .d (.list xs), .d (.list ys) => .ok ⟨(xs.zip ys).map fun p => .d (.tuple [p.1, p.2]), none⟩ S
  | .d (.tuple xs), .d (.tuple ys) => .ok ⟨(xs.zip ys).map fun p => .d (.tuple [p.1, p.2]), none⟩ S
  | _, _ => .stuck
def enumI (v : Val) (S : Store) : Out Itm := match v with
  | .d (.list xs) => .ok ⟨xs.zipIdx.map fun p => .d (.tuple [.int (p.2 : Int), p.1]), none⟩ S
  | .d (.tuple xs) => .ok ⟨xs.zipIdx.map fun p => .d (.tuple [.int (p.2 : Int), p.1]), none⟩ S
  | .d (.str z) => .ok ⟨(z.cps.toList.map fun c => PyData.str ⟨#[c]⟩).zipIdx.map fun p => .d (.tuple [.int (p.2 : Int), p.1]), none⟩ S
  | _ => .stuck
/-- names are bound one by one -/
def setAll : List Nat → List PyData → EnvD → EnvD
  | i :: is, x :: xs, ρ => setAll is xs (ρ.set i (some (.d x)))
  | _, _, ρ => ρ
def setEls : List Nat → List El → EnvD → EnvD
  | i :: is, x :: xs, ρ => setEls is xs (ρ.set i (some x.val))
  | _, _, ρ => ρ
def tgt (t : Tg) (v : Val) (ρ : EnvD) : Option EnvD := match t, v with
  | .tup is, .tp xs => if xs.length = is.length then some (setEls is xs ρ) else none
  | .nm i, v => some (ρ.set i (some v))
  | .tup is, .d (.tuple xs) => if xs.length = is.length then some (setAll is xs ρ) else none
  | .nest i is, .d (.tuple [x, .tuple ys]) => if ys.length = is.length then some (setAll is ys (ρ.set i (some (.d x)))) else none
  | _, _ => none
def wipeD (ρ : EnvD) : List Nat → EnvD
  | [] => ρ
  | v :: vs => (wipeD ρ vs).set v none
open Classical in
/-- a comprehension's turns; acc: what is made so far -/
noncomputable def lcD (w : Itm) (tg : Tg) (cond : TD Bool) (elt : TD Val) (ρ : EnvD) : List Val → List PyData → Store → Out (List PyData)
  | [], acc, S => if w.ck S then .ok acc S else .stuck
  | v :: vs, acc, S => if w.ck S then match tgt tg v ρ with
      | some ρ1 => match cond ρ1 S with
        | .ok true S1 => match elt ρ1 S1 with
          | .ok (.d x) S2 => if acc.length < sizeLine then lcD w tg cond elt ρ vs (acc ++ [x]) S2 else .stuck
          | _ => .stuck
        | .ok false S1 => lcD w tg cond elt ρ vs acc S1
        | _ => .stuck
      | none => .stuck
    else .stuck
noncomputable def dLc (m : Bool) (it : TD Itm) (own : List Nat) (tg : Tg) (cond : TD Bool) (elt : TD Val) : TD Val := fun ρ S => match it ρ S with
  | .ok w S1 => match lcD w tg cond elt (wipeD ρ own) w.vs [] S1 with
    | .ok xs S2 => if m = true then .ok (.loc S2.length) (S2 ++ [.lst xs]) else .ok (.d (.list xs)) S2
    | _ => .stuck
  | _ => .stuck
def dCall (C : Calls) (k : Nat) (es : TD (List Val)) : TD Val := dN (C k) es
/-- the values by places: positional ones, then those of keywords -/
def pick (gs : List Nat) (vs : List Val) : Option (List Val) := gs.mapM fun i => vs[i]?
def dKall (C : Calls) (k : Nat) (gs : List Nat) (es ks : TD (List Val)) : TD Val := fun ρ S => (es ρ S).bind fun vs S1 => (ks ρ S1).bind fun us S2 => match pick gs (vs ++ us) with
  | some ws => C k ws S2
  | none => .stuck
def isiV (t : Ty) (v : Val) (S : Store) : Out Val := match isTy S v t with
  | some b => .ok (.d (.bool b)) S
  | none => .stuck
def isiV2 (ts : List Ty) (v : Val) (S : Store) : Out Val := match isTys S v ts with
  | some b => .ok (.d (.bool b)) S
  | none => .stuck
section
variable (Gl : List PyData) (C : Calls)
mutual
noncomputable def dE : CE → TD Val
  | .var i => dVar i
  | .cst d => dCst d
  | .glb k => match Gl[k]? with
    | some d => dCst d
    | none => fun _ _ => .stuck
  | .fnv k => fun _ S => .ok (.fn k) S
  | .bin op a b => dB2 (binV op) (dE a) (dE b)
  | .cmp op a b => dB2 (cmpV op) (dE a) (dE b)
  | .chn o1 o2 a b c => fun ρ S => (dE a ρ S).bind fun v S1 => (dE b ρ S1).bind fun u S2 => (cmpV o1 v u S2).bind fun k S3 => (tobV k S3).bind fun kb S4 => if kb = true then (dE c ρ S4).bind fun z S5 => cmpV o2 u z S5 else .ok (.d (.bool false)) S4
  | .and es => dAnd es
  | .or es => dOr es
  | .not a => fun ρ S => (dE a ρ S).bind fun v S1 => (tobV v S1).bind fun b S2 => .ok (.d (.bool !b)) S2
  | .ife c a b => dIf (dT c) (dE a) (dE b)
  | .tup es => dN tupV (dEs es)
  | .lst m es => dN (lstV m) (dEs es)
  | .idx a i => dB2 idxV (dE a) (dE i)
  | .sli a lo hi => fun ρ S => (dE a ρ S).bind fun v S1 => (dO lo ρ S1).bind fun l S2 => (dO hi ρ S2).bind fun h S3 => sliV v l h S3
  | .rev z a => dU (revV z) (dE a)
  | .call k es => dCall C k (dEs es)
  | .kall k gs es ks => dKall C k gs (dEs es) (dEs ks)
  | .isi a t => dU (isiV t) (dE a)
  | .isi2 a ts => dU (isiV2 ts) (dE a)
  | .sme m a es => fun ρ S => (dE a ρ S).bind fun v S1 => (strO v S1).bind fun x S2 => (dEs es ρ S2).bind fun vs S3 => smV m x vs S3
  | .fst es => dF es Str.empty
  | .bi b es => dN (biV b) (dEs es)
  | .meth m a es => fun ρ S => (dE a ρ S).bind fun u S0 => (recV u S0).bind fun v S1 => (dEs es ρ S1).bind fun vs S2 => meV m v vs S2
  | .lc m elt own tg it cond => dLc m (dI it) (own.map (·.2)) tg (dC cond) (dE elt)
noncomputable def dEs : CEs → TD (List Val)
  | .nil => fun _ S => .ok [] S
  | .cons a es => fun ρ S => (dE a ρ S).bind fun v S1 => (dEs es ρ S1).bind fun vs S2 => .ok (v :: vs) S2
/-- the fields of an f-string, one behind the other -/
noncomputable def dF : CEs → Str → TD Val
  | .nil, acc => fun _ S => .ok (.d (.str acc)) S
  | .cons a es, acc => fun ρ S => (dE a ρ S).bind fun v S1 => (fmtO v S1).bind fun y S2 => if (acc ++ y).length ≤ sizeLine then dF es (acc ++ y) ρ S2 else .stuck
noncomputable def dO : CO → TD (Option Int)
  | .none => fun _ S => .ok none S
  | .some a => fun ρ S => (dE a ρ S).bind prtV
/-- a comprehension's test -/
noncomputable def dC : CO → TD Bool
  | .none => fun _ S => .ok true S
  | .some a => dT a
noncomputable def dI : CI → TD Itm
  | .seq a => fun ρ S => (dE a ρ S).bind seqI
  | .rng1 a => fun ρ S => (dE a ρ S).bind rng1I
  | .rng2 a b => fun ρ S => (dE a ρ S).bind fun v S1 => (dE b ρ S1).bind fun u S2 => rng2I v u S2
  | .rng3 a b c => fun ρ S => (dE a ρ S).bind fun v S1 => (dE b ρ S1).bind fun u S2 => (dE c ρ S2).bind fun w S3 => rng3I v u w S3
  | .zip a b => fun ρ S => (dE a ρ S).bind fun v S1 => (dE b ρ S1).bind fun u S2 => zipI v u S2
  | .enum a => fun ρ S => (dE a ρ S).bind enumI
noncomputable def dAnd : CEs → TD Val
  | .nil => fun _ _ => .stuck
  | .cons a .nil => dE a
  | .cons a (.cons b r) => fun ρ S => (dE a ρ S).bind fun v S1 => (tobV v S1).bind fun k S2 => if k = true then dAnd (.cons b r) ρ S2 else .ok (.d (.bool false)) S2
noncomputable def dOr : CEs → TD Val
  | .nil => fun _ _ => .stuck
  | .cons a .nil => dE a
  | .cons a (.cons b r) => fun ρ S => (dE a ρ S).bind fun v S1 => (tobV v S1).bind fun k S2 => if k = true then .ok (.d (.bool true)) S2 else dOr (.cons b r) ρ S2
/-- a test -/
noncomputable def dT : CE → TD Bool
  | .and es => tAnd es
  | .or es => tOr es
  | .not a => fun ρ S => (dT a ρ S).bind fun b S1 => .ok (!b) S1
  | .cmp op a b => fun ρ S => (dB2 (cmpV op) (dE a) (dE b) ρ S).bind tobV
  | .chn o1 o2 a b c => fun ρ S => (dE a ρ S).bind fun v S1 => (dE b ρ S1).bind fun u S2 => (cmpV o1 v u S2).bind fun k S3 => (tobV k S3).bind fun kb S4 => if kb = true then (dE c ρ S4).bind fun z S5 => (cmpV o2 u z S5).bind tobV else .ok false S4
  | .var i => fun ρ S => (dVar i ρ S).bind truO
  | .idx a i => fun ρ S => (dB2 idxV (dE a) (dE i) ρ S).bind truO
  | .call k es => fun ρ S => (dCall C k (dEs es) ρ S).bind truO
  | .isi a t => fun ρ S => (dU (isiV t) (dE a) ρ S).bind truO
  | .isi2 a ts => fun ρ S => (dU (isiV2 ts) (dE a) ρ S).bind truO
  | .bi b es => fun ρ S => (dN (biV b) (dEs es) ρ S).bind truO
  | .cst d => fun ρ S => (dCst d ρ S).bind truO
  | _ => fun _ _ => .stuck
noncomputable def tAnd : CEs → TD Bool
  | .nil => fun _ _ => .stuck
  | .cons a .nil => dT a
  | .cons a (.cons b r) => fun ρ S => (dT a ρ S).bind fun k S1 => if k = true then tAnd (.cons b r) ρ S1 else .ok false S1
noncomputable def tOr : CEs → TD Bool
  | .nil => fun _ _ => .stuck
  | .cons a .nil => dT a
  | .cons a (.cons b r) => fun ρ S => (dT a ρ S).bind fun k S1 => if k = true then .ok true S1 else tOr (.cons b r) ρ S1
end
/-! ### statements -/
def SOut.seq (o : SOut) (k : EnvD → Store → SOut) : SOut := match o with
  | .next ρ S => k ρ S
  | o => o
def Out.s {α : Type} (o : Out α) (ρ : EnvD) (k : α → Store → SOut) : SOut := match o with
  | .ok a S => k a S
  | .err e S => .err e ρ S
  | .stuck => .stuck
open Classical in
noncomputable def forD (w : Itm) (tg : Tg) (body : SD) : List Val → EnvD → Store → SOut
  | [], ρ, S => if w.ck S then .next ρ S else .stuck
  | v :: vs, ρ, S => if w.ck S then match tgt tg v ρ with
      | some ρ1 => match body ρ1 S with
        | .next ρ2 S2 => forD w tg body vs ρ2 S2
        | .cont ρ2 S2 => forD w tg body vs ρ2 S2
        | .brk ρ2 S2 => .next ρ2 S2
        | .ret u S2 => .ret u S2
        | .err e ρ2 S2 => .err e ρ2 S2
        | .stuck => .stuck
      | none => .stuck
    else .stuck
def whlD (c : TD Bool) (body : SD) : Nat → EnvD → Store → SOut
  | 0, _, _ => .stuck
  | n + 1, ρ, S => (c ρ S).s ρ fun k S1 => if k = true then match body ρ S1 with
      | .next ρ2 S2 => whlD c body n ρ2 S2
      | .cont ρ2 S2 => whlD c body n ρ2 S2
      | .brk ρ2 S2 => .next ρ2 S2
      | o => o
    else .next ρ S1
/-- the targets of an unpacking, from the left -/
noncomputable def unpD : List CT → List PyData → SD
  | [], _, ρ, S => .next ρ S
  | .nm i :: ts, x :: xs, ρ, S => unpD ts xs (ρ.set i (some (.d x))) S
  | .sub a i :: ts, x :: xs, ρ, S => ((dE Gl C a ρ S).bind fun v S1 => (dE Gl C i ρ S1).bind fun u S2 => setV v u (.d x) S2).s ρ fun _ S3 => unpD ts xs ρ S3
  | _, _, _, _ => .stuck
/-- a, b = x, y: stored from the right (no name twice) -/
def parD : List Nat → List Val → EnvD → EnvD
  | i :: is, v :: vs, ρ => parD is vs (ρ.set i (some v))
  | _, _, ρ => ρ
mutual
noncomputable def dS : CS → SD
  | .ret a => fun ρ S => (dE Gl C a ρ S).s ρ fun v S1 => .ret v S1
  | .retN => fun _ S => .ret (.d .none) S
  | .ife c a b => fun ρ S => (dT Gl C c ρ S).s ρ fun k S1 => if k = true then dSs a ρ S1 else dSs b ρ S1
  | .asg t e => fun ρ S => (dE Gl C e ρ S).s ρ fun v S1 => match tgt t v ρ with
    | some ρ1 => .next ρ1 S1
    | none => .stuck
  | .par is es => fun ρ S => (dEs Gl C es ρ S).s ρ fun vs S1 => if vs.length = is.length then .next (parD is vs ρ) S1 else .stuck
  | .seti a i e => fun ρ S => ((dE Gl C e ρ S).bind fun w S1 => (dE Gl C a ρ S1).bind fun v S2 => (dE Gl C i ρ S2).bind fun u S3 => setV v u w S3).s ρ fun _ S4 => .next ρ S4
  | .unp ts e => fun ρ S => (dE Gl C e ρ S).s ρ fun v S1 => match v with
    | .d (.tuple xs) => if xs.length = ts.length then unpD Gl C ts xs ρ S1 else .stuck
    | _ => .stuck
  | .for_ tg it b => fun ρ S => (dI Gl C it ρ S).s ρ fun w S1 => forD w tg (dSs b) w.vs ρ S1
  | .whl n c b => fun ρ S => whlD (dT Gl C c) (dSs b) n ρ S
  | .expr e => fun ρ S => (dE Gl C e ρ S).s ρ fun _ S1 => .next ρ S1
  | .pass => fun ρ S => .next ρ S
  | .brk => fun ρ S => .brk ρ S
  | .cnt => fun ρ S => .cont ρ S
  | .raise c e => fun ρ S => (dE Gl C e ρ S).s ρ fun v S1 => match v with
    | .d x => .err ⟨c, x⟩ ρ S1
    | _ => .stuck
  | .never => fun _ _ => .stuck
noncomputable def dSs : CSs → SD
  | .nil => fun ρ S => .next ρ S
  | .cons a r => fun ρ S => (dS a ρ S).seq fun ρ1 S1 => dSs r ρ1 S1
end
end
/-! ### defs -/
/-- data, or a list made since -/
def newEl (n : Nat) : El → Bool
  | .d _ => true
  | .loc m => decide (n ≤ m)
def allD : List El → Bool
  | [] => true
  | .d _ :: r => allD r
  | _ => false
/-- the one list in it: where it stood; the parts with its new place -/
def oldLoc (n : Nat) : List El → Option (Nat × List El)
  | [] => none
  | .d x :: r => (oldLoc n r).map fun p => (p.1, .d x :: p.2)
  | .loc m :: r => if allD r = true then some (m, .loc n :: r) else none
/-- the store behind a call: what the callee made is dropped, but the list it hands back (mu: to be written further) -/
def back (mu : Bool) (n : Nat) (v : Val) (S : Store) : Out Val := match v with
  | .loc m => if m < n then .ok v (S.take n) else match S[m]? with
    | some (.lst xs) => if mu = true then .ok (.loc n) (S.take n ++ [.lst xs]) else .ok (.d (.list xs)) (S.take n)
    | none => .stuck
  | .tp es => if es.all (newEl n) = true then (if mu = true then match oldLoc n es with
      | some (m, es') => match S[m]? with
        | some ob => .ok (.tp es') (S.take n ++ [ob])
        | none => .stuck
      | none => .stuck
    else match elsD S es with
      | some xs => .ok (.d (.tuple xs)) (S.take n)
      | none => .stuck) else .stuck
  | .ls _ => .stuck
  | v => .ok v (S.take n)
def ofS (mu : Bool) (n : Nat) : SOut → Out Val
  | .next _ S => .ok (.d .none) (S.take n)
  | .ret v S => back mu n v S
  | .err e _ S => .err e (S.take n)
  | _ => .stuck
structure Df where
  np : Nat
  nn : Nat
  body : CSs
  mu : Bool := false
def entry (np nn : Nat) (vs : List Val) : EnvD := vs.map some ++ List.replicate (nn - vs.length) none
/-- what the defs do, n calls deep -/
noncomputable def sem (Gl : List PyData) (T : List Df) : Nat → Calls
  | 0 => fun _ _ _ => .stuck
  | n + 1 => fun k vs S => match T[k]? with
    | some d => if vs.length = d.np then ofS d.mu S.length (dSs Gl (sem Gl T n) d.body (entry d.np d.nn vs) S) else .stuck
    | none => .stuck
end Ev
end

section
set_option Elab.async false
set_option linter.all false
set_option maxRecDepth 100000
set_option maxHeartbeats 4000000
/-! E3: the operations on values, by the hand layer's rules -/
namespace Ev
open PySem PySem.Spec PyProof.Rows L2

theorem OpR.or {X : Cx} {f : Value → Value → Sem Value} {r r' : R2} (h : OpR X f r) (h' : OpR X f r') : OpR X f (fun x y H Q => r x y H Q ∨ r' x y H Q) := by
  intro pins s σ H x y v u Q I rx ry q
  rcases q with q | q
  · exact h pins s σ H x y v u Q I rx ry q
  · exact h' pins s σ H x y v u Q I rx ry q
/-! ### data as the layer's data -/
mutual
theorem Da.dp {K : PySem.W.Frag} {F H : Hp} (e : ∀ b o, F b = some o → H b = some o) : ∀ {d : PyData} {v : V}, d.canLay0 = true → Da K F v d → Dp K H v d
  | _, _, _, .non => .non
  | _, _, _, .bl b => .bl b
  | _, _, _, .int b => .int b
  | _, _, _, .str b => .str b
  | _, _, c, .lst h t => .lst (.inl (Rd.sub e h)) (DaAll.dp e (by simpa [PyData.canLay0] using c) t)
  | _, _, c, .tup h t => .tup (SqT.sub e h) (DaAll.dp e (by simpa [PyData.canLay0] using c) t)
  | _, _, c, .dct _ => by simp [PyData.canLay0] at c
theorem DaAll.dp {K : PySem.W.Frag} {F H : Hp} (e : ∀ b o, F b = some o → H b = some o) : ∀ {ds : List PyData} {vs : List V}, PyData.canLayAll0 ds = true → DaAll K F vs ds → DpAll K H vs ds
  | _, _, _, .nil => .nil
  | _, _, c, .cons h t => by
    have c' : _ = true ∧ _ = true := Bool.and_eq_true_iff.mp (by simpa [PyData.canLayAll0] using c)
    exact .cons (Da.dp e c'.1 h) (DaAll.dp e c'.2 t)
end
section
variable {g : Gc} {F : Hp} {f : List Addr} {R : Rs} {S : Store} {H : Hp}
theorem els_da (s : Sm g F f R S H) : ∀ {es : List El} {xs : List V} {ds : List PyData}, ElRs g F f xs es → elsD S es = some ds → DaAll g.K H xs ds
  | [], _, _, .nil, e => by cases e; exact .nil
  | .d x :: es, _, _, .cons r t, e => by
    unfold elsD at e
    cases q : elsD S es with
    | none => rw [q] at e; cases e
    | some l => rw [q] at e; cases e; exact .cons (Da.sub s.le r) (els_da s t q)
  | .loc n :: es, _, _, .cons r t, e => by
    unfold elsD at e
    split at e
    · rename_i zs hS
      cases q : elsD S es with
      | none => rw [q] at e; cases e
      | some l =>
        rw [q] at e; cases e
        obtain ⟨a, h1, rfl⟩ := r
        obtain ⟨a', ys, q1, q2, q3⟩ := s.getL hS
        rw [h1] at q1; cases q1
        exact .cons (.lst (.inl q2) (DaAll.sub s.le q3)) (els_da s t q)
    · cases e
theorem dat_dp (s : Sm g F f R S H) {v : Val} {x : V} {d : PyData} (r : VR g F f x v) (e : datOf S v = some d) (c : SeqAt.shaped d = true) : Dp g.K H x d := by
  have c' := SeqAt.canLay_of_shaped c
  cases v with
  | d y => cases e; exact Da.dp s.le c' r
  | fn k => cases e
  | tp es =>
    obtain ⟨a, xs, rfl, h1, h2⟩ := r
    cases q : elsD S es with
    | none => simp [datOf, q] at e
    | some l =>
      simp [datOf, q] at e
      subst e
      exact Da.dp (fun _ _ z => z) c' (.tup (SqT.sub s.le h1) (els_da s h2 q))
  | ls es =>
    obtain ⟨a, xs, rfl, h1, h2⟩ := r
    cases q : elsD S es with
    | none => simp [datOf, q] at e
    | some l =>
      simp [datOf, q] at e
      subst e
      exact Da.dp (fun _ _ z => z) c' (.lst (Rd.sub s.le h1) (els_da s h2 q))
  | loc n =>
    obtain ⟨a, h1, rfl⟩ := r
    unfold datOf at e
    split at e
    · rename_i xs hx
      cases hx
    · rename_i n' hx
      cases hx
      split at e
      · rename_i xs hS
        cases e
        obtain ⟨a', ys, q1, q2, q3⟩ := s.getL hS
        rw [h1] at q1; cases q1
        exact .lst (.inl (.inl q2)) (DaAll.dp s.le (by simpa [PyData.canLay0] using c') q3)
      · cases e
    all_goals (rename_i z; cases z)
/-- a sequence as it is read -/
theorem seq_of (s : Sm g F f R S H) {v : Val} {x : V} {ds : List PyData} (r : VR g F f x v) (e : seqOf S v = some ds) : ∃ a xs, x = .ref a ∧ (Rd H a (.lst xs) ∨ (SqT g.K H a xs ∧ v = .d (.tuple ds))) ∧ DaAll g.K F xs ds := by
  unfold seqOf at e
  split at e
  · cases e
    cases r with
    | lst h t => exact ⟨_, _, rfl, .inl (Rd.sub s.le h), t⟩
  · cases e
    cases r with
    | tup h t => exact ⟨_, _, rfl, .inr ⟨SqT.sub s.le h, rfl⟩, t⟩
  · split at e
    · rename_i xs hS
      cases e
      obtain ⟨a, h1, rfl⟩ := r
      obtain ⟨a', ys, q1, q2, q3⟩ := s.getL hS
      rw [h1] at q1; cases q1
      exact ⟨_, _, rfl, .inl (.inl q2), q3⟩
    · cases e
  · cases e
theorem lst_of (s : Sm g F f R S H) {v : Val} {x : V} {ds : List PyData} (r : VR g F f x v) (e : lstOf S v = some ds) : ∃ a xs, x = .ref a ∧ Rd H a (.lst xs) ∧ DaAll g.K F xs ds := by
  unfold lstOf at e
  split at e
  · cases e
    cases r with
    | lst h t => exact ⟨_, _, rfl, Rd.sub s.le h, t⟩
  · split at e
    · rename_i xs hS
      cases e
      obtain ⟨a, h1, rfl⟩ := r
      obtain ⟨a', ys, q1, q2, q3⟩ := s.getL hS
      rw [h1] at q1; cases q1
      exact ⟨_, _, rfl, .inl q2, q3⟩
    · cases e
  · cases e
theorem ints_da {K : PySem.W.Frag} {F : Hp} : ∀ {ds : List PyData} {xs : List V} {ns : List Int}, DaAll K F xs ds → intsOf ds = some ns → xs = ns.map V.int
  | _, _, _, .nil, e => by cases e; rfl
  | _, _, _, .cons (d := d) (ds := ds) h t, e => by
    unfold intsOf at e
    split at e
    · rename_i hn; cases hn
    · rename_i i r q
      cases q
      cases q2 : intsOf ds with
      | none => rw [q2] at e; cases e
      | some ms =>
        rw [q2] at e
        cases e
        cases h
        rw [ints_da t q2]; rfl
    · cases e
theorem bools_da {K : PySem.W.Frag} {F : Hp} : ∀ {ds : List PyData} {xs : List V} {ns : List Bool}, DaAll K F xs ds → boolsOf ds = some ns → xs = ns.map V.bl
  | _, _, _, .nil, e => by cases e; rfl
  | _, _, _, .cons (d := d) (ds := ds) h t, e => by
    unfold boolsOf at e
    split at e
    · rename_i hn; cases hn
    · rename_i i r q
      cases q
      cases q2 : boolsOf ds with
      | none => rw [q2] at e; cases e
      | some ms =>
        rw [q2] at e
        cases e
        cases h
        rw [bools_da t q2]; rfl
    · cases e
end

/-! ### two-place operations -/
abbrev WH := Value → Option Addr → Hp → Prop
def RealB (g : Gc) (r : R2) (φ : Val → Val → Store → Out Val) : Prop := ∀ (F : Hp) (f : List Addr) (R : Rs) (S : Store) (H : Hp) (x y : V) (v u : Val) (W : WH) (Q : VK), Sm g F f R S H → VR g F f x v → VR g F f y u →
  Sat g F f R W (φ v u S) (fun w F' f' S' H' => ∀ z, VR g F' f' z w → Q z H') → r x y H Q
/-- a value that stays as it is -/
theorem sat_d {g : Gc} {F : Hp} {f : List Addr} {R : Rs} {S : Store} {H : Hp} {W : WH} {Q : VK} {v : Val} (h : Sat g F f R W (.ok v S) (fun w F' f' S' H' => ∀ z, VR g F' f' z w → Q z H')) (s : Sm g F f R S H) {z : V} (r : VR g F f z v) : Q z H := h.ok s z r
/-- a new tuple, a new list -/
theorem sat_tup {g : Gc} {F : Hp} {f : List Addr} {R : Rs} {S : Store} {H : Hp} {W : WH} {Q : VK} {ds : List PyData} {xs : List V} (h : Sat g F f R W (.ok (.d (.tuple ds)) S) (fun w F' f' S' H' => ∀ z, VR g F' f' z w → Q z H')) (s : Sm g F f R S H) (t : DaAll g.K F xs ds)
    {p : Addr} (hp : H p = none) : Q (.ref p) (upd H p (.tup xs)) := by
  obtain ⟨s1, e1⟩ := s.new (o := .tup xs) hp
  exact h _ _ _ e1 s1 (.ref p) (.tup (.inl (.inl upd_same)) (DaAll.sub e1.le t))
theorem sat_lst {g : Gc} {F : Hp} {f : List Addr} {R : Rs} {S : Store} {H : Hp} {W : WH} {Q : VK} {ds : List PyData} {xs : List V} (h : Sat g F f R W (.ok (.d (.list ds)) S) (fun w F' f' S' H' => ∀ z, VR g F' f' z w → Q z H')) (s : Sm g F f R S H) (t : DaAll g.K F xs ds)
    {p : Addr} (hp : H p = none) : Q (.ref p) (upd H p (.lst xs)) := by
  obtain ⟨s1, e1⟩ := s.new (o := .lst xs) hp
  exact h _ _ _ e1 s1 (.ref p) (.lst (.inl upd_same) (DaAll.sub e1.le t))
/-- a new mutable list -/
theorem sat_lstM {g : Gc} {F : Hp} {f : List Addr} {R : Rs} {S : Store} {H : Hp} {W : WH} {Q : VK} {ds : List PyData} {xs : List V} (h : Sat g F f R W (.ok (.loc S.length) (S ++ [.lst ds])) (fun w F' f' S' H' => ∀ z, VR g F' f' z w → Q z H')) (s : Sm g F f R S H) (t : DaAll g.K F xs ds)
    {p : Addr} (hp : H p = none) : Q (.ref p) (upd H p (.lst xs)) := by
  obtain ⟨s1, e1, e2⟩ := s.newM (o := .lst xs) (ob := .lst ds) hp ⟨xs, rfl, t⟩
  exact h _ _ _ e1 s1 (.ref p) ⟨p, e2, rfl⟩
theorem okIf_pos {g : Gc} {F : Hp} {f : List Addr} {R : Rs} {W : WH} {c : Prop} [Decidable c] {x : PyData} {S : Store} {k : Kn Val} (h : Sat g F f R W (okIf c x S) k) : c ∧ Sat g F f R W (.ok (.d x) S) k := by
  unfold okIf at h
  by_cases hc : c
  · rw [if_pos hc] at h; exact ⟨hc, h⟩
  · rw [if_neg hc] at h; exact h.elim
/-- a list + a list, readable ones -/
def rCatR : R2 := fun x y H Q => ∃ l b xs zs, x = .ref l ∧ y = .ref b ∧ Rd H l (.lst xs) ∧ Rd H b (.lst zs) ∧ xs.length + zs.length ≤ sizeLine ∧ ∀ p, H p = none → Q (.ref p) (upd H p (.lst (xs ++ zs)))
theorem op_catR {X : Cx} : OpR X (binaryOp .Add) rCatR := by
  intro pins s σ H x y v u Q I rx ry h
  obtain ⟨l, b, xs, zs, rfl, rfl, hH, hB, hz, q⟩ := h
  cases rx
  cases ry
  obtain ⟨_, its, n, r, e⟩ := hH.ok I.hok
  obtain ⟨_, its2, n2, r2, e2⟩ := hB.ok I.hok
  have hl := r.length
  have hl2 := r2.length
  refine PySem.P.add_list e e2 ?_ (by rw [List.size_toArray, List.size_toArray]; omega)
  have ea : its.toArray ++ its2.toArray = (its ++ its2).toArray := by simp
  rw [ea]
  refine ⟨.ref s.heap.objs.size, _, I.laid (t' := s.toks) (o := .lst (xs ++ zs)) (fun b ob q => Heap.get?_push_of_some _ q) (Nat.le_refl _) ?_, rfl, q _ (I.hok.fresh (Nat.le_refl _))⟩
  exact ⟨by rw [List.length_append]; omega, _, 0, r.append r2, Heap.get?_push_size _ rfl⟩
def rAddV (K : PySem.W.Frag) : R2 := fun x y H Q => (rI0 (fun i j => .int (i + j)) x y H Q ∨ (∃ i j, x = .str i ∧ y = .str j ∧ i.length + j.length ≤ sizeLine ∧ Q (.str (i ++ j)) H)) ∨ (rCatA K x y H Q ∨ rCatR x y H Q)
theorem op_addV {X : Cx} : OpR X (binaryOp .Add) (rAddV X.K) := OpR.or (OpR.or op_add op_add_str) (OpR.or op_catA op_catR)
theorem real_add {g : Gc} : RealB g (rAddV g.K) (binV .Add) := by
  intro F f R S H x y v u W Q s rx ry h
  unfold binV at h
  split at h <;> first | (rename_i z; cases z; done) | skip
  · cases rx; cases ry; exact .inl (.inl ⟨_, _, rfl, rfl, sat_d h s (.int _)⟩)
  · obtain ⟨c, h⟩ := okIf_pos h
    cases rx; cases ry; exact .inl (.inr ⟨_, _, rfl, rfl, c, sat_d h s (.str _)⟩)
  · obtain ⟨c, h⟩ := okIf_pos h
    cases rx with
    | tup h1 t1 =>
      cases ry with
      | tup h2 t2 =>
        refine .inr (.inl ⟨_, _, _, _, rfl, rfl, SqT.sub s.le h1, SqT.sub s.le h2, by rw [t1.len, t2.len]; exact c, fun e => ?_, fun n e => ?_, fun n1 n2 p hp => sat_tup h s (t1.append t2) hp⟩)
        · subst e; cases t1
          exact sat_d h s (.tup h2 t2)
        · subst e; cases t2
          refine sat_d h s ?_
          rw [List.append_nil]; exact .tup h1 t1
  · obtain ⟨c, h⟩ := okIf_pos h
    cases rx with
    | lst h1 t1 =>
      cases ry with
      | lst h2 t2 => exact .inr (.inr ⟨_, _, _, _, rfl, rfl, Rd.sub s.le h1, Rd.sub s.le h2, by rw [t1.len, t2.len]; exact c, fun p hp => sat_lst h s (t1.append t2) hp⟩)
  · split at h
    · rename_i e1 e2
      obtain ⟨c, h⟩ := okIf_pos h
      obtain ⟨_, _, rfl, h1, t1⟩ := lst_of s rx e1
      obtain ⟨_, _, rfl, h2, t2⟩ := lst_of s ry e2
      exact .inr (.inr ⟨_, _, _, _, rfl, rfl, h1, h2, by rw [t1.len, t2.len]; exact c, fun p hp => sat_lst h s (t1.append t2) hp⟩)
    · exact h.elim
  · split at h
    · rename_i e1 e2
      obtain ⟨c, h⟩ := okIf_pos h
      obtain ⟨_, _, rfl, h1, t1⟩ := lst_of s rx e1
      obtain ⟨_, _, rfl, h2, t2⟩ := lst_of s ry e2
      exact .inr (.inr ⟨_, _, _, _, rfl, rfl, h1, h2, by rw [t1.len, t2.len]; exact c, fun p hp => sat_lst h s (t1.append t2) hp⟩)
    · exact h.elim
  · split at h
    · rename_i e1 e2
      obtain ⟨c, h⟩ := okIf_pos h
      obtain ⟨_, _, rfl, h1, t1⟩ := lst_of s rx e1
      obtain ⟨_, _, rfl, h2, t2⟩ := lst_of s ry e2
      exact .inr (.inr ⟨_, _, _, _, rfl, rfl, h1, h2, by rw [t1.len, t2.len]; exact c, fun p hp => sat_lst h s (t1.append t2) hp⟩)
    · exact h.elim
  all_goals exact h.elim
theorem real_sub {g : Gc} : RealB g (rI0 (fun i j => .int (i - j))) (binV .Sub) := by
  intro F f R S H x y v u W Q s rx ry h
  unfold binV at h
  split at h <;> first | (rename_i z; cases z; done) | skip
  · cases rx; cases ry; exact ⟨_, _, rfl, rfl, sat_d h s (.int _)⟩
  all_goals exact h.elim

/-- t * 1 is t -/
theorem tuple_mul1 (l : Addr) (items : Array Value) (n : Nat) (dd : Option Addr) (sl : Array (Option Value)) (u : Tok) :
    Meets (Builtin.«tuple.__mul__» ⟨[.ref l, .int 1 u], []⟩) (fun _ R s => s.heap.get? l = some { cls := .type "tuple", dict := dd, data := .seq items n, slots := sl } ∧
      R (.ok (.ret (Value.ref l))) s) :=
  .of_wp fun prog w A R s h => by
    obtain ⟨hp, g, d, t, os⟩ := s
    obtain ⟨hl, h⟩ := h
    have f1 := AutoSeq1.idx_int
    have c0 : (decide ((1 : Int) < -(2 ^ 63)) || decide ((1 : Int) ≥ 2 ^ 63)) = false := by decide
    have c1 : (items.isEmpty || (1 : Int) == 1) = true := by simp
    wp_walk using wpAny_loadPart' hl
    repeat (first
      | (refine wpAny_ite_false (decide_eq_false (by rw [c0]; exact Bool.false_ne_true)) ?_; wp_walk using wpAny_loadPart' hl)
      | (refine wpAny_ite_true (decide_eq_true c1) ?_; wp_walk using wpAny_loadPart' hl))
    exact ⟨_, rfl, h⟩
def rRep1 (K : PySem.W.Frag) : R2 := fun x y H Q => ∃ l xs, x = .ref l ∧ y = .int 1 ∧ SqT K H l xs ∧ Q (.ref l) H
theorem op_rep1 {X : Cx} : OpR X (binaryOp .Mult) (rRep1 X.K) := by
  intro pins s σ H x y v u Q I rx ry h
  obtain ⟨l, xs, rfl, rfl, hT, q⟩ := h
  cases rx
  obtain ⟨t, rfl⟩ := ry
  obtain ⟨its, r, ⟨⟨cls, dd, data, sl⟩, ho, hc, n, hd⟩, hs⟩ := I.tuple hT
  simp only at hc hd
  subst hc hd
  exact wpAny_binaryOp_repeat_ref (T := "tuple") (U := "int") (by decide) ⟨_, ho, rfl⟩ (fun s' => typeIs_int s' 1 t) noFill_tuple_mul F.fills_int_mul F.slot_int_rmul repeat_tuple F.slot_int_index.lookup
    (call_meets F.slot_int_rmul (typeIs_int s 1 t) F.entry_int_rmul (F.args_int_rmul_2 _ _) (int_rmul_tuple 1 t l its.toArray n dd sl)
      ⟨ho, rfl, ⟨_, ho, rfl⟩, call_meets F.slot_tuple_mul ⟨_, ho, rfl⟩ F.entry_tuple_mul (F.args_tuple_mul_2 _ _) (tuple_mul1 l its.toArray n dd sl t) ⟨ho, ⟨.ref l, H, I, rfl, q⟩⟩⟩)
theorem DaAll.rep {K : PySem.W.Frag} {F : Hp} {v : List V} {d : List PyData} (h : DaAll K F v d) : ∀ n : Nat, DaAll K F (List.replicate n v).flatten (List.replicate n d).flatten
  | 0 => .nil
  | n + 1 => by
    rw [List.replicate_succ, List.replicate_succ, List.flatten_cons, List.flatten_cons]
    exact h.append (DaAll.rep h n)
/-- a list that is read, times an int -/
def rMulR : R2 := fun x y H Q => ∃ a j us, x = .ref a ∧ y = .int j ∧ Rd H a (.lst us) ∧ (-(2 ^ 63) ≤ j ∧ j < 2 ^ 63 ∧ us.length * j.toNat ≤ sizeLine) ∧ ∀ q, H q = none → Q (.ref q) (upd H q (.lst (List.replicate j.toNat us).flatten))
theorem fold_rep (ls : List Value) (m : Nat) : List.foldl (fun x1 x2 => x1 ++ x2) #[] (List.replicate m ls.toArray) = (List.replicate m ls).flatten.toArray := by
  have e := L2.foldl_rep ls m []
  rwa [List.nil_append] at e
theorem op_mulR {X : Cx} : OpR X (binaryOp .Mult) rMulR := by
  rintro pins s σ H _ _ v u Q I rx ry ⟨a, j, us, rfl, rfl, hR, ⟨j1, j2, hz⟩, q⟩
  cases rx
  obtain ⟨tk, rfl⟩ := ry
  obtain ⟨_, ls, n, rs, at_⟩ := hR.ok I.hok
  have small : ls.toArray.size * j.toNat ≤ sizeLine := by
    have := rs.length
    rw [List.size_toArray, ← this]; exact hz
  have cap : ¬ ls.toArray.size * j.toNat > (2 ^ 63 - 1) / 8 := fun z => by
    have le : (sizeLine : Nat) ≤ (2 ^ 63 - 1) / 8 := by decide
    omega
  have fit : ¬ (!Builtin.List.listFitsIndex j) = true := by simp [fitsIndex_both j1 j2]
  have long : ¬ Builtin.List.listTooLong (ls.toArray.size * j.toNat) = true := by rw [notLongL small]; decide
  have made : List.foldl (fun x1 x2 => x1 ++ x2) #[] (List.replicate (if ls.toArray.isEmpty = true then 0 else j.toNat) ls.toArray) = (List.replicate j.toNat ls).flatten.toArray := by
    cases ls with
    | nil => simp
    | cons b r => rw [if_neg (by simp), fold_rep]
  refine wpAny_binaryOp_repeat_ref (U := "int") (T := "list") (by decide) ⟨_, at_, rfl⟩ (fun z => typeIs_int z j tk) noFill_list_mul F.fills_int_mul F.slot_int_rmul repeat_list F.slot_int_index.lookup ?_
  refine call_meets F.slot_int_rmul (typeIs_int s j tk) F.entry_int_rmul (F.args_int_rmul_2 _ _) (int___rmul___int_list j tk a ls.toArray n) ⟨at_, rfl, ⟨_, at_, rfl⟩, ?_⟩
  refine call_meets F.slot_list_mul ⟨_, at_, rfl⟩ F.entry_list_mul (F.args_list_mul_2 _ _) (AutoListH.list___mul___list_int_3 a ls.toArray n j tk fit cap long) ⟨at_, ?_⟩
  rw [made]
  refine ⟨.ref s.heap.objs.size, _, I.laid (t' := s.toks) (o := .lst (List.replicate j.toNat us).flatten) (fun b ob z => Heap.get?_push_of_some _ z) (Nat.le_refl _) ?_, rfl, q _ (I.hok.fresh (Nat.le_refl _))⟩
  exact ⟨by rw [PyProof.Rows.lm_len_rep_flat, Nat.mul_comm]; exact hz, _, 0, rs.rep j.toNat, Heap.get?_push_size _ rfl⟩
/-- a text times an int -/
def rMulS : R2 := fun x y H Q => ∃ (a : Str) (j : Int), x = .str a ∧ y = .int j ∧ (2 ≤ j ∧ j ≤ 1000 ∧ 1 ≤ a.length ∧ a.length ≤ 1000) ∧ Q (.str (repS a j.toNat)) H
theorem op_mulS {X : Cx} : OpR X (binaryOp .Mult) rMulS := by
  rintro pins s σ H _ _ v u Q I rx ry ⟨a, j, rfl, rfl, ⟨j1, j2, a1, a2⟩, q⟩
  obtain ⟨t1, rfl⟩ := rx
  obtain ⟨t2, rfl⟩ := ry
  have hlen : a.length * j.toNat ≤ 1000 * 1000 := Nat.mul_le_mul a2 (by omega)
  have hlong : PySem.Builtin.Str.tooLong (a.length * j.toNat) = false := by
    unfold PySem.Builtin.Str.tooLong
    have : (1000 * 1000 : Nat) ≤ sizeLine := by rw [sizeLine_eq]; decide
    exact decide_eq_false (by omega)
  refine PySem.P.mul_str ?_ ?_ (fun _ _ => hlong) ?_
  · rw [decide_eq_false (by omega), decide_eq_false (by omega)]; rfl
  · intro _ _ z
    have e1 : (a.length : Int) * j ≤ 1000 * 1000 := Int.mul_le_mul (by omega) j2 (by omega) (by decide)
    have e2 : (1000 : Int) ≤ (2 ^ 63 - 1) / j := by
      rw [Int.le_ediv_iff_mul_le (by omega)]
      have : 1000 * j ≤ 1000 * 1000 := by omega
      omega
    omega
  · have n1 : ¬ j < 1 := by omega
    have n2 : ¬ (j == 1 || a.length == 0) = true := by
      simp
      omega
    rw [if_neg n1, if_neg n2]
    refine ⟨?_, .str (repS a j.toNat), H, I.tok _, ⟨_, rfl⟩, q⟩
    show (repS a j.toNat).length ≤ sizeLine
    rw [repS_len, Nat.mul_comm]
    unfold PySem.Builtin.Str.tooLong at hlong
    have := of_decide_eq_false hlong
    omega
def rMulV (K : PySem.W.Frag) : R2 := fun x y H Q => (rI CMul (fun i j => .int (i * j)) x y H Q ∨ (rRepT K x y H Q ∨ rRep1 K x y H Q)) ∨ (rMulR x y H Q ∨ rMulS x y H Q)
theorem op_mulV {X : Cx} : OpR X (binaryOp .Mult) (rMulV X.K) := OpR.or (OpR.or op_mul (OpR.or op_repT op_rep1)) (OpR.or op_mulR op_mulS)
theorem real_mul {g : Gc} : RealB g (rMulV g.K) (binV .Mult) := by
  intro F f R S H x y v u W Q s rx ry h
  unfold binV at h
  split at h <;> first | (rename_i z; cases z; done) | skip
  · obtain ⟨c, h⟩ := okIf_pos h
    cases rx; cases ry; exact .inl (.inl ⟨_, _, rfl, rfl, c, sat_d h s (.int _)⟩)
  · obtain ⟨c, h⟩ := okIf_pos h
    cases ry
    cases rx with
    | tup h1 t1 =>
      rcases c with rfl | ⟨c1, c2, c3, c4⟩
      · refine .inl (.inr (.inr ⟨_, _, rfl, rfl, SqT.sub s.le h1, sat_d h s ?_⟩))
        have e : (List.replicate (1 : Int).toNat ‹List PyData›).flatten = ‹List PyData› := by simp
        rw [e]; exact .tup h1 t1
      · refine .inl (.inr (.inl ⟨_, _, _, rfl, rfl, SqT.sub s.le h1, fun e => ?_, c2, c3, by rw [t1.len]; exact c4, fun p hp => sat_tup h s (t1.rep _) hp⟩))
        subst e; cases t1; cases c1
  · obtain ⟨c, h⟩ := okIf_pos h
    cases ry
    cases rx with
    | lst h1 t1 => exact .inr (.inl ⟨_, _, _, rfl, rfl, Rd.sub s.le h1, by rw [t1.len]; exact c, fun p hp => sat_lst h s (t1.rep _) hp⟩)
  · obtain ⟨c, h⟩ := okIf_pos h
    cases rx; cases ry
    exact .inr (.inr ⟨_, _, rfl, rfl, c, sat_d h s (.str _)⟩)
  all_goals exact h.elim
theorem real_mod {g : Gc} : RealB g (rI (fun _ j => j ≠ 0) fun i j => .int (i.fmod j)) (binV .Mod) := by
  intro F f R S H x y v u W Q s rx ry h
  unfold binV at h
  split at h <;> first | (rename_i z; cases z; done) | skip
  · obtain ⟨c, h⟩ := okIf_pos h
    cases rx; cases ry; exact ⟨_, _, rfl, rfl, c, sat_d h s (.int _)⟩
  all_goals exact h.elim
theorem real_fdiv {g : Gc} : RealB g (rI CDivN fun i j => .int (i.fdiv j)) (binV .FloorDiv) := by
  intro F f R S H x y v u W Q s rx ry h
  unfold binV at h
  split at h <;> first | (rename_i z; cases z; done) | skip
  · obtain ⟨c, h⟩ := okIf_pos h
    cases rx; cases ry; exact ⟨_, _, rfl, rfl, c, sat_d h s (.int _)⟩
  all_goals exact h.elim
theorem real_pow {g : Gc} : RealB g (rI CPow fun i j => .int (i ^ j.toNat)) (binV .Pow) := by
  intro F f R S H x y v u W Q s rx ry h
  unfold binV at h
  split at h <;> first | (rename_i z; cases z; done) | skip
  · obtain ⟨c, h⟩ := okIf_pos h
    cases rx; cases ry; exact ⟨_, _, rfl, rfl, c, sat_d h s (.int _)⟩
  all_goals exact h.elim
def opOk : Operator → Bool
  | .Add | .Sub | .Mult | .Mod | .FloorDiv | .Pow => true
  | _ => false
theorem bin_real {X : Cx} {g : Gc} (hK : g.K = X.K) (op : Operator) (h : opOk op = true) : ∃ r, OpR X (binaryOp op) r ∧ RealB g r (binV op) := by
  cases op <;> first | (cases h; done) | skip
  · exact ⟨_, op_addV, hK ▸ real_add⟩
  · exact ⟨_, op_sub, real_sub⟩
  · exact ⟨_, op_mulV, hK ▸ real_mul⟩
  · exact ⟨_, op_modN, real_mod⟩
  · exact ⟨_, op_pow, real_pow⟩
  · exact ⟨_, op_fdivN, real_fdiv⟩
/-! ### comparisons -/
def rLtV (K : PySem.W.Frag) : R2 := fun x y H Q => rI0 (fun i j => .bl (decide (i < j))) x y H Q ∨ ((∃ i j, x = .str i ∧ y = .str j ∧ Q (.bl (decide (i.cps.toList < j.cps.toList))) H) ∨ rLtT K x y H Q)
theorem op_ltV {X : Cx} (hu : X.A.units < cLine) : OpR X (compareOp .Lt) (rLtV X.K) := OpR.or op_lt (OpR.or op_lt_str (op_ltT hu))
def rLeV : R2 := fun x y H Q => rI0 (fun i j => .bl (decide (i ≤ j))) x y H Q ∨ (∃ i j, x = .str i ∧ y = .str j ∧ Q (.bl (!decide (j.cps.toList < i.cps.toList))) H)
theorem op_leV {X : Cx} : OpR X (compareOp .LtE) rLeV := OpR.or op_le op_le_str
def rEqV (K : PySem.W.Frag) : R2 := fun x y H Q => rEq x y H Q ∨ rEqD K x y H Q
def rNeV (K : PySem.W.Frag) : R2 := fun x y H Q => rNe x y H Q ∨ rNeD K x y H Q
theorem real_eq {g : Gc} : RealB g (rEqV g.K) (cmpV .Eq) := by
  intro F f R S H x y v u W Q s rx ry h
  dsimp only [cmpV] at h
  split at h
  · cases rx
    cases ry
    exact .inl ⟨rfl, sat_d h s (by rw [dec_str]; exact .bl _)⟩
  · split at h
    · rename_i a b e1 e2
      obtain ⟨⟨c1, c2⟩, h⟩ := okIf_pos h
      exact .inr ⟨_, _, dat_dp s rx e1 c1, dat_dp s ry e2 c2, c1, c2, sat_d h s (.bl _)⟩
    · exact h.elim
theorem real_ne {g : Gc} : RealB g (rNeV g.K) (cmpV .NotEq) := by
  intro F f R S H x y v u W Q s rx ry h
  dsimp only [cmpV] at h
  split at h
  · cases rx
    cases ry
    exact .inl ⟨rfl, sat_d h s (by rw [dec_str]; exact .bl _)⟩
  · split at h
    · rename_i a b e1 e2
      obtain ⟨⟨c1, c2⟩, h⟩ := okIf_pos h
      exact .inr ⟨_, _, dat_dp s rx e1 c1, dat_dp s ry e2 c2, c1, c2, sat_d h s (.bl _)⟩
    · exact h.elim
theorem real_lt {g : Gc} : RealB g (rLtV g.K) (cmpV .Lt) := by
  intro F f R S H x y v u W Q s rx ry h
  dsimp only [cmpV] at h
  split at h
  · cases rx; cases ry; exact .inl ⟨_, _, rfl, rfl, sat_d h s (.bl _)⟩
  · cases rx; cases ry; exact .inr (.inl ⟨_, _, rfl, rfl, sat_d h s (.bl _)⟩)
  · split at h
    · rename_i e1 e2
      cases rx with
      | tup h1 t1 =>
        cases ry with
        | tup h2 t2 =>
          have q1 := ints_da t1 e1
          have q2 := ints_da t2 e2
          subst q1 q2
          exact .inr (.inr ⟨_, _, _, _, rfl, rfl, SqT.sub s.le h1, SqT.sub s.le h2, sat_d h s (.bl _)⟩)
    · exact h.elim
  · exact h.elim
theorem real_le {g : Gc} : RealB g rLeV (cmpV .LtE) := by
  intro F f R S H x y v u W Q s rx ry h
  dsimp only [cmpV] at h
  split at h
  · cases rx; cases ry; exact .inl ⟨_, _, rfl, rfl, sat_d h s (.bl _)⟩
  · cases rx; cases ry; exact .inr ⟨_, _, rfl, rfl, sat_d h s (.bl _)⟩
  · exact h.elim
theorem real_gt {g : Gc} : RealB g (rI0 (fun i j => .bl (decide (j < i)))) (cmpV .Gt) := by
  intro F f R S H x y v u W Q s rx ry h
  dsimp only [cmpV] at h
  split at h
  · cases rx; cases ry; exact ⟨_, _, rfl, rfl, sat_d h s (.bl _)⟩
  · exact h.elim
theorem real_ge {g : Gc} : RealB g (rI0 (fun i j => .bl (decide (j ≤ i)))) (cmpV .GtE) := by
  intro F f R S H x y v u W Q s rx ry h
  dsimp only [cmpV] at h
  split at h
  · cases rx; cases ry; exact ⟨_, _, rfl, rfl, sat_d h s (.bl _)⟩
  · exact h.elim
theorem vr_non {g : Gc} {F : Hp} {f : List Addr} {x : V} {v : Val} (r : VR g F f x v) (h : v ≠ .d .none) : decide (x = V.non) = false := by
  refine decide_eq_false fun e => ?_
  subst e
  cases v with
  | d y => cases r; exact h rfl
  | loc n => obtain ⟨a, _, e⟩ := r; cases e
  | fn k => cases r
  | tp es => obtain ⟨_, _, e, _⟩ := r; cases e
  | ls es => obtain ⟨_, _, e, _⟩ := r; cases e
def rIs2 : V → V → Hp → VK → Prop := fun x y H Q => (y = .non ∧ Q (.bl (decide (x = .non))) H) ∨ (∃ a b : Bool, x = .bl a ∧ y = .bl b ∧ Q (.bl (decide (a = b))) H) ∨ (∃ b : Bool, x = .non ∧ y = .bl b ∧ Q (.bl false) H)
theorem op_is2 {X : Cx} : OpR X (compareOp .Is) rIs2 := by
  intro pins s σ H x y v u Q I rx ry h
  rcases h with h | h | ⟨b, rfl, rfl, q⟩
  · exact op_isN pins s σ H x y v u Q I rx ry h
  · exact op_isBl pins s σ H x y v u Q I rx ry h
  · cases (show v = Value.none from rx)
    cases (show u = Value.bool b from ry)
    exact wpAny_is_other rfl (fun z => by cases z) ⟨.bl false, H, I, rfl, q⟩
theorem real_is {g : Gc} : RealB g rIs2 (cmpV .Is) := by
  intro F f R S H x y v u W Q s rx ry h
  dsimp only [cmpV] at h
  split at h
  · cases rx; cases ry; exact .inl ⟨rfl, sat_d h s (.bl _)⟩
  · cases rx; cases ry; exact .inr (.inl ⟨_, _, rfl, rfl, sat_d h s (.bl _)⟩)
  · cases rx; cases ry; exact .inr (.inr ⟨_, rfl, rfl, sat_d h s (.bl _)⟩)
  · rename_i hn
    cases ry
    refine .inl ⟨rfl, ?_⟩
    rw [vr_non rx hn]
    exact sat_d h s (.bl _)
  · exact h.elim
theorem real_isnot {g : Gc} : RealB g (fun x y H Q => y = .non ∧ Q (.bl (!decide (x = .non))) H) (cmpV .IsNot) := by
  intro F f R S H x y v u W Q s rx ry h
  dsimp only [cmpV] at h
  split at h
  · cases rx; cases ry; exact ⟨rfl, sat_d h s (.bl _)⟩
  · rename_i hn
    cases ry
    refine ⟨rfl, ?_⟩
    rw [vr_non rx hn]
    exact sat_d h s (.bl _)
  · exact h.elim
theorem str_one {x : Str} (h : x.length = 1) : x = ⟨#[x.cps.getD 0 0]⟩ := by
  obtain ⟨a⟩ := x
  have h' : a.size = 1 := h
  obtain ⟨l⟩ := a
  cases l with
  | nil => cases h'
  | cons c r =>
    cases r with
    | nil => rfl
    | cons _ _ => simp at h'
/-- x in a readable sequence of data -/
def rInA (K : PySem.W.Frag) (neg : Bool) : R2 := fun x y H Q => ∃ d ds, Dp K H x d ∧ (Dp K H y (.list ds) ∨ Dp K H y (.tuple ds)) ∧ SeqAt.shaped d = true ∧ SeqAt.shaped (.list ds) = true ∧ Q (.bl (if neg = true then !ds.any fun z => PyData.eqv z d else ds.any fun z => PyData.eqv z d)) H
section
variable {X : Cx}
theorem op_inA (hu : X.A.units + 65 < cLine) : OpR X (compareOp .In) (rInA X.K false) := by
  intro pins s σ H x y v u Q I rx ry h
  obtain ⟨d, ds, hd, he, sd, se, q⟩ := h
  obtain ⟨as, r1⟩ := Dp.reads I d x v hd rx
  rcases he with he | he
  · obtain ⟨bs, r2⟩ := Dp.reads I (.list ds) y u he ry
    exact SeqAt.in_list_reads r2 r1 (SeqAt.canLay_of_shaped se) (SeqAt.canLay_of_shaped sd) (room_in_shaped sd hu) ⟨.bl _, H, I, rfl, q⟩
  · obtain ⟨bs, r2⟩ := Dp.reads I (.tuple ds) y u he ry
    exact SeqAt.in_tuple_reads r2 r1 (SeqAt.canLay_of_shaped se) (SeqAt.canLay_of_shaped sd) (room_in_shaped sd hu) ⟨.bl _, H, I, rfl, q⟩
theorem op_notInA (hu : X.A.units + 65 < cLine) : OpR X (compareOp .NotIn) (rInA X.K true) := by
  intro pins s σ H x y v u Q I rx ry h
  obtain ⟨d, ds, hd, he, sd, se, q⟩ := h
  obtain ⟨as, r1⟩ := Dp.reads I d x v hd rx
  rcases he with he | he
  · obtain ⟨bs, r2⟩ := Dp.reads I (.list ds) y u he ry
    exact SeqAt.notIn_list_reads r2 r1 (SeqAt.canLay_of_shaped se) (SeqAt.canLay_of_shaped sd) (room_in_shaped sd hu) ⟨.bl _, H, I, rfl, q⟩
  · obtain ⟨bs, r2⟩ := Dp.reads I (.tuple ds) y u he ry
    exact SeqAt.notIn_tuple_reads r2 r1 (SeqAt.canLay_of_shaped se) (SeqAt.canLay_of_shaped sd) (room_in_shaped sd hu) ⟨.bl _, H, I, rfl, q⟩
end
theorem seq_dp {g : Gc} {F : Hp} {f : List Addr} {R : Rs} {S : Store} {H : Hp} (s : Sm g F f R S H) {v : Val} {x : V} {ds : List PyData} (r : VR g F f x v) (e : seqOf S v = some ds) (c : SeqAt.shaped (.list ds) = true) : Dp g.K H x (.list ds) ∨ Dp g.K H x (.tuple ds) := by
  have c' : PyData.canLayAll0 ds = true := by simpa [PyData.canLay0] using SeqAt.canLay_of_shaped c
  obtain ⟨a, xs, rfl, h | ⟨h, _⟩, t⟩ := seq_of s r e
  · exact .inl (.lst (.inl h) (DaAll.dp s.le c' t))
  · exact .inr (.tup h (DaAll.dp s.le c' t))
def rInV (K : PySem.W.Frag) (neg : Bool) : R2 := fun x y H Q => (∃ (c : Nat) (z : Str), x = .str ⟨#[c]⟩ ∧ y = .str z ∧ Q (.bl (if neg = true then !decide (c ∈ z.cps.toList) else decide (c ∈ z.cps.toList))) H) ∨ rInA K neg x y H Q
theorem op_inV {X : Cx} (hu : X.A.units + 65 < cLine) : OpR X (compareOp .In) (rInV X.K false) := OpR.or op_in_sign (op_inA hu)
theorem op_notInV {X : Cx} (hu : X.A.units + 65 < cLine) : OpR X (compareOp .NotIn) (rInV X.K true) := OpR.or op_notIn_sign (op_notInA hu)
theorem real_in {g : Gc} : RealB g (rInV g.K false) (cmpV .In) := by
  intro F f R S H x y v u W Q s rx ry h
  dsimp only [cmpV] at h
  split at h
  · split at h
    · obtain ⟨c, h⟩ := okIf_pos h
      cases rx; cases ry
      exact .inl ⟨_, _, congrArg V.str (str_one c), rfl, sat_d h s (.bl _)⟩
    · exact h.elim
  · split at h
    · rename_i e1 e2
      obtain ⟨⟨c1, c2⟩, h⟩ := okIf_pos h
      exact .inr ⟨_, _, dat_dp s rx e1 c1, seq_dp s ry e2 c2, c1, c2, sat_d h s (.bl _)⟩
    · exact h.elim
theorem real_notin {g : Gc} : RealB g (rInV g.K true) (cmpV .NotIn) := by
  intro F f R S H x y v u W Q s rx ry h
  dsimp only [cmpV] at h
  split at h
  · split at h
    · obtain ⟨c, h⟩ := okIf_pos h
      cases rx; cases ry
      exact .inl ⟨_, _, congrArg V.str (str_one c), rfl, sat_d h s (.bl _)⟩
    · exact h.elim
  · split at h
    · rename_i e1 e2
      obtain ⟨⟨c1, c2⟩, h⟩ := okIf_pos h
      exact .inr ⟨_, _, dat_dp s rx e1 c1, seq_dp s ry e2 c2, c1, c2, sat_d h s (.bl _)⟩
    · exact h.elim
theorem cmp_real {X : Cx} {g : Gc} (hK : g.K = X.K) (hu : X.A.units + 65 < cLine) (op : CmpOp) : ∃ r, OpR X (compareOp op) r ∧ RealB g r (cmpV op) := by
  cases op
  · exact ⟨_, OpR.or op_eq (op_eqD (by omega)), hK ▸ real_eq⟩
  · exact ⟨_, OpR.or op_ne (op_neD (by omega)), hK ▸ real_ne⟩
  · exact ⟨_, op_ltV (by omega), hK ▸ real_lt⟩
  · exact ⟨_, op_leV, real_le⟩
  · exact ⟨_, op_gt, real_gt⟩
  · exact ⟨_, op_ge, real_ge⟩
  · exact ⟨_, op_is2, real_is⟩
  · exact ⟨_, op_notN, real_isnot⟩
  · exact ⟨_, op_inV hu, hK ▸ real_in⟩
  · exact ⟨_, op_notInV hu, hK ▸ real_notin⟩
/-! ### subscripts -/
theorem DaAll.atI {K : PySem.W.Frag} {F : Hp} {xs : List V} {ds : List PyData} {i : Int} {d : PyData} (t : DaAll K F xs ds) (e : L2.atI ds i = some d) : ∃ x, L2.atI xs i = some x ∧ Da K F x d := by
  unfold L2.atI at e ⊢
  rw [t.len]
  cases q : ixN ds.length i with
  | none => rw [q] at e; cases e
  | some j =>
    rw [q] at e
    exact t.get e
theorem els_at {g : Gc} {F : Hp} {f : List Addr} {xs : List V} {es : List El} {i : Int} {d : El} (t : ElRs g F f xs es) (e : L2.atI es i = some d) : ∃ x, L2.atI xs i = some x ∧ VR g F f x d.val := by
  unfold L2.atI at e ⊢
  rw [t.len]
  cases q : ixN es.length i with
  | none => rw [q] at e; cases e
  | some j =>
    rw [q] at e
    obtain ⟨x, h1, h2⟩ := t.get e
    exact ⟨x, h1, h2.vr⟩
theorem real_idx {g : Gc} : RealB g (rIx g.K) idxV := by
  intro F f R S H x y v u W Q s rx ry h
  unfold idxV at h
  split at h
  · cases ry
    split at h
    · split at h
      · rename_i c
        split at h
        · rename_i e
          cases rx
          exact .inr (.inr ⟨_, _, _, rfl, rfl, c, e, sat_d h s (.str _)⟩)
        · exact h.elim
      · exact h.elim
    · split at h
      · rename_i e
        obtain ⟨a, ys, rfl, h1, h2⟩ := rx
        obtain ⟨z, q2, r2⟩ := els_at h2 e
        exact .inr (.inl ⟨_, _, _, _, rfl, rfl, SqT.sub s.le h1, q2, sat_d h s r2⟩)
      · exact h.elim
    · split at h
      · rename_i e
        obtain ⟨a, ys, rfl, h1, h2⟩ := rx
        obtain ⟨z, q2, r2⟩ := els_at h2 e
        exact .inl ⟨_, _, _, _, rfl, rfl, .inl (Rd.sub s.le h1), q2, sat_d h s r2⟩
      · exact h.elim
    · split at h
      · rename_i e
        split at h
        · rename_i e2
          obtain ⟨a, ys, rfl, q, t⟩ := seq_of s rx e
          obtain ⟨z, q2, r2⟩ := t.atI e2
          rcases q with q | ⟨q, _⟩
          · exact .inl ⟨_, _, _, _, rfl, rfl, .inl q, q2, sat_d h s r2⟩
          · exact .inr (.inl ⟨_, _, _, _, rfl, rfl, q, q2, sat_d h s r2⟩)
        · exact h.elim
      · exact h.elim
  · exact h.elim
end Ev
end

section
set_option Elab.async false
set_option linter.all false
set_option maxRecDepth 100000
set_option maxHeartbeats 4000000
/-! E4t: list(text) -/
namespace Ev
open PySem PySem.Spec PyProof.Rows L2

section
variable {prog : Program} {w : World} {A : Around} {s : Shared}
theorem hint_text {E : Value → Shared → Prop} {x : Str} {t : Tok} {Q : Bool → Shared → Prop} (h : Q false s) : wpAny (model prog w) A (Builtin.List.listLengthHint (.str x t)) Q E s := by
  have hT : s.TypeIs (.str x t) "str" := typeIs_str s x t
  unfold Builtin.List.listLengthHint
  refine wpAny_bind (wpAny_specialOf hT PySem.F.slot_str_len.lookup ?_)
  generalize hid : ("str.__len__" : String) = id0
  wp_delta
  rw [show splitId id0 = some ("str", "__len__") from by subst hid; decide +kernel]
  subst hid
  refine wpAny_bind (wpAny_isInstance (T := "str") (b := true) hT (by rw [isSubtype_type]; kernel_rfl) ?_)
  refine wpAny_ite_split (fun c => absurd c (by decide)) (fun _ => ?_)
  refine wpAny_ite_split (fun _ => ?_) (fun c => absurd (by decide +kernel) c)
  exact wpAny_bind (wpAny_typeOf hT (wpAny_pure h))
theorem text_walks (hh : A.handled = none) (it : Addr) (x : Str) (t : Tok) : Walks prog w A it [it] [it] x.cps.size (SignAt x) (fun i h => h.IsStrIter it (strIterType x) x t i) := by
  cases ha : x.cps.all (· < 128)
  · simp only [strIterType, ha, Bool.false_eq_true, if_false]
    exact .strWide hh it x t
  · simp only [strIterType, ha, if_true]
    exact .strAscii hh it x t
theorem text_ext {R : Result → Shared → Prop} {x : Str} {t : Tok} (hh : A.handled = none) (S : Addr) (res : Value) (c₀ : Nat) (hS : s.heap.get? S = some { cls := .type "list", data := .seq #[] c₀ })
    (hR : ∀ h' tk acc' c', (∀ b o, b ≠ S → s.heap.get? b = some o → h'.get? b = some o) → h'.get? S = some { cls := .type "list", dict := none, data := .seq acc' c', slots := #[] } → ItemsOf (SignAt x) acc' x.cps.size → R (.ok (.ret res)) { s with heap := h', toks := tk }) (hn : x.cps.size ≤ sizeLine) :
    wpAny (model prog w) A.in1 (Builtin.List.listExtendWith (.ref S) (.str x t) res)
      (fun fin s' => match fin with | .done f => R (.ok f) s' | .again c' => c'.quiet = true ∧ codeAny (model prog w) A c' R s') (fun e s' => R (.error e) s') s := by
  have hSI : S ≠ s.heap.objs.size := Nat.ne_of_lt (Heap.lt_size hS)
  have hSf : S ∉ [s.heap.objs.size] := by simpa using hSI
  have W := text_walks (prog := prog) (w := w) (A := A.in1) hh s.heap.objs.size x t
  have st : (s.heap.push { cls := .type (strIterType x), data := .fields #[.str x t, .int 0 0] }).IsStrIter s.heap.objs.size (strIterType x) x t 0 := ⟨_, Heap.get?_push_size _ rfl, rfl, rfl⟩
  unfold Builtin.List.listExtendWith
  refine wpAny_bind (wpAny_typeOf (T := "str") (typeIs_str s x t) ?_)
  have h1 : Builtin.List.listSameRef (.ref S) (.str x t) = false := by simp [Builtin.List.listSameRef]
  have h2 : (Value.type "str" == Value.type "list") = false := by decide
  have h3 : (Value.type "str" == Value.type "tuple") = false := by decide
  simp only [h1, h2, h3, Bool.or_false, Bool.false_eq_true, if_false]
  refine wpAny_bind ((begins_text x t).iter _ _ _ _ _ _ trivial ?_)
  have hS₁ := Heap.get?_push_of_some { cls := .type (strIterType x), data := .fields #[.str x t, .int 0 0] } hS
  refine wpAny_bind (wpAny_holding (hint_text ?_))
  have key : ∀ (h : Heap) (c₁ tk : Nat), h.IsStrIter s.heap.objs.size (strIterType x) x t 0 → (∀ b o, b ≠ S → s.heap.get? b = some o → h.get? b = some o) →
      h.get? S = some { cls := .type "list", data := .seq #[] c₁ } → codeAny (model prog w) A (.builtin "list.extend.loop" ⟨[.ref S, .ref s.heap.objs.size, res], []⟩) R { s with heap := h, toks := tk } := by
    intro h c₁ tk hst hk hS₁
    refine codeAny_extend_loopS W.toS hn S hSf res x.cps.size 0 _ #[] c₁ rfl (Nat.zero_le _) hst hS₁ (ItemsOf.nil _) fun s' acc' c' hm hS' hacc => ?_
    rw [Moved.eq_with hm]
    refine hR s'.heap s'.toks acc' c' (fun b o hb e => hm.heap b o (fun hmem => ?_) (hk b o hb e)) hS' hacc
    rcases List.mem_cons.mp hmem with e' | hmem
    · exact hb e'
    · exact absurd (Heap.lt_size e) (by rw [List.mem_singleton.mp hmem]; exact Nat.lt_irrefl _)
  refine wpAny_ite_split (fun _ => ?_) (fun _ => wpAny_pure ⟨plainId_quiet PySem.F.plain_extend_loop _, key _ c₀ _ st (fun b o _ e => Heap.get?_push_of_some _ e) hS₁⟩)
  refine wpAny_bind (wpAny_rule ?_)
  refine wpAny_bind ?_
  show wpAny _ _ (updateSeq S (·.push .none) >>= fun _ => updateSeq S (·.pop)) _ _ _
  refine wpAny_bind (wpAny_updateSeq hS₁ rfl ?_)
  have hS₂ := Heap.get?_update_self (Obj.mapSeq (·.push Value.none)) hS₁ rfl
  refine wpAny_updateSeq (hz := by seq_fits) hS₂ rfl ?_
  have hS₃ := Heap.get?_update_self (Obj.mapSeq (·.pop)) hS₂ rfl
  refine wpAny_pure ⟨plainId_quiet PySem.F.plain_extend_loop _, key _ _ _ ?_ (fun b o hb e => ?_) hS₃⟩
  · refine W.frame 0 _ _ st fun b hb o e => ?_
    have hbS : b ≠ S := fun h => hSf (h ▸ hb)
    exact (Heap.get?_update_other _ _ (Ne.symm hbS)).trans ((Heap.get?_update_other _ _ (Ne.symm hbS)).trans e)
  · exact (Heap.get?_update_other _ _ (Ne.symm hb)).trans ((Heap.get?_update_other _ _ (Ne.symm hb)).trans (Heap.get?_push_of_some _ e))
theorem text_init {R : Result → Shared → Prop} {x : Str} {t : Tok} (hh : A.handled = none) (S : Addr) (hS : s.heap.get? S = some { cls := .type "list", data := .seq #[] })
    (hR : ∀ h' tk acc' c', (∀ b o, b ≠ S → s.heap.get? b = some o → h'.get? b = some o) → h'.get? S = some { cls := .type "list", dict := none, data := .seq acc' c', slots := #[] } → ItemsOf (SignAt x) acc' x.cps.size → R (.ok (.ret .none)) { s with heap := h', toks := tk }) (hn : x.cps.size ≤ sizeLine) :
    wpAny (model prog w) A.in1 (Builtin.«list.__init__» ⟨[.ref S, .str x t], []⟩)
      (fun fin s' => match fin with | .done f => R (.ok f) s' | .again c' => c'.quiet = true ∧ codeAny (model prog w) A c' R s') (fun e s' => R (.error e) s') s := by
  show wpAny _ _ (do let old ← Builtin.List.listItems (.ref S); Builtin.List.listUpdate (.ref S) (fun _ => #[]); letGo old.toList.reverse; Builtin.List.listExtendWith (.ref S) (.str x t) .none) _ _ s
  refine wpAny_bind ?_
  unfold Builtin.List.listItems
  refine wpAny_bind (wpAny_seqItems hS rfl (wpAny_pure ?_))
  show wpAny _ _ (updateSeq S (fun _ => #[]) >>= fun _ => letGo (#[] : Array Value).toList.reverse >>= fun _ => Builtin.List.listExtendWith (.ref S) (.str x t) .none) _ _ s
  refine wpAny_bind (wpAny_updateSeq hS rfl ?_)
  have hS₂ := Heap.get?_update_self (Obj.mapSeq (fun _ => (#[] : Array Value))) hS rfl
  refine wpAny_bind (wpAny_letGo ?_)
  refine text_ext hh S .none _ hS₂ (fun h' tk acc' c' hk hS' hacc => ?_) hn
  exact hR h' tk acc' c' (fun b o hb e => hk b o hb ((Heap.get?_update_other _ _ (Ne.symm hb)).trans e)) hS' hacc
theorem text_list {E : Value → Shared → Prop} {Q : Value → Shared → Prop} {x : Str} {t : Tok} (hh : A.handled = none) (hn : x.cps.size ≤ sizeLine)
    (hQ : ∀ h' tk acc' c', (∀ b o, s.heap.get? b = some o → h'.get? b = some o) → h'.get? s.heap.objs.size = some { cls := .type "list", dict := none, data := .seq acc' c', slots := #[] } → ItemsOf (SignAt x) acc' x.cps.size → Q (.ref s.heap.objs.size) { s with heap := h', toks := tk }) :
    wpAny (model prog w) A (call (.type "list") [.str x t]) Q E s := by
  refine callType_codes (Q₁ := fun obj s₁ => obj = .ref s.heap.objs.size ∧ s₁ = { s with heap := s.heap.push { cls := .type "list", data := .seq #[] } }) PySem.F.called_list (PySem.F.typeCall_list_1 _) PySem.F.entry_list_init
    (code_list_new _ ⟨rfl, rfl⟩) fun obj s₁ h₁ => ?_
  obtain ⟨rfl, rfl⟩ := h₁
  have hS : (s.heap.push { cls := .type "list", data := .seq #[] }).get? s.heap.objs.size = some { cls := .type "list", data := .seq #[] } := Heap.get?_push_size _ rfl
  refine ⟨⟨_, hS, rfl⟩, PySem.F.args_list_init_2 _ _, text_init (A := A.in1) hh _ hS (fun h' tk acc' c' hk hS' hacc => ?_) hn⟩
  exact ⟨rfl, hQ h' tk acc' c' (fun b o e => hk b o (Nat.ne_of_lt (Heap.lt_size e)) (Heap.get?_push_of_some _ e)) hS' hacc⟩
end
/-- a text's signs -/
def signs (x : Str) : List Str := x.cps.toList.map fun c => ⟨#[c]⟩
theorem paired_of {α β : Type} {R : α → β → Prop} : ∀ (xs : List α) (us : List β), xs.length = us.length → (∀ (i : Nat) x u, xs[i]? = some x → us[i]? = some u → R x u) → Paired R xs us
  | [], [], _, _ => .nil
  | x :: xs, u :: us, hl, h => .cons (h 0 x u rfl rfl) (paired_of xs us (by simpa using hl) fun i a b ha hb => h (i + 1) a b (by simpa using ha) (by simpa using hb))
  | [], _ :: _, hl, _ => by simp at hl
  | _ :: _, [], hl, _ => by simp at hl
theorem signs_vals (x : Str) {acc : Array Value} (h : ItemsOf (SignAt x) acc x.cps.size) : Vals ((signs x).map V.str) acc.toList := by
  obtain ⟨h1, h2⟩ := h
  refine paired_of _ _ (by simp [signs, h1]) fun i v u hv hu => ?_
  have hu' : acc[i]? = some u := by simpa using hu
  obtain ⟨c, t, hc, rfl⟩ := h2 i u hu'
  simp [signs, hc] at hv
  subst hv
  exact ⟨t, rfl⟩
theorem call_list_text {X : Cx} (hc : X.calm = true) : CallR X (.type "list") (fun xs H Q => ∃ x : Str, xs = [.str x] ∧ x.length ≤ sizeLine ∧ ∀ l, H l = none → Q (.ref l) (upd H l (.lst ((signs x).map V.str)))) := by
  intro pins s σ H xs us Q I r h
  obtain ⟨x, rfl, hz, q⟩ := h
  obtain ⟨u, rfl, t, rfl⟩ := vals1 r
  refine text_list (I.ok.hd hc) hz fun h' tk acc' c' kp e it => ?_
  have v := signs_vals x it
  refine ⟨.ref s.heap.objs.size, _, I.laid (t' := tk) kp (Nat.le_refl _) (show ObjOk X.prog X.w _ h' _ (.lst _) from ⟨?_, acc'.toList, c', v, by simpa using e⟩), rfl, q _ (I.hok.fresh (Nat.le_refl _))⟩
  simpa [signs, Str.length] using hz
end Ev
end

section
set_option Elab.async false
set_option linter.all false
set_option maxRecDepth 100000
set_option maxHeartbeats 4000000
/-! E4: built-ins, methods, stores, slices on values -/
namespace Ev
open PySem PySem.Spec PyProof.Rows L2

def RealN (g : Gc) (r : List V → Hp → VK → Prop) (φ : List Val → Store → Out Val) : Prop := ∀ (F : Hp) (f : List Addr) (R : Rs) (S : Store) (H : Hp) (xs : List V) (vs : List Val) (W : WH) (Q : VK), Sm g F f R S H → VRs g F f xs vs →
  Sat g F f R W (φ vs S) (fun w F' f' S' H' => ∀ z, VR g F' f' z w → Q z H') → r xs H Q
theorem CallR.or {X : Cx} {f : Value} {r r' : List V → Hp → VK → Prop} (h : CallR X f r) (h' : CallR X f r') : CallR X f (fun x H Q => r x H Q ∨ r' x H Q) := by
  intro pins s σ H x u Q I rx q
  rcases q with q | q
  · exact h pins s σ H x u Q I rx q
  · exact h' pins s σ H x u Q I rx q
section
variable {g : Gc}
theorem vrs1 {F : Hp} {f : List Addr} {xs : List V} {v : Val} (r : VRs g F f xs [v]) : ∃ x, xs = [x] ∧ VR g F f x v := by
  cases r with
  | cons a t => cases t; exact ⟨_, rfl, a⟩
theorem vrs2 {F : Hp} {f : List Addr} {xs : List V} {v u : Val} (r : VRs g F f xs [v, u]) : ∃ x y, xs = [x, y] ∧ VR g F f x v ∧ VR g F f y u := by
  cases r with
  | cons a t =>
    obtain ⟨y, rfl, b⟩ := vrs1 t
    exact ⟨_, _, rfl, a, b⟩
theorem real_len : RealN g (fun xs H Q => ∃ x n, xs = [x] ∧ LenV g.K x H n ∧ Q (.int n) H) (biV .len) := by
  intro F f R S H xs vs W Q s rx h
  unfold biV at h
  split at h <;> first | (rename_i z; cases z; done) | skip
  · obtain ⟨c, h⟩ := okIf_pos h
    obtain ⟨x, rfl, r⟩ := vrs1 rx
    cases r
    exact ⟨_, _, rfl, ⟨c, rfl⟩, sat_d h s (.int _)⟩
  · obtain ⟨x, rfl, r⟩ := vrs1 rx
    split at h
    · rename_i e
      obtain ⟨a, ys, rfl, q, t⟩ := seq_of s r e
      refine ⟨_, ys.length, rfl, ?_, ?_⟩
      · rcases q with q | ⟨q, _⟩
        · exact .inl ⟨_, .inl q, rfl⟩
        · exact .inr ⟨_, q, rfl⟩
      · rw [t.len]; exact sat_d h s (.int _)
    · exact h.elim
  all_goals exact h.elim
theorem real_all : RealN g (rAll g.K) (biV .all) := by
  intro F f R S H xs vs W Q s rx h
  unfold biV at h
  split at h <;> first | (rename_i z; cases z; done) | skip
  · obtain ⟨x, rfl, r⟩ := vrs1 rx
    split at h
    · rename_i e
      obtain ⟨ds, e1, e2⟩ := Option.bind_eq_some_iff.mp e
      obtain ⟨a, ys, rfl, q, t⟩ := lst_of s r e1
      have q2 := bools_da t e2
      subst q2
      exact ⟨_, _, rfl, .inl q, sat_d h s (.bl _)⟩
    · exact h.elim
  all_goals exact h.elim
theorem real_any : RealN g (rAny g.K) (biV .any) := by
  intro F f R S H xs vs W Q s rx h
  unfold biV at h
  split at h <;> first | (rename_i z; cases z; done) | skip
  · obtain ⟨x, rfl, r⟩ := vrs1 rx
    split at h
    · rename_i e
      obtain ⟨ds, e1, e2⟩ := Option.bind_eq_some_iff.mp e
      obtain ⟨a, ys, rfl, q, t⟩ := lst_of s r e1
      have q2 := bools_da t e2
      subst q2
      exact ⟨_, _, rfl, .inl q, sat_d h s (.bl _)⟩
    · exact h.elim
  all_goals exact h.elim
theorem real_sum : RealN g (rSum g.K) (biV .sum) := by
  intro F f R S H xs vs W Q s rx h
  unfold biV at h
  split at h <;> first | (rename_i z; cases z; done) | skip
  · obtain ⟨x, rfl, r⟩ := vrs1 rx
    split at h
    · rename_i e
      obtain ⟨ds, e1, e2⟩ := Option.bind_eq_some_iff.mp e
      obtain ⟨a, ys, rfl, q, t⟩ := lst_of s r e1
      have q2 := ints_da t e2
      subst q2
      exact ⟨_, _, rfl, .inl q, sat_d h s (.int _)⟩
    · exact h.elim
  all_goals exact h.elim
theorem real_tuple : RealN g (fun xs H Q => ∃ p ys, xs = [.ref p] ∧ ((SqL g.K H p ys ∧ ∀ l, H l = none → Q (.ref l) (upd H l (.tup ys))) ∨ (SqT g.K H p ys ∧ Q (.ref p) H))) (biV .tuple) := by
  intro F f R S H xs vs W Q s rx h
  unfold biV at h
  split at h <;> first | (rename_i z; cases z; done) | skip
  · obtain ⟨x, rfl, r⟩ := vrs1 rx
    split at h
    · rename_i v ds e
      obtain ⟨a, ys, rfl, q, t⟩ := seq_of s r e
      rcases q with q | ⟨q, e2⟩
      · exact ⟨_, _, rfl, .inl ⟨.inl q, fun l hl => sat_tup h s t hl⟩⟩
      · subst e2
        exact ⟨_, _, rfl, .inr ⟨q, sat_d h s r⟩⟩
    · exact h.elim
  all_goals exact h.elim
theorem da_signs {F : Hp} : ∀ l : List Nat, DaAll g.K F ((l.map fun c => (⟨#[c]⟩ : Str)).map V.str) (l.map fun c => .str ⟨#[c]⟩)
  | [] => .nil
  | c :: l => .cons (.str _) (da_signs l)
theorem real_list : RealN g (fun xs H Q => (∃ p ys, xs = [.ref p] ∧ (SqL g.K H p ys ∨ SqT g.K H p ys) ∧ ∀ l, H l = none → Q (.ref l) (upd H l (.lst ys))) ∨
    ∃ x : Str, xs = [.str x] ∧ x.length ≤ sizeLine ∧ ∀ l, H l = none → Q (.ref l) (upd H l (.lst ((signs x).map V.str)))) (biV .list) := by
  intro F f R S H xs vs W Q s rx h
  unfold biV at h
  split at h <;> first | (rename_i z; cases z; done) | skip
  · obtain ⟨c, h⟩ := okIf_pos h
    obtain ⟨x, rfl, r⟩ := vrs1 rx
    cases r
    exact .inr ⟨_, rfl, c, fun l hl => sat_lst h s (da_signs _) hl⟩
  · obtain ⟨x, rfl, r⟩ := vrs1 rx
    split at h
    · rename_i v ds e
      obtain ⟨a, ys, rfl, q, t⟩ := seq_of s r e
      exact .inl ⟨_, _, rfl, q.imp .inl (·.1), fun l hl => sat_lst h s t hl⟩
    · exact h.elim
  all_goals exact h.elim
theorem real_listM : RealN g (fun xs H Q => ∃ p ys, xs = [.ref p] ∧ (SqL g.K H p ys ∨ SqT g.K H p ys) ∧ ∀ l, H l = none → Q (.ref l) (upd H l (.lst ys))) (biV .listM) := by
  intro F f R S H xs vs W Q s rx h
  unfold biV at h
  split at h <;> first | (rename_i z; cases z; done) | skip
  · obtain ⟨x, rfl, r⟩ := vrs1 rx
    split at h
    · rename_i v ds e
      obtain ⟨a, ys, rfl, q, t⟩ := seq_of s r e
      exact ⟨_, _, rfl, q.imp .inl (·.1), fun l hl => sat_lstM h s t hl⟩
    · exact h.elim
  all_goals exact h.elim
theorem real_abs : RealN g (fun xs H Q => ∃ i, xs = [.int i] ∧ Q (.int (if i < 0 then -i else i)) H) (biV .abs) := by
  intro F f R S H xs vs W Q s rx h
  unfold biV at h
  split at h <;> first | (rename_i z; cases z; done) | skip
  · obtain ⟨x, rfl, r⟩ := vrs1 rx
    cases r
    exact ⟨_, rfl, sat_d h s (.int _)⟩
  all_goals exact h.elim
theorem real_max2 : RealN g (fun xs H Q => ∃ i j, xs = [.int i, .int j] ∧ Q (.int (if j > i then j else i)) H) (biV .max2) := by
  intro F f R S H xs vs W Q s rx h
  unfold biV at h
  split at h <;> first | (rename_i z; cases z; done) | skip
  · obtain ⟨x, y, rfl, r, r2⟩ := vrs2 rx
    cases r; cases r2
    exact ⟨_, _, rfl, sat_d h s (.int _)⟩
  all_goals exact h.elim
theorem real_min2 : RealN g (fun xs H Q => ∃ i j, xs = [.int i, .int j] ∧ Q (.int (if j < i then j else i)) H) (biV .min2) := by
  intro F f R S H xs vs W Q s rx h
  unfold biV at h
  split at h <;> first | (rename_i z; cases z; done) | skip
  · obtain ⟨x, y, rfl, r, r2⟩ := vrs2 rx
    cases r; cases r2
    exact ⟨_, _, rfl, sat_d h s (.int _)⟩
  all_goals exact h.elim
theorem real_int : RealN g (fun xs H Q => (∃ i, xs = [.int i] ∧ Q (.int i) H) ∨ ∃ k, xs = [.bl k] ∧ Q (.int (if k then 1 else 0)) H) (biV .int) := by
  intro F f R S H xs vs W Q s rx h
  unfold biV at h
  split at h <;> first | (rename_i z; cases z; done) | skip
  · obtain ⟨x, rfl, r⟩ := vrs1 rx
    cases r
    exact .inl ⟨_, rfl, sat_d h s (.int _)⟩
  · obtain ⟨x, rfl, r⟩ := vrs1 rx
    cases r
    exact .inr ⟨_, rfl, sat_d h s (.int _)⟩
  all_goals exact h.elim
theorem real_strI : RealN g (fun xs H Q => ∃ i, xs = [.int i] ∧ i.natAbs.log2 < 1920 ∧ Q (.str (toString i)) H) (biV .strI) := by
  intro F f R S H xs vs W Q s rx h
  unfold biV at h
  split at h <;> first | (rename_i z; cases z; done) | skip
  · obtain ⟨c, h⟩ := okIf_pos h
    obtain ⟨x, rfl, r⟩ := vrs1 rx
    cases r
    exact ⟨_, rfl, c, sat_d h s (.str _)⟩
  all_goals exact h.elim
theorem real_divmod : RealN g (fun xs H Q => ∃ i j, xs = [.int i, .int j] ∧ CDiv i j ∧ ∀ p, H p = none → Q (.ref p) (upd H p (.tup [.int (i / j), .int (i % j)]))) (biV .divmod) := by
  intro F f R S H xs vs W Q s rx h
  unfold biV at h
  split at h <;> first | (rename_i z; cases z; done) | skip
  · obtain ⟨c, h⟩ := okIf_pos h
    obtain ⟨x, y, rfl, r, r2⟩ := vrs2 rx
    cases r; cases r2
    exact ⟨_, _, rfl, c, fun p hp => sat_tup h s (.cons (.int _) (.one (.int _))) hp⟩
  all_goals exact h.elim
theorem real_ord : RealN g (fun xs H Q => ∃ x, xs = [.str x] ∧ x.length = 1 ∧ Q (.int (x.cps.getD 0 0 : Nat)) H) (biV .ord) := by
  intro F f R S H xs vs W Q s rx h
  unfold biV at h
  split at h <;> first | (rename_i z; cases z; done) | skip
  · obtain ⟨c, h⟩ := okIf_pos h
    obtain ⟨x, rfl, r⟩ := vrs1 rx
    cases r
    exact ⟨_, rfl, c, sat_d h s (.int _)⟩
  all_goals exact h.elim
end
/-! ### repr -/
section
variable {X : Cx} {pins : List (Addr × Obj)} {σ : L2.St} {H : Hp} {s : Shared}
/-- the written part holds sys.modules: a dict -/
def SysK (K : PySem.W.Frag) : Prop := ∃ o, K.lookup sysModules = some o ∧ o.cls = .type "dict"
theorem dict_nil {P : Program} {w : World} {h : Heap} {a : Addr} (x : ObjOk P w H h a (.dK [])) : ∃ o es n, h.get? a = some o ∧ o.cls = .type "dict" ∧ o.data = .dict es n ∧ es.toList = [] ∧ a ≠ sysModules := by
  obtain ⟨_, ns, vs, kv, o, es, ep, e1, e2, e3, _, e5, _⟩ := x
  cases kv
  refine ⟨o, es, ep, e1, e2.1, e3, ?_, beq_eq_false_iff_ne.mp ns⟩
  cases e6 : es.toList with
  | nil => rfl
  | cons a b => rw [e6] at e5; cases e5
mutual
theorem Da.reads (sy : SysK X.K) (I : Inv X pins σ H s) : ∀ (d : PyData) (v : V) (u : Value), Da X.K H v d → RelV v u → ∃ as, Reads s.heap u d as ∧ sysModules ∉ as
  | .none, _, _, h, r => by
    cases h
    cases r
    exact ⟨_, Reads.none, by simp⟩
  | .bool b, _, _, h, r => by
    cases h
    cases r
    exact ⟨_, Reads.bool b, by simp⟩
  | .int i, _, _, h, r => by
    cases h
    obtain ⟨t, rfl⟩ := r
    exact ⟨_, Reads.int i t, by simp⟩
  | .str x, _, _, h, r => by
    cases h
    obtain ⟨t, rfl⟩ := r
    exact ⟨_, Reads.str x t, by simp⟩
  | .list ds, _, _, h, r => by
    cases h with
    | lst hs ha =>
      cases r
      obtain ⟨its, rv, ⟨o, n, ho, hc, _, hd⟩, _⟩ := I.list (.inl hs)
      obtain ⟨as, hr, hn⟩ := Da.readsAll sy I ds _ its ha rv
      refine ⟨_, Reads.list ho hc hd hr, fun z => ?_⟩
      rcases List.mem_cons.mp z with z | z
      · obtain ⟨os, e1, e2⟩ := sy
        have e3 := I.kIn _ _ e1
        rw [z, ho] at e3
        cases e3
        rw [hc] at e2
        injection e2 with e2
        exact absurd e2 (by decide)
      · exact hn z
  | .tuple ds, _, _, h, r => by
    cases h with
    | tup hs ha =>
      cases r
      obtain ⟨its, rv, ⟨o, ho, hc, n, hd⟩, _⟩ := I.tuple hs
      obtain ⟨as, hr, hn⟩ := Da.readsAll sy I ds _ its ha rv
      exact ⟨_, Reads.tuple ho hc hd hr, hn⟩
  | .dict kvs, _, _, h, r => by
    cases h with
    | dct hs =>
      cases r
      obtain ⟨o, es, n, e1, e2, e3, e4, e5⟩ := dict_nil (I.hok _ _ hs)
      refine ⟨_, Reads.dict (as := []) (bs := []) e1 e2 e3 (by rw [e4]; exact .nil) (by rw [e4]; exact .nil), ?_⟩
      simp
      exact fun z => e5 z.symm
theorem Da.readsAll (sy : SysK X.K) (I : Inv X pins σ H s) : ∀ (ds : List PyData) (vs : List V) (us : List Value), DaAll X.K H vs ds → Vals vs us → ∃ as, ReadsAll s.heap us ds as ∧ sysModules ∉ as
  | [], _, _, h, r => by
    cases h
    cases r
    exact ⟨_, ReadsAll.nil, by simp⟩
  | d :: ds, _, _, h, r => by
    cases h with
    | cons h1 h2 =>
      cases r with
      | cons r1 r2 =>
        obtain ⟨as, q1, n1⟩ := Da.reads sy I d _ _ h1 r1
        obtain ⟨bs, q2, n2⟩ := Da.readsAll sy I ds _ _ h2 r2
        exact ⟨_, ReadsAll.cons q1 q2, fun z => (List.mem_append.mp z).elim n1 n2⟩
end
def rRepr (K : PySem.W.Frag) : List V → Hp → VK → Prop := fun xs H Q => ∃ x d, xs = [x] ∧ Da K H x d ∧ d.showable = true ∧ d.depth ≤ 60 ∧ d.shown.length ≤ sizeLine ∧ Q (.str d.shown) H
theorem call_repr (sy : SysK X.K) (hu : X.A.units + 64 < cLine) (hg : X.A.guards = some []) : CallR X (.builtin "repr") (rRepr X.K) := by
  intro pins s σ H xs us Q I r h
  obtain ⟨x, d, rfl, hd, c1, c2, c3, q⟩ := h
  obtain ⟨u, rfl, ru⟩ := vals1 r
  have fin : ∀ (h' : Heap) (t : Tok) (tk : Nat), (∀ b o, s.heap.get? b = some o → h'.get? b = some o) → EP X pins σ Q (.str d.shown t) { s with heap := h', toks := tk } := fun h' t tk k => ⟨.str d.shown, H, I.kept k, ⟨_, rfl⟩, q⟩
  cases hd with
  | non => cases ru; exact PySem.P.repr_of_none (fin s.heap _ _ fun _ _ e => e)
  | bl b =>
    cases ru
    refine PySem.P.repr_of_bool (b := b) ?_
    have e : (PyData.bool b).shown = (if b then "True" else "False" : Str) := by cases b <;> rfl
    rw [← e]
    exact fin s.heap _ _ fun _ _ e => e
  | int i =>
    obtain ⟨t, rfl⟩ := ru
    exact PySem.P.repr_of_int (by simpa [PyData.showable] using c1) (fin s.heap _ _ fun _ _ e => e)
  | str z =>
    obtain ⟨t, rfl⟩ := ru
    exact PySem.P.repr_of_str (fin s.heap _ _ fun _ _ e => e) c3
  | lst h1 t1 =>
    obtain ⟨as, hr, hn⟩ := Da.reads sy I _ _ u (.lst h1 t1) ru
    cases ru
    exact repr_of_reads' hr c1 (fun _ => hn) hg (by omega) (fun _ _ e => e) (fun h' u tk k => fin h' u tk k) c3
  | tup h1 t1 =>
    obtain ⟨as, hr, hn⟩ := Da.reads sy I _ _ u (.tup h1 t1) ru
    cases ru
    exact repr_of_reads' hr c1 (fun _ => hn) hg (by omega) (fun _ _ e => e) (fun h' u tk k => fin h' u tk k) c3
  | dct h1 =>
    obtain ⟨as, hr, hn⟩ := Da.reads sy I _ _ u (.dct h1) ru
    cases ru
    exact repr_of_reads' hr c1 (fun _ => hn) hg (by omega) (fun _ _ e => e) (fun h' u tk k => fin h' u tk k) c3
end
theorem dat_da {g : Gc} {F : Hp} {f : List Addr} {R : Rs} {S : Store} {H : Hp} (s : Sm g F f R S H) {v : Val} {x : V} {d : PyData} (r : VR g F f x v) (e : datOf S v = some d) : Da g.K H x d := by
  cases v with
  | d y => cases e; exact Da.sub s.le r
  | fn k => cases e
  | tp es =>
    obtain ⟨a, xs, rfl, h1, h2⟩ := r
    cases q : elsD S es with
    | none => simp [datOf, q] at e
    | some l =>
      simp [datOf, q] at e
      subst e
      exact .tup (SqT.sub s.le h1) (els_da s h2 q)
  | ls es =>
    obtain ⟨a, xs, rfl, h1, h2⟩ := r
    cases q : elsD S es with
    | none => simp [datOf, q] at e
    | some l =>
      simp [datOf, q] at e
      subst e
      exact .lst (Rd.sub s.le h1) (els_da s h2 q)
  | loc n =>
    obtain ⟨a, h1, rfl⟩ := r
    dsimp only [datOf] at e
    split at e
    · rename_i xs hS
      cases e
      obtain ⟨a', ys, q1, q2, q3⟩ := s.getL hS
      rw [h1] at q1; cases q1
      exact .lst (.inl q2) (DaAll.sub s.le q3)
    · cases e
theorem real_repr {g : Gc} : RealN g (rRepr g.K) (biV .repr) := by
  intro F f R S H xs vs W Q s rx h
  unfold biV at h
  split at h <;> first | (rename_i z; cases z; done) | skip
  · obtain ⟨x, rfl, r⟩ := vrs1 rx
    split at h
    · rename_i e
      obtain ⟨⟨c1, c2, c3⟩, h⟩ := okIf_pos h
      exact ⟨x, _, rfl, dat_da s r e, c1, c2, c3, sat_d h s (.str _)⟩
    · exact h.elim
  all_goals exact h.elim
/-! ### isinstance -/
theorem kit_all : ∀ (a : Ty) (b : Ty), L2.kitB a.name b.name = some (a == b || (a == .bool && b == .int)) := by
  intro a b
  cases a <;> cases b <;> decide +kernel
theorem kit_none : ∀ (b : Ty), L2.kitB "NoneType" b.name = some false := by
  intro b
  cases b <;> decide +kernel
theorem tyx_tuple {K : PySem.W.Frag} {H : Hp} {a : Addr} {xs : List V} (h : SqT K H a xs) : TyX K H (.ref a) (.type "tuple") := by
  rcases h with (h | ⟨o, h⟩) | ⟨o, its, n, h1, h2, _⟩
  · exact .base (.tup h)
  · exact .fTuple h
  · exact .kTuple h1 h2
theorem tyx_list {K : PySem.W.Frag} {H : Hp} {a : Addr} {xs : List V} (h : Rd H a (.lst xs)) : TyX K H (.ref a) (.type "list") := by
  rcases h with h | ⟨o, h⟩
  · exact .base (.lst h)
  · exact .base (.frz h)
/-- isinstance(v, T) by the value v alone -/
def rIsiT1 (K : PySem.W.Frag) (t : Ty) : V → Hp → VK → Prop := fun x H Q => ∃ (ty : Value) (b : Bool), TyX K H x ty ∧ PySem.W.kitOne K ty (.type t.name) = some b ∧ Q (.bl b) H
theorem real_isi {g : Gc} {t : Ty} {F : Hp} {f : List Addr} {R : Rs} {S : Store} {H : Hp} {x : V} {v : Val} {W : WH} {Q : VK} (s : Sm g F f R S H) (r : VR g F f x v)
    (h : Sat g F f R W (isiV t v S) (fun w F' f' S' H' => ∀ z, VR g F' f' z w → Q z H')) : rIsiT1 g.K t x H Q := by
  unfold isiV at h
  split at h
  · rename_i b e
    unfold isTy at e
    split at e
    · cases e; cases r
      exact ⟨.type "NoneType", _, .base .non, kit_ty (kit_none t), sat_d h s (.bl _)⟩
    · cases e; cases r
      refine ⟨.type "bool", _, .base (.bl _), kit_ty (kit_all .bool t), ?_⟩
      have q := sat_d h s (.bl _)
      have e : (Ty.bool == t || (Ty.bool == Ty.bool && t == Ty.int)) = (t == Ty.bool || t == Ty.int) := by cases t <;> rfl
      rw [e]; exact q
    · cases e; cases r
      refine ⟨.type "int", _, .base (.int _), kit_ty (kit_all .int t), ?_⟩
      have q := sat_d h s (.bl _)
      have e : (Ty.int == t || (Ty.int == Ty.bool && t == Ty.int)) = (t == Ty.int) := by cases t <;> rfl
      rw [e]; exact q
    · cases e; cases r
      refine ⟨.type "str", _, .base (.str _), kit_ty (kit_all .str t), ?_⟩
      have q := sat_d h s (.bl _)
      have e : (Ty.str == t || (Ty.str == Ty.bool && t == Ty.int)) = (t == Ty.str) := by cases t <;> rfl
      rw [e]; exact q
    · cases e
      cases r with
      | tup h1 t1 =>
        refine ⟨.type "tuple", _, tyx_tuple (SqT.sub s.le h1), kit_ty (kit_all .tuple t), ?_⟩
        have q := sat_d h s (.bl _)
        have e : (Ty.tuple == t || (Ty.tuple == Ty.bool && t == Ty.int)) = (t == Ty.tuple) := by cases t <;> rfl
        rw [e]; exact q
    · cases e
      cases r with
      | lst h1 t1 =>
        refine ⟨.type "list", _, tyx_list (Rd.sub s.le h1), kit_ty (kit_all .list t), ?_⟩
        have q := sat_d h s (.bl _)
        have e : (Ty.list == t || (Ty.list == Ty.bool && t == Ty.int)) = (t == Ty.list) := by cases t <;> rfl
        rw [e]; exact q
    · cases e
      cases r with
      | dct h1 =>
        refine ⟨.type "dict", _, .base (.dK (s.le _ _ h1)), kit_ty (kit_all .dict t), ?_⟩
        have q := sat_d h s (.bl _)
        have e : (Ty.dict == t || (Ty.dict == Ty.bool && t == Ty.int)) = (t == Ty.dict) := by cases t <;> rfl
        rw [e]; exact q
    · split at e
      · rename_i hS
        cases e
        obtain ⟨a, h1, rfl⟩ := r
        obtain ⟨a', zs, q1, q2, q3⟩ := s.getL hS
        rw [h1] at q1; cases q1
        refine ⟨.type "list", _, .base (.lst q2), kit_ty (kit_all .list t), ?_⟩
        have q := sat_d h s (.bl _)
        have e : (Ty.list == t || (Ty.list == Ty.bool && t == Ty.int)) = (t == Ty.list) := by cases t <;> rfl
        rw [e]; exact q
      · cases e
    · cases e
  · exact h.elim
/-! ### a list's append, a store -/
theorem real_append {g : Gc} {F : Hp} {f : List Addr} {R : Rs} {S : Store} {H : Hp} {x : V} {v : Val} {xs : List V} {vs : List Val} {W : WH} {Q : VK} (s : Sm g F f R S H) (r : VR g F f x v) (rs : VRs g F f xs vs)
    (h : Sat g F f R W (meV .append v vs S) (fun w F' f' S' H' => ∀ z, VR g F' f' z w → Q z H')) : rAppend x xs H Q ∧ ∃ a ys, x = .ref a ∧ SqL g.K H a ys := by
  unfold meV at h
  split at h
  · split at h
    · rename_i hS
      split at h
      · rename_i c
        obtain ⟨a, h1, rfl⟩ := r
        obtain ⟨y, rfl, ry⟩ := vrs1 rs
        obtain ⟨a', zs, q1, q2, q3⟩ := s.getL hS
        rw [h1] at q1; cases q1
        refine ⟨⟨_, _, y, rfl, rfl, q2, by rw [q3.len]; exact c, ?_⟩, _, _, rfl, .inl (.inl q2)⟩
        have s1 := s.put (o := .lst (zs ++ [y])) (ob := .lst (_ ++ [_])) h1 ⟨_, rfl, q3.append (.one ry)⟩
        exact h F f _ (Ext.refl _ _) s1 .non .non
      · exact h.elim
    · exact h.elim
  · rename_i z; cases z
  · exact h.elim
theorem real_set {g : Gc} {F : Hp} {f : List Addr} {R : Rs} {S : Store} {H : Hp} {x y z : V} {v u w : Val} {W : WH} {Q : Hp → Prop} (s : Sm g F f R S H) (r : VR g F f x v) (r2 : VR g F f y u) (r3 : VR g F f z w)
    (h : Sat g F f R W (setV v u w S) (fun _ F' f' S' H' => Q H')) : rSetL x y z H Q := by
  unfold setV at h
  split at h
  · split at h
    · rename_i hS
      split at h
      · rename_i j c
        obtain ⟨a, h1, rfl⟩ := r
        cases r2
        obtain ⟨a', zs, q1, q2, q3⟩ := s.getL hS
        rw [h1] at q1; cases q1
        refine ⟨_, _, _, j, rfl, rfl, q2, by rw [q3.len]; exact c, ?_⟩
        have s1 := s.put (o := .lst (zs.set j z)) (ob := .lst (_)) h1 ⟨_, rfl, DaAll.set r3 j q3⟩
        exact h F f _ (Ext.refl _ _) s1
      · exact h.elim
    · exact h.elim
  · exact h.elim
end Ev
end

section
set_option Elab.async false
set_option linter.all false
set_option maxRecDepth 100000
set_option maxHeartbeats 4000000
/-! E4b: len(set(texts)) -/
namespace Ev
open PySem PySem.Spec PyProof.Rows L2

theorem addD_len (acc : List Str) (x : Str) : (addD acc x).length ≤ acc.length + 1 := by
  unfold addD
  split <;> simp
theorem once_len : ∀ (xs acc : List Str), (xs.foldl addD acc).length ≤ acc.length + xs.length
  | [], acc => by simp
  | x :: xs, acc => by
    have h1 := once_len xs (addD acc x)
    have h2 := addD_len acc x
    show (xs.foldl addD (addD acc x)).length ≤ _
    rw [List.length_cons]
    omega
section
variable {prog : Program} {w : World} {A : Around} {R : Result → Shared → Prop} {I S : Addr} {fp wr : List Addr} {G : Array GenState → Array GenState → Prop} {P : Nat → Value → Prop} {St : Nat → Shared → Prop}
abbrev SetS (prog : Program) (w : World) (h : Heap) (S : Addr) (acc : List Str) : Prop := h.SetOf (PySem.strKind prog w) S (fun k => decide (k ∈ acc)) acc.length
/-- the loop that fills a set, from turn i on -/
theorem fill_loop (W : WalksS prog w A.in1 I fp wr G n P St) (off : S ∉ fp) {xs : List Str} (few : xs.length < 4000) (hn : xs.length = n) (val : ∀ i v, P i v → ∃ t, v = .str (xs.getD i Str.empty) t) :
    ∀ (rest : List Str) (i : Nat) (acc : List Str) (s : Shared), xs.drop i = rest → i ≤ n → acc.length ≤ i → St i s → SetS prog w s.heap S acc →
      (∀ s', Moved (S :: wr) G s s' → SetS prog w s'.heap S (rest.foldl addD acc) → R (.ok (.ret .none)) s') →
      codeAny (model prog w) A (.builtin "set.update.loop" ⟨[.ref S, .ref I], []⟩) R s := by
  have offw : S ∉ wr := fun h => off (W.sub _ h)
  have more : ∀ b ∈ wr, b ∈ S :: wr := fun b hb => List.mem_cons_of_mem _ hb
  have still : ∀ {s s' : Shared} {acc : List Str}, Moved wr G s s' → SetS prog w s.heap S acc → SetS prog w s'.heap S acc := fun {s s' acc} m ⟨o, es, ep, t, ho, z⟩ => ⟨o, es, ep, t, m.heap S _ offw ho, z⟩
  intro rest
  induction rest with
  | nil =>
    intro i acc s hd hi hl st hS fin
    have ei : i = n := by
      have := List.drop_eq_nil_iff.mp hd
      omega
    subst ei
    refine codeAny_builtin PyProof.Rows.F.entry_set_update_loop ?_
    rw [Around.under_plainId PyProof.Rows.F.plain_set_update_loop _]
    refine wpAny_bind (W.done s _ _ st fun s' hm => ?_)
    exact wpAny_pure (fin s' (hm.mono more) (still hm hS))
  | cons y rest ih =>
    intro i acc s hd hi hl st hS fin
    have lt : i < xs.length := by
      have := congrArg List.length hd
      rw [List.length_drop, List.length_cons] at this
      omega
    have hy : xs.getD i Str.empty = y := by
      rw [List.drop_eq_getElem_cons lt] at hd
      rw [List.getD_eq_getElem?_getD, List.getElem?_eq_getElem lt]
      exact (List.cons.inj hd).1
    have hd2 : xs.drop (i + 1) = rest := by
      rw [List.drop_eq_getElem_cons lt] at hd
      exact (List.cons.inj hd).2
    refine codeAny_builtin PyProof.Rows.F.entry_set_update_loop ?_
    rw [Around.under_plainId PyProof.Rows.F.plain_set_update_loop _]
    refine wpAny_bind (W.item i s _ _ (by omega) st fun v s' hP st' hm => ?_)
    obtain ⟨t, rfl⟩ := val i v hP
    rw [hy]
    have hS' := still hm hS
    refine wpAny_bind (wpAny_holding ?_)
    unfold setAdd
    refine wpAny_holding (wpAny_bind ((PySem.strKind prog w).pyHash (k := y) (strKind_is _ _ _ _) ?_))
    refine wpAny_setAddHashed_of (knd := PySem.strKind prog w) (s := { s' with toks := s'.toks + 1 }) (strKind_is _ _ _ _) rfl hS' (by unfold scanBound; omega) fun h' hsb hS2 => ?_
    have hS3 : SetS prog w h' S (addD acc y) := by
      refine SetOf_congr hS2 (fun k => ?_) ?_
      · unfold addD
        by_cases m : y ∈ acc
        · rw [if_pos m]
          by_cases e : k = y
          · subst e; simp [m]
          · simp [e]
        · rw [if_neg m]; simp
      · unfold addD
        by_cases m : y ∈ acc
        · simp [m]
        · simp [m]
    refine wpAny_pure ⟨plainId_quiet PyProof.Rows.F.plain_set_update_loop _, ih (i + 1) (addD acc y) _ hd2 (by omega) (by have := addD_len acc y; omega) (W.frame _ s' _ _ st' (Nat.le_succ _) fun b hb o e => ?_) hS3 fun s'' hm2 hS4 => ?_⟩
    · rw [hsb.2 b (fun h : b = S => off (h ▸ hb))]; exact e
    · refine fin s'' (Moved.trans W.gtrans ((hm.mono more).then_heap (Nat.le_succ _) fun b o hb e => ?_) hm2) hS4
      rw [hsb.2 b (fun h : b = S => hb (h ▸ List.mem_cons_self))]; exact e
end
/-- the object at l is walked in order -/
def Goes (prog : Program) (w : World) (T : String) (l : Addr) (od : Option Addr) (items : Array Value) (nl : Nat) (sl : Array (Option Value)) : Prop :=
  ∀ (A : Around) (Q : Value → Shared → Prop) (E : Value → Shared → Prop) (s : Shared), s.heap.get? l = some ⟨.type T, od, .seq items nl, sl⟩ →
    (∀ (io : Obj) (St : Nat → Heap → Prop), io.isFreed = false → (∀ A' : Around, A'.handled = none → Walks prog w A' s.heap.objs.size [s.heap.objs.size, l] [s.heap.objs.size] items.size (fun i v => items[i]? = some v) St) → St 0 (s.heap.push io) →
      Q (.ref s.heap.objs.size) { s with heap := s.heap.push io }) → wpAny (model prog w) A (pyIter (.ref l)) Q E s
theorem goes_list {prog : Program} {w : World} {l : Addr} {od : Option Addr} {items : Array Value} {nl : Nat} {sl : Array (Option Value)} : Goes prog w "list" l od items nl sl := fun A Q E s ho h => by
  have hl : s.heap.IsList l items := ⟨_, ho, rfl, nl, rfl⟩
  have ne : l ≠ s.heap.objs.size := Nat.ne_of_lt (Heap.lt_size ho)
  refine wpAny_pyIter_list hl (h _ _ rfl (fun A' hh => Walks.list hh _ l ne items) ⟨⟨_, Heap.get?_push_size _ rfl, rfl, rfl⟩, hl.push _⟩)
theorem goes_tuple {prog : Program} {w : World} {l : Addr} {od : Option Addr} {items : Array Value} {nl : Nat} {sl : Array (Option Value)} : Goes prog w "tuple" l od items nl sl := fun A Q E s ho h => by
  have hl : s.heap.IsTuple l items := ⟨_, ho, rfl, nl, rfl⟩
  have ne : l ≠ s.heap.objs.size := Nat.ne_of_lt (Heap.lt_size ho)
  refine wpAny_pyIter_tuple hl (h _ _ rfl (fun A' hh => Walks.tuple hh _ l ne items) ⟨⟨_, Heap.get?_push_size _ rfl, rfl, rfl⟩, hl.push _⟩)
section
variable {prog : Program} {w : World} {A : Around} {E : Value → Shared → Prop} {s : Shared}
set_option maxHeartbeats 16000000 in
theorem call_set_texts {T : String} {l : Addr} {od : Option Addr} {items : Array Value} {nl : Nat} {sl : Array (Option Value)} {xs : List Str} {Q : Value → Shared → Prop}
    (hh : A.handled = none) (ho : s.heap.get? l = some ⟨.type T, od, .seq items nl, sl⟩) (goes : Goes prog w T l od items nl sl) (hsls : isSubtype (.type T) (.type "set") = pure false) (hslf : isSubtype (.type T) (.type "frozenset") = pure false)
    (hne : (Value.type T == Value.type "dict") = false) (hi : PyProof.Rows.StrsAre items.toList xs) (few : xs.length < 4000)
    (h : ∀ (h' : Heap) (tk : Nat), SetS prog w h' s.heap.objs.size (onceS xs) → (∀ b o, b < s.heap.objs.size → s.heap.get? b = some o → h'.get? b = some o) → Q (.ref s.heap.objs.size) { s with heap := h', toks := tk }) :
    wpAny (model prog w) A (call (.type "set") [.ref l]) Q E s := by
  obtain ⟨c, tl, hmro⟩ := PySem.F.called_set.mro
  have hmade := PySem.F.called_set.made
  have hsub := PySem.F.called_set.sub
  refine wpAny_call (codeAny_of_tree ?_)
  show wpAny _ _ (callAny (.type "set") _) _ _ _
  refine wpAny_pure ⟨Code.quiet_builtin _ (by decide +kernel), codeAny_builtin PySem.F.entry_type_call ?_⟩
  rw [Around.under_plain (weight_type_call_type "set" [.ref l] []) rfl]
  have h1 := PySem.F.called_set.notType
  have h2 := PySem.F.called_set.canCreate
  have hct := PySem.F.typeCall_set_1 (.ref l)
  repeat (any_goals (first | assumption | wp_step))
  generalize hnew : (fun led : Bool => ({ cls := .type "set", dict := none, data := .set #[] 0 (.fresh 0 0 led) } : Obj)) = new
  refine codeAny_mono (code_set_new_1 (.ref l) (E := E) (Q₁ := fun obj s₁ => ∃ led : Bool, obj = .ref s.heap.objs.size ∧ s₁ = { s with heap := s.heap.push (new led) }) fun led => ⟨led, rfl, by rw [← hnew]⟩) fun r s₁ hr => ?_
  cases r with
  | error e => exact hr
  | ok fl =>
    cases fl with
    | ret obj =>
      obtain ⟨led, rfl, rfl⟩ := hr
      have enew : new led = { cls := .type "set", dict := none, data := .set #[] 0 (.fresh 0 0 led) } := by rw [← hnew]
      have hS : (s.heap.push (new led)).get? s.heap.objs.size = some { cls := .type "set", dict := none, data := .set #[] 0 (.fresh 0 0 led) } := by rw [enew]; exact Heap.get?_push_size _ rfl
      have hT : Shared.TypeIs { s with heap := s.heap.push (new led) } (.ref s.heap.objs.size) "set" := ⟨_, hS, rfl⟩
      have hli := PySem.F.called_set.init.lookup
      have hbi := PySem.F.called_set.init.bind (.ref s.heap.objs.size)
      repeat (any_goals (first | assumption | wp_step))
      refine codeAny_mono (codeAny_call_builtin (R := wants (fun r s₂ => r = .none ∧ ∃ h' tk, s₂ = { s with heap := h', toks := tk } ∧ SetS prog w h' s.heap.objs.size (onceS xs) ∧
          (∀ b o, b < s.heap.objs.size → s.heap.get? b = some o → h'.get? b = some o)) E) PySem.F.called_set.init.plain PySem.F.entry_set_init (check_set_init_1 hT ?_)) fun r₂ s₂ hr₂ => ?_
      · have hol' : (s.heap.push (new led)).get? l = some ⟨.type T, od, .seq items nl, sl⟩ := Heap.get?_push_of_some _ ho
        have lS : l < s.heap.objs.size := Heap.lt_size ho
        unfold Builtin.«set.__init__» noKeywords Builtin.Frozenset.updateFrom
        generalize hPI : pyIter = PI
        wp_walk
        subst hPI
        refine goes _ _ _ _ hol' fun io St fr walk st => ?_
        refine wpAny_bind (wpAny_runValue ?_)
        have sz : xs.length = items.size := by rw [← StrsAre.len_eq hi, Array.length_toList]
        have apart : s.heap.objs.size ∉ [(s.heap.push (new led)).objs.size, l] := by
          rw [Heap.size_push]
          simp only [List.mem_cons, List.not_mem_nil, or_false, not_or]
          exact ⟨Nat.ne_of_lt (Nat.lt_succ_self _), Nat.ne_of_gt lS⟩
        refine fill_loop ((walk A.in1.in1.in1 (by simp [hh])).toS) apart few sz (fun i v hv => SS.strs_at hi i v (by rw [Array.getElem?_toList]; exact hv)) xs 0 [] _ rfl (Nat.zero_le _) (Nat.le_refl _) st ?_ ?_
        · exact PyProof.Rows.SetOf_congr ((PyProof.Rows.setObjOf_fresh (knd := PySem.strKind prog w) led).setOf (Heap.get?_push_of_some _ hS) (by unfold scanBound; omega)) (fun _ => rfl) rfl
        · intro s' hm hS'
          obtain ⟨h', g', d', tk', os'⟩ := s'
          obtain rfl : g' = s.gens := hm.gens
          obtain rfl : d' = s.drawn := hm.drawn
          obtain rfl : os' = s.os := hm.os
          refine wpAny_pure ?_
          refine wpAny_pure ⟨rfl, h', tk', rfl, hS', fun b o hb e => ?_⟩
          refine hm.heap b o ?_ (Heap.get?_push_of_some _ (Heap.get?_push_of_some _ e))
          simp only [List.mem_cons, List.not_mem_nil, or_false, not_or]
          exact ⟨Nat.ne_of_lt hb, by rw [Heap.size_push]; exact Nat.ne_of_lt (Nat.lt_succ_of_lt hb)⟩
      · cases r₂ with
        | error e => exact hr₂
        | ok fl₂ =>
          cases fl₂ with
          | ret r =>
            obtain ⟨rfl, h', tk, rfl, hS', hk'⟩ := hr₂
            repeat (any_goals (first | assumption | wp_step))
            exact h _ _ hS' hk'
          | _ => exact hr₂.elim
    | _ => exact hr.elim
end
end Ev
end

section
set_option Elab.async false
set_option linter.all false
set_option maxRecDepth 100000
set_option maxHeartbeats 4000000
/-! E5: slices -/
namespace Ev
open PySem PySem.Spec PyProof.Rows L2

abbrev rdO (g : Gc) (W : WX) (t : TD (Option Int)) : TO := rdG g W (fun _ _ x v => x = v) t
def rSliV (K : PySem.W.Frag) : V → Option Int → Option Int → Hp → VK → Prop := fun x lo hi H Q => rSlL K x lo hi H Q ∨ (rSlA K x lo hi H Q ∨ rSlS x lo hi H Q)
theorem sl_V {X : Cx} : SlR X (rSliV X.K) := SlR.or sl_list (SlR.or sl_tupA sl_str)
theorem cut_da {K : PySem.W.Frag} {F : Hp} {xs : List V} {ds : List PyData} (t : DaAll K F xs ds) (lo hi : Option Int) : DaAll K F (cutV xs lo hi) (cutD ds lo hi) := by
  unfold cutV cutD
  rw [t.len]
  exact (t.drop _).take _
theorem cut_all {K : PySem.W.Frag} {F : Hp} {xs : List V} {ds : List PyData} (t : DaAll K F xs ds) {lo hi : Option Int} (h : HT.sIx xs.length 0 lo = 0 ∧ HT.sIx xs.length xs.length hi = xs.length) : cutD ds lo hi = ds := by
  unfold cutD
  rw [← t.len, h.1, h.2]
  simp [t.len]
theorem real_sli {g : Gc} {F : Hp} {f : List Addr} {R : Rs} {S : Store} {H : Hp} {x : V} {v : Val} {lo hi : Option Int} {W : WH} {Q : VK} (s : Sm g F f R S H) (r : VR g F f x v)
    (h : Sat g F f R W (sliV v lo hi S) (fun w F' f' S' H' => ∀ z, VR g F' f' z w → Q z H')) : rSliV g.K x lo hi H Q := by
  unfold sliV at h
  split at h
  · obtain ⟨c, h⟩ := okIf_pos h
    cases r
    exact .inr (.inr ⟨_, rfl, c, sat_d h s (.str _)⟩)
  · cases r with
    | tup h1 t1 =>
      refine .inr (.inl ⟨_, _, rfl, SqT.sub s.le h1, fun e => ?_, fun _ p hp => sat_tup h s (cut_da t1 lo hi) hp⟩)
      rw [cut_all t1 e] at h
      exact sat_d h s (.tup h1 t1)
  · split at h
    · rename_i e
      obtain ⟨a, ys, rfl, q, t⟩ := lst_of s r e
      exact .inl ⟨_, _, rfl, .inl q, fun p hp => sat_lst h s (cut_da t lo hi) hp⟩
    · exact h.elim
theorem fm_some {α β : Type} (f : α → Option β) (k : α → β) : ∀ l : List α, (∀ a ∈ l, f a = some (k a)) → l.filterMap f = l.map k
  | [], _ => rfl
  | a :: l, h => by
    rw [List.filterMap_cons, h a List.mem_cons_self, List.map_cons, fm_some f k l fun b hb => h b (List.mem_cons_of_mem _ hb)]
/-! ### t[::-1], t[:0:-1] -/
section
variable {prog : Program} {w : World} {A : Around} {E : Value → Shared → Prop} {s : Shared}
theorem range_back (xs : Array Value) (n : Nat) (hn : n ≤ xs.size) : (List.range n).filterMap (fun (m : Nat) => xs[(((xs.size : Int) - 1) + (m : Int) * (-1)).toNat]?) = (xs.toList.drop (xs.size - n)).reverse := by
  have e : ∀ m ∈ List.range n, xs[(((xs.size : Int) - 1) + (m : Int) * (-1)).toNat]? = some ((xs.toList.drop (xs.size - n)).reverse.getD m default) := fun m hm => by
    have hm' := List.mem_range.mp hm
    have e1 : (((xs.size : Int) - 1) + (m : Int) * (-1)).toNat = xs.size - 1 - m := by omega
    have hlt : xs.size - 1 - m < xs.size := by omega
    rw [e1, Array.getElem?_eq_getElem hlt, List.getD_eq_getElem?_getD, List.getElem?_eq_getElem (by simp; omega)]
    simp only [Option.getD_some, Option.some.injEq]
    rw [List.getElem_reverse, List.getElem_drop]
    simp only [Array.getElem_toList, List.length_drop, Array.length_toList]
    congr 1
    omega
  have e2 : (List.range n).filterMap (fun (m : Nat) => xs[(((xs.size : Int) - 1) + (m : Int) * (-1)).toNat]?) = (List.range n).map fun m => (xs.toList.drop (xs.size - n)).reverse.getD m default := by
    exact fm_some _ _ _ e
  rw [e2]
  apply List.ext_getElem
  · simp; omega
  · intro i h1 h2
    simp only [List.getElem_map, List.getElem_range, List.getD_eq_getElem?_getD]
    rw [List.getElem?_eq_getElem h2, Option.getD_some]
/-- z: with the stop 0 -/
def stopOf (z : Bool) : Option Int := if z = true then some 0 else none
theorem sliceApplied_back {sl : Addr} {vu vs : Value} {z : Bool} {n : Nat} {Q : Int × Int × Nat → Shared → Prop} (hs : s.heap.IsSliceOf sl .none vu vs) (pu : IsPart vu (stopOf z)) (ps : IsPart vs (some (-1)))
    (h : Q ((n : Int) - 1, -1, if z = true then n - 1 else n) s) : wpAny (model prog w) A (Builtin.Slice.sliceApplied (.ref sl) (pure (n : Int))) Q E s := by
  obtain ⟨os, hos, hcs, hds⟩ := id hs
  unfold Builtin.Slice.sliceApplied Builtin.Slice.sliceFields
  refine wpAny_bind (wpAny_bind (wpAny_field hos hds (x := .none) rfl (wpAny_bind (wpAny_field hos hds (x := vu) rfl (wpAny_bind (wpAny_field hos hds (x := vs) rfl (wpAny_pure ?_)))))))
  refine wpAny_bind (HT.slicePart_ ps ?_)
  show wpAny _ _ (if ((-1 : Int) == 0) = true then _ else _) _ _ s
  rw [if_neg (by decide)]
  refine wpAny_bind (HT.slicePart_ .none (wpAny_bind (HT.slicePart_ pu (wpAny_bind (wpAny_pure ?_)))))
  have e : Builtin.Slice.sliceAdjust none (stopOf z) (-1) (n : Int) = ((n : Int) - 1, if z = true then min 0 ((n : Int) - 1) else -1) := by
    cases z
    · rfl
    · unfold Builtin.Slice.sliceAdjust stopOf
      simp
  have e2 : Builtin.Slice.slicePlaces ((n : Int) - 1) (if z = true then min 0 ((n : Int) - 1) else -1) (-1) = if z = true then n - 1 else n := by
    unfold Builtin.Slice.slicePlaces
    cases z
    · simp only [Bool.false_eq_true, if_false]
      rw [if_neg (by decide)]
      by_cases h0 : n = 0
      · subst h0; rfl
      · rw [if_pos (by omega)]
        rw [show (-(-1) : Int) = 1 by decide, Int.ediv_one]
        omega
    · simp only [if_true]
      rw [if_neg (by decide)]
      by_cases h0 : n ≤ 1
      · rw [if_neg (by omega)]
        omega
      · rw [if_pos (by omega), show (-(-1) : Int) = 1 by decide, Int.ediv_one]
        omega
  show wpAny _ _ (match Builtin.Slice.sliceAdjust none (stopOf z) (-1) (n : Int) with | (lo, hi) => pure (lo, (-1 : Int), Builtin.Slice.slicePlaces lo hi (-1))) _ _ s
  rw [e]
  show wpAny _ _ (pure ((n : Int) - 1, (-1 : Int), Builtin.Slice.slicePlaces ((n : Int) - 1) (if z = true then min 0 ((n : Int) - 1) else -1) (-1))) _ _ s
  rw [e2]
  exact wpAny_pure h
theorem getItem_tuple_back {t sl : Addr} {items : Array Value} {vu vs : Value} {z : Bool} {Q : Value → Shared → Prop} (ht : IsTup s.heap t items) (hs : s.heap.IsSliceOf sl .none vu vs) (pu : IsPart vu (stopOf z)) (ps : IsPart vs (some (-1)))
    (h : Q (.ref s.heap.objs.size) { s with heap := s.heap.push { cls := .type "tuple", data := .seq (items.toList.drop (items.size - (if z = true then items.size - 1 else items.size))).reverse.toArray } })
    (hsz : items.size ≤ sizeLine) : wpAny (model prog w) A (getItem (.ref t) (.ref sl)) Q E s := by
  have hle : (if z = true then items.size - 1 else items.size) ≤ items.size := by cases z <;> simp
  have htake : sizeOk (.seq (items.toList.drop (items.size - (if z = true then items.size - 1 else items.size))).reverse.toArray) := by
    show (items.toList.drop (items.size - (if z = true then items.size - 1 else items.size))).reverse.toArray.size ≤ sizeLine
    rw [List.size_toArray, List.length_reverse, List.length_drop, Array.length_toList]
    omega
  obtain ⟨os, hos, hcs, hds⟩ := id hs
  have hTs : s.TypeIs (.ref sl) "slice" := ⟨os, hos, hcs⟩
  unfold getItem
  try with_reducible refine wpAny_holding ?_
  first | refine wpAny_bind (wpAny_pure ?_) | skip
  refine wpAny_bind (wpAny_sequenceKey ht.typeIs (by decide) ?_)
  refine wpAny_bind (wpAny_callSpecial?_slot (name := Str.ofString "__getitem__") ht.typeIs PyProof.Rows.slot_tuple_getitem
    (wpAny_call_entry PyProof.Rows.slot_tuple_getitem ht.typeIs entry_tuple_getitem ?_ (args_tuple_getitem _ _)))
  show wpAny _ _ (Builtin.Tuple.tupleItemsOf (.ref t) >>= _) _ _ s
  refine wpAny_bind (tupleItemsOf_ ht ?_)
  refine wpAny_bind (wpAny_typeOf hTs ?_)
  rw [if_pos (by decide)]
  refine wpAny_bind (sliceApplied_back hs pu ps ?_)
  have hno : ¬ ((((items.size : Int) - 1) == 0 && (-1 : Int) == 1 && (if z = true then items.size - 1 else items.size) == items.size) = true) := by
    intro q
    rw [Bool.and_eq_true, Bool.and_eq_true] at q
    have q1 : (-1 : Int) = 1 := eq_of_beq q.1.2
    exact absurd q1 (by decide)
  show wpAny _ _ (if (((items.size : Int) - 1) == 0 && (-1 : Int) == 1 && (if z = true then items.size - 1 else items.size) == items.size) = true then _ else _) _ _ s
  rw [if_neg hno, range_back items _ hle]
  first
    | exact wpAny_bind (m := Builtin.Tuple.tupleExact _) (wpAny_newObj_type (wpAny_pure ⟨_, rfl, wpAny_pure h⟩) htake)
    | exact wpAny_bind (m := Builtin.Tuple.tupleExact _) (wpAny_newObj_type (wpAny_bind (wpAny_pure (wpAny_pure ⟨_, rfl, wpAny_pure h⟩))) htake)
    | exact wpAny_bind (wpAny_bind (m := Builtin.Tuple.tupleExact _) (wpAny_newObj_type (wpAny_pure (wpAny_pure ⟨_, rfl, wpAny_pure h⟩)) htake))
    | exact wpAny_bind (wpAny_bind (m := Builtin.Tuple.tupleExact _) (wpAny_newObj_type (wpAny_pure ⟨_, rfl, wpAny_pure h⟩) htake))
end
def rRevV (K : PySem.W.Frag) (z : Bool) : V → Hp → VK → Prop := fun x H Q => (∃ a xs, x = .ref a ∧ Rd H a (.lst xs) ∧ z = false ∧ ∀ p, H p = none → Q (.ref p) (upd H p (.lst xs.reverse))) ∨
  (∃ a xs, x = .ref a ∧ SqT K H a xs ∧ ∀ p, H p = none → Q (.ref p) (upd H p (.tup (if z = true then (xs.drop 1).reverse else xs.reverse))))
theorem real_rev {g : Gc} {F : Hp} {f : List Addr} {R : Rs} {S : Store} {H : Hp} {x : V} {v : Val} {z : Bool} {W : WH} {Q : VK} (s : Sm g F f R S H) (r : VR g F f x v)
    (h : Sat g F f R W (revV z v S) (fun w F' f' S' H' => ∀ z, VR g F' f' z w → Q z H')) : rRevV g.K z x H Q := by
  unfold revV at h
  split at h
  · cases r with
    | tup h1 t1 =>
      refine .inr ⟨_, _, rfl, SqT.sub s.le h1, fun p hp => sat_tup h s ?_ hp⟩
      cases z
      · exact t1.reverse
      · exact (t1.drop 1).reverse
  · split at h
    · rename_i e
      obtain ⟨a, ys, rfl, q, t⟩ := lst_of s r e
      cases z
      · exact .inl ⟨_, _, rfl, q, rfl, fun p hp => sat_lst h s t.reverse hp⟩
      · exact h.elim
    · exact h.elim
theorem Vals.reverseV : ∀ {xs : List V} {us : List Value}, Vals xs us → Vals xs.reverse us.reverse
  | _, _, .nil => .nil
  | _, _, .cons a t => by rw [List.reverse_cons, List.reverse_cons]; exact (Vals.reverseV t).append (.cons a .nil)
section
variable {X : Cx}
/-- the values behind the brackets are there: a[:stop:-1] -/
theorem rev_tail {pins : List (Addr × Obj)} {σ : L2.St} {H : Hp} {s : Shared} {z : Bool} {x : V} {v vu vs : Value} {Q : VK} {e sl : Expr} (I : Inv X pins σ H s) (rx : RelV x v) (pu : IsPart vu (stopOf z)) (ps : IsPart vs (some (-1))) (h : rRevV X.K z x H Q)
    (hs : ∀ o i, subscripted sl false o i = operate [o, i] (getItem o i) ∨ subscripted sl false o i = operate [i, o] (getItem o i)) :
    wpAny (model X.prog X.w) X.A (subscriptTail e sl v (.ref s.heap.objs.size)) (EP X pins σ Q) X.xe { s with heap := s.heap.push { cls := .type "slice", data := .fields #[.none, vu, vs] } } := by
  have I5 : Inv X pins σ H { s with heap := s.heap.push { cls := .type "slice", data := .fields #[.none, vu, vs] } } := I.kept (t' := s.toks) fun b ob q => Heap.get?_push_of_some _ q
  have isl : (s.heap.push { cls := .type "slice", data := .fields #[.none, vu, vs] }).IsSliceOf s.heap.objs.size .none vu vs := Heap.IsSliceOf.new _ .none vu vs
  rcases h with ⟨a, xs, rfl, hx, rfl, q⟩ | ⟨a, xs, rfl, hx, q⟩
  · cases rx
    obtain ⟨its, r, ht, hz⟩ := I5.list (.inl hx)
    have hlen := r.length
    have go : wpAny (model X.prog X.w) X.A (getItem (.ref a) (.ref s.heap.objs.size)) (EP X pins σ Q) X.xe { s with heap := s.heap.push { cls := .type "slice", data := .fields #[.none, vu, vs] } } := by
      refine wpAny_getItem_list_slice ht.isList isl .none pu ps (by decide) ?_ (by rw [List.size_toArray]; omega)
      show EP X pins σ Q _ { s with heap := (s.heap.push _).push { cls := .type "list", data := .seq (slicePick its.toArray none none (some (-1))) } }
      rw [PySem.W.krv_pick]
      refine ⟨.ref _, _, I5.laid (t' := s.toks) (o := .lst xs.reverse) (fun b ob q => Heap.get?_push_of_some _ q) (Nat.le_refl _) ?_, rfl, q _ (I5.hok.fresh (Nat.le_refl _))⟩
      exact ⟨by rw [List.length_reverse]; exact hz, _, 0, Vals.reverseV r, Heap.get?_push_size _ rfl⟩
    rcases hs (.ref a) (.ref s.heap.objs.size) with e1 | e1
    · exact tail_any ht.isList.typeIs (PySem.slot_list_getitem.lookup) go e1
    · exact tail_any ht.isList.typeIs (PySem.slot_list_getitem.lookup) go e1
  · cases rx
    obtain ⟨its, r, ht, hz⟩ := I5.tuple hx
    have hlen := r.length
    have go : wpAny (model X.prog X.w) X.A (getItem (.ref a) (.ref s.heap.objs.size)) (EP X pins σ Q) X.xe { s with heap := s.heap.push { cls := .type "slice", data := .fields #[.none, vu, vs] } } := by
      refine getItem_tuple_back ht isl pu ps ?_ (by rw [List.size_toArray]; omega)
      have e2 : (its.toArray.toList.drop (its.toArray.size - (if z = true then its.toArray.size - 1 else its.toArray.size))).reverse = if z = true then (its.drop 1).reverse else its.reverse := by
        cases z
        · simp
        · simp only [if_true, List.size_toArray]
          cases its with
          | nil => rfl
          | cons a b =>
            have : (a :: b).length - ((a :: b).length - 1) = 1 := by simp
            rw [this]
      rw [e2]
      refine ⟨.ref _, _, I5.laid (t' := s.toks) (o := .tup (if z = true then (xs.drop 1).reverse else xs.reverse)) (fun b ob q => Heap.get?_push_of_some _ q) (Nat.le_refl _) ?_, rfl, q _ (I5.hok.fresh (Nat.le_refl _))⟩
      cases z
      · exact ⟨by simp; exact hz, _, Vals.reverseV r, IsTup.new _ _⟩
      · exact ⟨by simp; omega, _, Vals.reverseV (r.drop 1), IsTup.new _ _⟩
    rcases hs (.ref a) (.ref s.heap.objs.size) with e1 | e1
    · exact tail_any ht.typeIs (PyProof.Rows.slot_tuple_getitem.lookup) go e1
    · exact tail_any ht.typeIs (PyProof.Rows.slot_tuple_getitem.lookup) go e1
theorem pe_rev {e : Expr} {te : TE} {k : Nat} {p1 p2 p3 pos : Pos} (he : PE X e te) : PE X (.Subscript e (.Slice none none (some (.UnaryOp .USub (.Constant (.int 1) k p1) p2)) p3) pos) (tUn (rRevV X.K false) te) := by
  refine ⟨fun pins s σ H Q I h => ?_⟩
  refine Subscript_ (thn (he.run pins s σ H _ I h) fun v s1 ⟨x, H1, I1, r1, q1⟩ => ?_)
  have hst : PO X (some (.UnaryOp .USub (.Constant (.int 1) k p1) p2)) (tPart (tUn (rU fun i => .int (-i)) (tC (.int 1)))) := po_some (pe_un un_neg pe_int)
  refine wpAny_Slice (thn (po_none.run pins s1 σ H1 (fun o H2 => o = none ∧ H2 = H1) I1 ⟨rfl, rfl⟩) fun vl s2 ⟨l, H2, I2, pl, el, e2⟩ => ?_)
  subst el e2
  refine thn (po_none.run pins s2 σ H2 (fun o H3 => o = none ∧ H3 = H2) I2 ⟨rfl, rfl⟩) fun vu s3 ⟨u, H3, I3, pu, eu, e3⟩ => ?_
  subst eu e3
  refine thn (hst.run pins s3 σ H3 (fun o H4 => o = some (-1) ∧ H4 = H3) I3 ⟨1, rfl, -1, rfl, rfl, rfl⟩) fun vs s4 ⟨o, H4, I4, ps, eo, e4⟩ => ?_
  subst eo e4
  cases pl
  exact rev_tail (z := false) I4 r1 pu ps q1 fun o i => by first | exact .inl (by with_unfolding_all rfl) | exact .inr (by with_unfolding_all rfl)
theorem pe_rev0 {e : Expr} {te : TE} {k k0 : Nat} {p1 p2 p3 p4 pos : Pos} (he : PE X e te) : PE X (.Subscript e (.Slice none (some (.Constant (.int 0) k0 p4)) (some (.UnaryOp .USub (.Constant (.int 1) k p1) p2)) p3) pos) (tUn (rRevV X.K true) te) := by
  refine ⟨fun pins s σ H Q I h => ?_⟩
  refine Subscript_ (thn (he.run pins s σ H _ I h) fun v s1 ⟨x, H1, I1, r1, q1⟩ => ?_)
  have hst : PO X (some (.UnaryOp .USub (.Constant (.int 1) k p1) p2)) (tPart (tUn (rU fun i => .int (-i)) (tC (.int 1)))) := po_some (pe_un un_neg pe_int)
  have hst0 : PO X (some (.Constant (.int 0) k0 p4)) (tPart (tC (.int 0))) := po_some pe_int
  refine wpAny_Slice (thn (po_none.run pins s1 σ H1 (fun o H2 => o = none ∧ H2 = H1) I1 ⟨rfl, rfl⟩) fun vl s2 ⟨l, H2, I2, pl, el, e2⟩ => ?_)
  subst el e2
  refine thn (hst0.run pins s2 σ H2 (fun o H3 => o = some 0 ∧ H3 = H2) I2 ⟨0, rfl, rfl, rfl⟩) fun vu s3 ⟨u, H3, I3, pu, eu, e3⟩ => ?_
  subst eu e3
  refine thn (hst.run pins s3 σ H3 (fun o H4 => o = some (-1) ∧ H4 = H3) I3 ⟨1, rfl, -1, rfl, rfl, rfl⟩) fun vs s4 ⟨o, H4, I4, ps, eo, e4⟩ => ?_
  subst eo e4
  cases pl
  exact rev_tail (z := true) I4 r1 pu ps q1 fun o i => by first | exact .inl (by with_unfolding_all rfl) | exact .inr (by with_unfolding_all rfl)
end
end Ev
end

section
set_option Elab.async false
set_option linter.all false
set_option maxRecDepth 100000
set_option maxHeartbeats 4000000
/-! E6: what loops walk -/
namespace Ev
open PySem PySem.Spec PyProof.Rows L2

/-! ### enumerate of a tuple -/
set_option maxHeartbeats 8000000 in
theorem meets_enumerate_newT (l : Addr) (items : Array Value) (n : Nat) (dct : Option Addr) (sl : Array (Option Value)) :
    Meets (Builtin.«enumerate.__new__» ⟨[.type "enumerate", .ref l], []⟩) (fun _ R s => s.heap.get? l = some { cls := .type "tuple", dict := dct, data := .seq items n, slots := sl } ∧
      R (.ok (.ret (.ref (s.heap.push { cls := .type "tuple_iterator", data := .fields #[.ref l, .int 0 0] }).objs.size)))
        { s with heap := (s.heap.push { cls := .type "tuple_iterator", data := .fields #[.ref l, .int 0 0] }).push { cls := .type "enumerate", data := .fields #[.none, .bool false, .ref s.heap.objs.size, rawInt 0, .none, .none] } }) :=
  .of_wp fun prog w A R s h => by
    obtain ⟨hp, g, d, tk, os⟩ := s; obtain ⟨hl, h⟩ := h
    have hsub := sub_enumerate
    have hL : Heap.IsTuple (Shared.heap ⟨hp, g, d, tk, os⟩) l items := ⟨_, hl, rfl, n, rfl⟩
    wp_walk using wpAny_loadPart' hl
    refine wpAny_stack_any fun st => wpAny_pure ?_
    split
    · rename_i c _ _ _ _ _
      cases (c == Value.type "enumerate")
      · wp_walk using wpAny_loadPart' hl, wpAny_pyIter_tuple hL
        exact ⟨_, rfl, h⟩
      · wp_walk using wpAny_loadPart' hl, wpAny_pyIter_tuple hL
        exact ⟨_, rfl, h⟩
    · wp_walk using wpAny_loadPart' hl, wpAny_pyIter_tuple hL
      exact ⟨_, rfl, h⟩
section
variable {prog : Program} {w : World} {A : Around} {E : Value → Shared → Prop} {s : Shared}
theorem call_enumerate_tuple {l : Addr} {items : Array Value} {Q : Value → Shared → Prop} (hL : s.heap.IsTuple l items)
    (h : ∀ h', IsEnum h' (s.heap.objs.size + 1) s.heap.objs.size 0 .none → h'.IsTupleIter s.heap.objs.size l 0 → h'.objs.size = s.heap.objs.size + 2 →
      (∀ b o, s.heap.get? b = some o → h'.get? b = some o) → Q (.ref (s.heap.objs.size + 1)) { s with heap := h' }) :
    wpAny (model prog w) A (call (.type "enumerate") [.ref l]) Q E s := by
  obtain ⟨⟨c, dct, dt, sl⟩, hl, hc, n, hd⟩ := hL
  replace hc : c = .type "tuple" := hc
  replace hd : dt = .seq items n := hd
  subst hc hd
  refine callType_new F.called_enumerate (by decide) (F.typeCall_enumerate_1 _) (F.newCall_enumerate_1 _) (fun obj => F.args_object_init_2 obj _) F.entry_enumerate_new
    (meets_enumerate_newT l items n dct sl) ⟨hl, ?_⟩
  have hz : (s.heap.push { cls := .type "tuple_iterator", data := .fields #[.ref l, .int 0 0] }).objs.size = s.heap.objs.size + 1 := Heap.size_push ..
  show _ ∧ _
  rw [hz]
  have he : IsEnum ((s.heap.push { cls := .type "tuple_iterator", data := .fields #[.ref l, .int 0 0] }).push
      { cls := .type "enumerate", data := .fields #[.none, .bool false, .ref s.heap.objs.size, rawInt 0, .none, .none] }) (s.heap.objs.size + 1) s.heap.objs.size 0 .none := by
    have := Heap.get?_push_size (s.heap.push { cls := .type "tuple_iterator", data := .fields #[.ref l, .int 0 0] })
      (o := { cls := .type "enumerate", data := .fields #[.none, .bool false, .ref s.heap.objs.size, rawInt 0, .none, .none] }) rfl
    rw [hz] at this; exact this
  refine ⟨⟨_, he, rfl⟩, h _ he ⟨_, Heap.get?_push_of_some _ (Heap.get?_push_size _ rfl), rfl, rfl⟩ (by rw [Heap.size_push, hz]) fun b o x => Heap.get?_push_of_some _ (Heap.get?_push_of_some _ x)⟩
end
def IteT (K : PySem.W.Frag) (a : Addr) : It :=
  ⟨fun i H => ∃ (xs : List V) (x : V), SqT K H a xs ∧ xs[i]? = some x, fun i H v H' => ∃ T x, v = .ref T ∧ H T = none ∧ H' = upd H T (.tup [.int (i : Nat), x]) ∧ ∀ xs, SqT K H a xs → xs[i]? = some x, fun i H => ∃ xs : List V, SqT K H a xs ∧ xs.length ≤ i⟩
theorem turn_enumT {P : Program} {w : World} {K : PySem.W.Frag} {elts : List Expr} {kk : Nat} {tpos : Pos} (a e it : Addr) :
    Turn P w K (.Tuple elts kk tpos) (IteT K a) [e, it] e (fun i h => (∃ old, IsEnum h e it ((i : Nat) : Int) old) ∧ h.IsTupleIter it a i ∧ e ≠ it) where
  mem := by simp
  obj := fun i h st b hb => by
    obtain ⟨⟨old, he⟩, ⟨o, ho, hc, hd⟩, _⟩ := st
    have e' : b = e ∨ b = it := by simpa using hb
    rcases e' with z | z
    · rw [z]; exact ⟨_, he, fun v q => nomatch q⟩
    · rw [z]; exact ⟨o, ho, fun v q => by rw [hd] at q; cases q⟩
  keep := fun i h h' st k => let ⟨⟨old, he⟩, hi, hne⟩ := st; ⟨⟨old, k e (by simp) _ he⟩, hi.at fun o q => k it (by simp) o q, hne⟩
  item := by
    intro X hP hw hK hc i pins s σ H E I hf st hg
    subst hP hw hK
    obtain ⟨⟨old, he⟩, hit, hne⟩ := st
    obtain ⟨xs, x, hq, hx⟩ := hg
    obtain ⟨its, rv, p, hz⟩ := I.tuple hq
    obtain ⟨u, hu, ru⟩ := rv.get hx
    have hel : e < s.heap.objs.size := Heap.lt_size he
    have hil : it < s.heap.objs.size := by obtain ⟨_, q, _⟩ := hit; exact Heap.lt_size q
    have hp : s.heap.IsTuple a its.toArray := p
    have ne1 : a ≠ it := fun z => by
      obtain ⟨o1, e1, c1, _⟩ := hp
      obtain ⟨o2, e2, c2, _⟩ := hit
      rw [z, e2] at e1; cases e1
      rw [c2] at c1; injection c1 with c1; exact absurd c1 (by decide)
    have ne2 : e ≠ a := fun z => by
      obtain ⟨o1, e1, c1, _⟩ := hp
      rw [← z, he] at e1; cases e1
      injection c1 with c1; exact absurd c1 (by decide)
    have hlt : i < its.toArray.size := by
      have := (List.getElem?_eq_some_iff.mp hx).1
      rw [List.size_toArray, ← rv.length]; exact this
    refine wpAny_pyNext_enum_itemC (Draws.tuple (prog := X.prog) (w := X.w) (A := X.A.in1) (I.ok.hd hc) it a ne1 its.toArray) he ⟨hit, hp⟩ hlt hne (by simp [hne, ne2]) fun y h' tk hy ho hit' hT hsz hk => ?_
    have ey : y = u := by
      have hy' : its.toArray[i]? = some y := hy
      have hu' : its.toArray[i]? = some u := by simpa using hu
      rw [hy'] at hu'
      exact Option.some.inj hu'
    subst ey
    refine ⟨_, rfl, wpAny_letOwnedTupleGo_enum (s := { s with heap := h', toks := tk + 1 }) ho fun h'' he' sb => ?_⟩
    have hT2 : h''.get? s.heap.objs.size = some { cls := .type "tuple", data := .seq #[.int i tk, y] } := (sb.2 _ (Nat.ne_of_gt hel)).trans hT
    have new : ObjOk X.prog X.w (upd H s.heap.objs.size (.tup [.int (i : Nat), x])) h'' s.heap.objs.size (.tup [.int (i : Nat), x]) :=
      ⟨by show 2 ≤ sizeLine; decide, [.int i tk, y], .cons ⟨_, rfl⟩ (.cons ru .nil), ⟨_, hT2, rfl, _, rfl⟩⟩
    have I1 : Inv X pins σ (upd H s.heap.objs.size (.tup [.int (i : Nat), x])) { s with heap := h'', toks := tk + 1 } :=
      I.turnedNew (ch := [e, it]) (fun b ob hb q => (sb.2 b (fun z => hb (by simp [z]))).trans (hk b ob (fun z => hb (by simp [z])) (fun z => hb (by simp [z])) q)) hf (Nat.le_refl _) new
    refine ⟨.ref s.heap.objs.size, _, I1, rfl, ⟨_, x, rfl, I.hok.fresh (Nat.le_refl _), rfl, fun ys hy => by rw [I.tuple_inj hy hq]; exact hx⟩, ⟨⟨y, ?_⟩, hit'.1.at fun o q => (sb.2 it (Ne.symm hne)).trans q, hne⟩, fun b hb => ?_⟩
    · have e1 : ((i + 1 : Nat) : Int) = (i : Int) + 1 := by omega
      rw [e1]; exact he'
    · have hb' : b < s.heap.objs.size := by
        have e' : b = e ∨ b = it := by simpa using hb
        rcases e' with z | z
        · rw [z]; exact hel
        · rw [z]; exact hil
      rw [upd_ne (Nat.ne_of_lt hb')]
      exact (hf b hb).1
  done := by
    intro X hP hw hK hc i pins s σ H E I hf st hg
    subst hP hw hK
    obtain ⟨⟨old, he⟩, hit, hne⟩ := st
    obtain ⟨xs, hq, hx⟩ := hg
    obtain ⟨its, rv, p, hz⟩ := I.tuple hq
    obtain ⟨f0, f1, f2, f3, f4, f5⟩ := hf it (by simp)
    have hl := rv.length
    have hp : s.heap.IsTuple a its.toArray := p
    have ne1 : a ≠ it := fun z => by
      obtain ⟨o1, e1, c1, _⟩ := hp
      obtain ⟨o2, e2, c2, _⟩ := hit
      rw [z, e2] at e1; cases e1
      rw [c2] at c1; injection c1 with c1; exact absurd c1 (by decide)
    have hT : s.TypeIs (.ref e) "enumerate" := ⟨_, he, rfl⟩
    unfold pyNext
    refine wpAny_bind (wpAny_attempt (wpAny_callSpecial?_slot (name := Str.ofString "__next__") hT F.slot_enumerate_next
      (wpAny_call_entry F.slot_enumerate_next hT F.entry_enumerate_next ?_ (F.args_enumerate_next_1 _))))
    show wpAny _ _ (field (.ref e) 2 >>= _) _ _ _
    refine wpAny_bind (wpAny_field he rfl (x := .ref it) rfl ?_)
    refine wpAny_bind (wpAny_nextOf_tuple_end (A := X.A.in1) (I.ok.hd hc) hit hp (by simp; omega) fun h' x he' hx' => ?_)
    obtain ⟨o, ho, hc⟩ := hx'
    refine wpAny_bind (wpAny_isInstance (T := "StopIteration") (b := true) ⟨o, ho, hc⟩ isSubtype_stop ?_)
    exact wpAny_pure ⟨rfl, I.turned (t' := s.toks) (fun b o hb q => he' b o hb q) f0 f1 f3 f4 f5⟩
  self := fun A i s Q E st h => let ⟨⟨_, he⟩, _⟩ := st; wpAny_pyIter_enum he h
/-! ### enumerate of a text -/
def IteS (x : Str) : It :=
  ⟨fun i _ => i < x.cps.size, fun i H v H' => ∃ T c, x.cps[i]? = some c ∧ v = .ref T ∧ H T = none ∧ H' = upd H T (.tup [.int (i : Nat), .str ⟨#[c]⟩]), fun i _ => x.cps.size ≤ i⟩
theorem turn_enumS {P : Program} {w : World} {K : PySem.W.Frag} {elts : List Expr} {kk : Nat} {tpos : Pos} (x : Str) (t : Tok) (e it : Addr) :
    Turn P w K (.Tuple elts kk tpos) (IteS x) [e, it] e (fun i h => (∃ old, IsEnum h e it ((i : Nat) : Int) old) ∧ h.IsStrIter it (strIterType x) x t i ∧ e ≠ it) where
  mem := by simp
  obj := fun i h st b hb => by
    obtain ⟨⟨old, he⟩, ⟨o, ho, hc, hd⟩, _⟩ := st
    have e' : b = e ∨ b = it := by simpa using hb
    rcases e' with z | z
    · rw [z]; exact ⟨_, he, fun v q => nomatch q⟩
    · rw [z]; exact ⟨o, ho, fun v q => by rw [hd] at q; cases q⟩
  keep := fun i h h' st k => let ⟨⟨old, he⟩, ⟨o, ho, r⟩, hne⟩ := st; ⟨⟨old, k e (by simp) _ he⟩, ⟨o, k it (by simp) o ho, r⟩, hne⟩
  item := by
    intro X hP hw hK hc i pins s σ H E I hf st hg
    subst hP hw hK
    obtain ⟨⟨old, he⟩, hit, hne⟩ := st
    have hel : e < s.heap.objs.size := Heap.lt_size he
    have hil : it < s.heap.objs.size := by obtain ⟨_, q, _⟩ := hit; exact Heap.lt_size q
    refine wpAny_pyNext_enum_itemC (Draws.text (prog := X.prog) (w := X.w) (A := X.A.in1) (I.ok.hd hc) it x t) he hit hg hne (by simp [hne]) fun y h' tk hy ho hit' hT hsz hk => ?_
    obtain ⟨c, u, hcx, ey⟩ := hy
    refine ⟨_, rfl, wpAny_letOwnedTupleGo_enum (s := { s with heap := h', toks := tk + 1 }) ho fun h'' he' sb => ?_⟩
    have hT2 : h''.get? s.heap.objs.size = some { cls := .type "tuple", data := .seq #[.int i tk, y] } := (sb.2 _ (Nat.ne_of_gt hel)).trans hT
    have new : ObjOk X.prog X.w (upd H s.heap.objs.size (.tup [.int (i : Nat), .str ⟨#[c]⟩])) h'' s.heap.objs.size (.tup [.int (i : Nat), .str ⟨#[c]⟩]) :=
      ⟨by show 2 ≤ sizeLine; decide, [.int i tk, y], .cons ⟨_, rfl⟩ (.cons ⟨u, ey⟩ .nil), ⟨_, hT2, rfl, _, rfl⟩⟩
    have I1 : Inv X pins σ (upd H s.heap.objs.size (.tup [.int (i : Nat), .str ⟨#[c]⟩])) { s with heap := h'', toks := tk + 1 } :=
      I.turnedNew (ch := [e, it]) (fun b ob hb q => (sb.2 b (fun z => hb (by simp [z]))).trans (hk b ob (fun z => hb (by simp [z])) (fun z => hb (by simp [z])) q)) hf (Nat.le_refl _) new
    refine ⟨.ref s.heap.objs.size, _, I1, rfl, ⟨_, c, hcx, rfl, I.hok.fresh (Nat.le_refl _), rfl⟩, ⟨⟨y, ?_⟩, ?_, hne⟩, fun b hb => ?_⟩
    · have e1 : ((i + 1 : Nat) : Int) = (i : Int) + 1 := by omega
      rw [e1]; exact he'
    · obtain ⟨o, ho', r⟩ := hit'
      exact ⟨o, (sb.2 it (Ne.symm hne)).trans ho', r⟩
    · have hb' : b < s.heap.objs.size := by
        have e' : b = e ∨ b = it := by simpa using hb
        rcases e' with z | z
        · rw [z]; exact hel
        · rw [z]; exact hil
      rw [upd_ne (Nat.ne_of_lt hb')]
      exact (hf b hb).1
  done := by
    intro X hP hw hK hc i pins s σ H E I hf st hg
    subst hP hw hK
    obtain ⟨⟨old, he⟩, hit, hne⟩ := st
    obtain ⟨f0, f1, f2, f3, f4, f5⟩ := hf it (by simp)
    have hx : x.cps[i]? = none := Array.getElem?_eq_none hg
    have hT : s.TypeIs (.ref e) "enumerate" := ⟨_, he, rfl⟩
    unfold pyNext
    refine wpAny_bind (wpAny_attempt (wpAny_callSpecial?_slot (name := Str.ofString "__next__") hT F.slot_enumerate_next
      (wpAny_call_entry F.slot_enumerate_next hT F.entry_enumerate_next ?_ (F.args_enumerate_next_1 _))))
    show wpAny _ _ (field (.ref e) 2 >>= _) _ _ _
    refine wpAny_bind (wpAny_field he rfl (x := .ref it) rfl ?_)
    refine wpAny_bind ?_
    cases ha : x.cps.all (· < 128)
    · simp only [strIterType, ha, Bool.false_eq_true, if_false] at hit
      refine wpAny_nextOf_wide_end (A := X.A.in1) (I.ok.hd hc) hit hx fun h' x' he' hx' => ?_
      obtain ⟨o, ho, hc'⟩ := hx'
      refine wpAny_bind (wpAny_isInstance (T := "StopIteration") (b := true) ⟨o, ho, hc'⟩ isSubtype_stop ?_)
      exact wpAny_pure ⟨rfl, I.turned (t' := s.toks) (fun b o hb q => he' b o hb q) f0 f1 f3 f4 f5⟩
    · simp only [strIterType, ha, if_true] at hit
      refine wpAny_nextOf_ascii_end (A := X.A.in1) (I.ok.hd hc) hit hx fun h' x' he' hx' => ?_
      obtain ⟨o, ho, hc'⟩ := hx'
      refine wpAny_bind (wpAny_isInstance (T := "StopIteration") (b := true) ⟨o, ho, hc'⟩ isSubtype_stop ?_)
      exact wpAny_pure ⟨rfl, I.turned (t' := s.toks) (fun b o hb q => he' b o hb q) f0 f1 f3 f4 f5⟩
  self := fun A i s Q E st h => let ⟨⟨_, he⟩, _⟩ := st; wpAny_pyIter_enum he h
def iEnumT (K : PySem.W.Frag) (ta : TA) : TI := fun σ H R => ta σ H fun vs H1 => ∃ a xs, vs = [.ref a] ∧ ((Rd H1 a (.lst xs) ∧ R (Ite K a) H1) ∨ (SqT K H1 a xs ∧ R (IteT K a) H1))
def iEnumA (K : PySem.W.Frag) (ta : TA) : TI := fun σ H R => ta σ H fun vs H1 => (∃ a xs, vs = [.ref a] ∧ ((Rd H1 a (.lst xs) ∧ R (Ite K a) H1) ∨ (SqT K H1 a xs ∧ R (IteT K a) H1))) ∨ ∃ x : Str, vs = [.str x] ∧ R (IteS x) H1
theorem pi_enumT {X : Cx} {e : Expr} {ta : TA} {p pos tpos : Pos} {elts : List Expr} {kk : Nat} (hg : Gl X "enumerate") (hm : X.mg "enumerate" = none) (ha : PA X [e] ta) (hs : starEach [e] X.env = [(false, eval e X.env)]) :
    PI X (.Tuple elts kk tpos) (.Call (.Name "enumerate" p) [e] [] pos) (iEnumA X.K ta) := by
  refine ⟨fun pins s σ H R I h => ?_⟩
  refine Call_ (ld_blt I hg hm boot_enumerate (PyProof.Rows.callWith_type1 (thn (ha.run pos pins s σ H _ I h) fun us s1 ⟨vs, H1, I1, r1, q1⟩ => ?_) hs rfl))
  rcases q1 with ⟨a, xs, ex, q⟩ | ⟨x, ex, q⟩
  case inr =>
    subst ex
    cases r1 with
    | cons r rr =>
      cases rr
      obtain ⟨t, rfl⟩ := r
      have sz : ∀ (b : Addr), b ∈ [s1.heap.objs.size + 1, s1.heap.objs.size] → FpOk X pins H1 b := fun b hb => by
        have e' : b = s1.heap.objs.size + 1 ∨ b = s1.heap.objs.size := by simpa using hb
        have hle : s1.heap.objs.size ≤ b := by
          rcases e' with z | z
          · rw [z]; exact Nat.le_add_right _ _
          · rw [z]; exact Nat.le_refl _
        exact I1.fpOk hle (I1.hok.fresh hle)
      refine call_enumerate_str fun h' he hit hsz hk => wpAny_pyIter_enum he ?_
      have I2 : Inv X pins σ H1 { s1 with heap := h' } := I1.kept (t' := s1.toks) hk
      exact ⟨s1.heap.objs.size + 1, [s1.heap.objs.size + 1, s1.heap.objs.size], _, _, H1, rfl, I2, turn_enumS x t (s1.heap.objs.size + 1) s1.heap.objs.size, ⟨⟨.none, he⟩, hit, Nat.succ_ne_self _⟩, sz, q⟩
  subst ex
  cases r1 with
  | cons r rr =>
    cases rr
    cases r
    have sz : ∀ (b : Addr), b ∈ [s1.heap.objs.size + 1, s1.heap.objs.size] → FpOk X pins H1 b := fun b hb => by
      have e' : b = s1.heap.objs.size + 1 ∨ b = s1.heap.objs.size := by simpa using hb
      have hle : s1.heap.objs.size ≤ b := by
        rcases e' with z | z
        · rw [z]; exact Nat.le_add_right _ _
        · rw [z]; exact Nat.le_refl _
      exact I1.fpOk hle (I1.hok.fresh hle)
    rcases q with ⟨hq, q⟩ | ⟨hq, q⟩
    · obtain ⟨its, rv, p', hz⟩ := I1.list (.inl hq)
      refine call_enumerate_list p'.isList fun h' he hit hsz hk => wpAny_pyIter_enum he ?_
      have I2 : Inv X pins σ H1 { s1 with heap := h' } := I1.kept (t' := s1.toks) hk
      exact ⟨s1.heap.objs.size + 1, [s1.heap.objs.size + 1, s1.heap.objs.size], _, _, H1, rfl, I2, turn_enum a (s1.heap.objs.size + 1) s1.heap.objs.size, ⟨⟨.none, he⟩, hit, Nat.succ_ne_self _⟩, sz, q⟩
    · obtain ⟨its, rv, p', hz⟩ := I1.tuple hq
      refine call_enumerate_tuple p' fun h' he hit hsz hk => wpAny_pyIter_enum he ?_
      have I2 : Inv X pins σ H1 { s1 with heap := h' } := I1.kept (t' := s1.toks) hk
      exact ⟨s1.heap.objs.size + 1, [s1.heap.objs.size + 1, s1.heap.objs.size], _, _, H1, rfl, I2, turn_enumT a (s1.heap.objs.size + 1) s1.heap.objs.size, ⟨⟨.none, he⟩, hit, Nat.succ_ne_self _⟩, sz, q⟩

/-! ### iterators by data -/
def ItR (g : Gc) (F : Hp) (f : List Addr) (J : It) (w : Itm) : Prop := ∀ (R : Rs) (i : Nat) (F' : Hp) (f' : List Addr) (S' : Store) (H' : Hp), Ext F f F' f' → Sm g F' f' R S' H' → w.ck S' →
  (∀ v, w.vs[i]? = some v → J.go i H' ∧ ∀ x H'', J.yld i H' x H'' → ∃ F'', Ext F' f' F'' f' ∧ Sm g F'' f' R S' H'' ∧ VR g F'' f' x v) ∧ (w.vs.length ≤ i → J.stop i H')
theorem ItR.sub {g : Gc} {F F1 : Hp} {f f1 : List Addr} {J : It} {w : Itm} (h : ItR g F f J w) (e : Ext F f F1 f1) : ItR g F1 f1 J w := fun R i F' f' S' H' e' s c => h R i F' f' S' H' (e.trans e') s c
section
variable {g : Gc} {F : Hp} {f : List Addr}
theorem itr_list {a : Addr} {xs : List V} {ds : List PyData} (h : Rd F a (.lst xs)) (t : DaAll g.K F xs ds) : ItR g F f (Itl g.K a) ⟨ds.map .d, none⟩ := by
  intro R i F' f' S' H' e s _
  have h' : SqL g.K H' a xs := .inl (Rd.sub (fun b o q => s.le b o (e.le b o q)) h)
  refine ⟨fun v hv => ?_, fun hi => ⟨xs, h', by rw [t.len]; simpa using hi⟩⟩
  rw [List.getElem?_map] at hv
  obtain ⟨d, hd, rfl⟩ := Option.map_eq_some_iff.mp hv
  obtain ⟨y, hy, ry⟩ := t.get hd
  refine ⟨⟨xs, y, h', hy⟩, fun x H'' q => ?_⟩
  obtain ⟨rfl, q⟩ := q
  have e2 := q xs h'
  rw [hy] at e2
  cases e2
  exact ⟨F', Ext.refl _ _, s, Da.sub e.le ry⟩
theorem itr_tup {a : Addr} {xs : List V} {ds : List PyData} (h : SqT g.K F a xs) (t : DaAll g.K F xs ds) : ItR g F f (Itt g.K a) ⟨ds.map .d, none⟩ := by
  intro R i F' f' S' H' e s _
  have h' : SqT g.K H' a xs := SqT.sub (fun b o q => s.le b o (e.le b o q)) h
  refine ⟨fun v hv => ?_, fun hi => ⟨xs, h', by rw [t.len]; simpa using hi⟩⟩
  rw [List.getElem?_map] at hv
  obtain ⟨d, hd, rfl⟩ := Option.map_eq_some_iff.mp hv
  obtain ⟨y, hy, ry⟩ := t.get hd
  refine ⟨⟨xs, y, h', hy⟩, fun x H'' q => ?_⟩
  obtain ⟨rfl, q⟩ := q
  have e2 := q xs h'
  rw [hy] at e2
  cases e2
  exact ⟨F', Ext.refl _ _, s, Da.sub e.le ry⟩
theorem itr_loc {a : Addr} {n : Nat} {ds : List PyData} (h : f[n]? = some a) : ItR g F f (Itl g.K a) ⟨ds.map .d, some (n, ds)⟩ := by
  intro R i F' f' S' H' e s c
  have c' : S'[n]? = some (.lst ds) := c
  obtain ⟨a', xs, q1, q2, t⟩ := s.getL c'
  rw [e.pre n a h] at q1
  cases q1
  have h' : SqL g.K H' a xs := .inl (.inl q2)
  refine ⟨fun v hv => ?_, fun hi => ⟨xs, h', by rw [t.len]; simpa using hi⟩⟩
  rw [List.getElem?_map] at hv
  obtain ⟨d, hd, rfl⟩ := Option.map_eq_some_iff.mp hv
  obtain ⟨y, hy, ry⟩ := t.get hd
  refine ⟨⟨xs, y, h', hy⟩, fun x H'' q => ?_⟩
  obtain ⟨rfl, q⟩ := q
  have e2 := q xs h'
  rw [hy] at e2
  cases e2
  exact ⟨F', Ext.refl _ _, s, ry⟩
theorem itr_str {z : Str} : ItR g F f (Its z) ⟨z.cps.toList.map fun c => .d (.str ⟨#[c]⟩), none⟩ := by
  intro R i F' f' S' H' e s _
  refine ⟨fun v hv => ?_, fun hi => by show z.cps.size ≤ i; simpa using hi⟩
  rw [List.getElem?_map] at hv
  obtain ⟨d, hd, rfl⟩ := Option.map_eq_some_iff.mp hv
  have hd' : z.cps[i]? = some d := by simpa using hd
  refine ⟨(Array.getElem?_eq_some_iff.mp hd').1, fun x H'' q => ?_⟩
  obtain ⟨rfl, c, q1, rfl⟩ := q
  rw [hd'] at q1
  cases q1
  exact ⟨F', Ext.refl _ _, s, .str _⟩
theorem itr_rng {lo : Int} {n : Nat} : ItR g F f (Itr lo n) (rngI lo n) := by
  intro R i F' f' S' H' e s _
  refine ⟨fun v hv => ?_, fun hi => by show n ≤ i; simpa [rngI] using hi⟩
  have hv' : ((List.range n).map fun (i : Nat) => Val.d (.int (lo + (i : Int))))[i]? = some v := hv
  rw [List.getElem?_map] at hv'
  obtain ⟨d, hd, rfl⟩ := Option.map_eq_some_iff.mp hv'
  obtain ⟨h1, h2⟩ := List.getElem?_eq_some_iff.mp hd
  simp at h1 h2
  subst h2
  refine ⟨h1, fun x H'' q => ?_⟩
  obtain ⟨rfl, rfl⟩ := q
  exact ⟨F', Ext.refl _ _, s, .int _⟩
theorem itr_down {lo : Int} {n : Nat} : ItR g F f (Itc lo (-1) n) ⟨(List.range n).map fun (k : Nat) => Val.d (.int (lo - (k : Int))), none⟩ := by
  intro R i F' f' S' H' e s _
  refine ⟨fun v hv => ?_, fun hi => by show n ≤ i; simpa using hi⟩
  rw [List.getElem?_map] at hv
  obtain ⟨d, hd, rfl⟩ := Option.map_eq_some_iff.mp hv
  obtain ⟨h1, h2⟩ := List.getElem?_eq_some_iff.mp hd
  simp at h1 h2
  subst h2
  refine ⟨h1, fun x H'' q => ?_⟩
  obtain ⟨rfl, rfl⟩ := q
  refine ⟨F', Ext.refl _ _, s, ?_⟩
  have e1 : lo + (i : Int) * -1 = lo - (i : Int) := by omega
  rw [e1]
  exact .int _
/-- a new pair is handed out -/
theorem itr_pair {F' : Hp} {f' : List Addr} {R : Rs} {S' : Store} {H' : Hp} {T : Addr} {x y : V} {c d : PyData} (s : Sm g F' f' R S' H') (hT : H' T = none) (rx : Da g.K F' x c) (ry : Da g.K F' y d) :
    ∃ F'', Ext F' f' F'' f' ∧ Sm g F'' f' R S' (upd H' T (.tup [x, y])) ∧ VR g F'' f' (.ref T) (.d (.tuple [c, d])) := by
  obtain ⟨s1, e1⟩ := s.new (o := .tup [x, y]) hT
  exact ⟨_, e1, s1, .tup (.inl (.inl upd_same)) (.cons (Da.sub e1.le rx) (.one (Da.sub e1.le ry)))⟩
theorem zip_get {α β γ : Type} (φ : α × β → γ) {xs : List α} {ys : List β} {i : Nat} {v : γ} (h : ((xs.zip ys).map φ)[i]? = some v) : ∃ a b, xs[i]? = some a ∧ ys[i]? = some b ∧ v = φ (a, b) := by
  rw [List.getElem?_map] at h
  obtain ⟨⟨a, b⟩, hp, rfl⟩ := Option.map_eq_some_iff.mp h
  rw [List.getElem?_zip_eq_some] at hp
  exact ⟨a, b, hp.1, hp.2, rfl⟩
theorem itr_zipL {a b : Addr} {xs ys : List V} {ds es : List PyData} (h : Rd F a (.lst xs)) (t : DaAll g.K F xs ds) (h2 : Rd F b (.lst ys)) (t2 : DaAll g.K F ys es) :
    ItR g F f (Itz g.K a b) ⟨(ds.zip es).map fun p => .d (.tuple [p.1, p.2]), none⟩ := by
  intro R i F' f' S' H' e s _
  have h' : SqL g.K H' a xs := .inl (Rd.sub (fun b o q => s.le b o (e.le b o q)) h)
  have h2' : SqL g.K H' b ys := .inl (Rd.sub (fun b o q => s.le b o (e.le b o q)) h2)
  refine ⟨fun v hv => ?_, fun hi => ⟨xs, ys, h', h2', ?_⟩⟩
  · obtain ⟨c, d, hc, hd, rfl⟩ := zip_get (fun p => Val.d (.tuple [p.1, p.2])) hv
    obtain ⟨x1, hx1, r1⟩ := t.get hc
    obtain ⟨x2, hx2, r2⟩ := t2.get hd
    refine ⟨⟨xs, ys, x1, x2, h', h2', hx1, hx2⟩, fun x H'' q => ?_⟩
    obtain ⟨T, y1, y2, rfl, hT, rfl, q1, q2⟩ := q
    have e1 := q1 xs h'
    have e2 := q2 ys h2'
    rw [hx1] at e1; rw [hx2] at e2
    cases e1; cases e2
    exact itr_pair s hT (Da.sub e.le r1) (Da.sub e.le r2)
  · have hi' : (ds.zip es).length ≤ i := by simpa using hi
    rw [List.length_zip] at hi'
    rw [t.len, t2.len]
    omega
theorem itr_zipT {a b : Addr} {xs ys : List V} {ds es : List PyData} (h : SqT g.K F a xs) (t : DaAll g.K F xs ds) (h2 : SqT g.K F b ys) (t2 : DaAll g.K F ys es) :
    ItR g F f (RZ.ItzT g.K a b) ⟨(ds.zip es).map fun p => .d (.tuple [p.1, p.2]), none⟩ := by
  intro R i F' f' S' H' e s _
  have h' : SqT g.K H' a xs := SqT.sub (fun b o q => s.le b o (e.le b o q)) h
  have h2' : SqT g.K H' b ys := SqT.sub (fun b o q => s.le b o (e.le b o q)) h2
  refine ⟨fun v hv => ?_, fun hi => ⟨xs, ys, h', h2', ?_⟩⟩
  · obtain ⟨c, d, hc, hd, rfl⟩ := zip_get (fun p => Val.d (.tuple [p.1, p.2])) hv
    obtain ⟨x1, hx1, r1⟩ := t.get hc
    obtain ⟨x2, hx2, r2⟩ := t2.get hd
    refine ⟨⟨xs, ys, x1, x2, h', h2', hx1, hx2⟩, fun x H'' q => ?_⟩
    obtain ⟨T, y1, y2, rfl, hT, rfl, q1, q2⟩ := q
    have e1 := q1 xs h'
    have e2 := q2 ys h2'
    rw [hx1] at e1; rw [hx2] at e2
    cases e1; cases e2
    exact itr_pair s hT (Da.sub e.le r1) (Da.sub e.le r2)
  · have hi' : (ds.zip es).length ≤ i := by simpa using hi
    rw [List.length_zip] at hi'
    rw [t.len, t2.len]
    omega
theorem idx_get {ds : List PyData} {i : Nat} {v : Val} (h : ((ds.zipIdx).map fun p => Val.d (.tuple [.int (p.2 : Int), p.1]))[i]? = some v) : ∃ a, ds[i]? = some a ∧ v = .d (.tuple [.int (i : Int), a]) := by
  rw [List.getElem?_map] at h
  obtain ⟨⟨a, j⟩, hp, rfl⟩ := Option.map_eq_some_iff.mp h
  rw [List.getElem?_zipIdx] at hp
  obtain ⟨b, hb, e⟩ := Option.map_eq_some_iff.mp hp
  simp at e
  obtain ⟨rfl, rfl⟩ := e
  exact ⟨_, hb, rfl⟩
theorem itr_enumL {a : Addr} {xs : List V} {ds : List PyData} (h : Rd F a (.lst xs)) (t : DaAll g.K F xs ds) : ItR g F f (Ite g.K a) ⟨ds.zipIdx.map fun p => .d (.tuple [.int (p.2 : Int), p.1]), none⟩ := by
  intro R i F' f' S' H' e s _
  have h' : SqL g.K H' a xs := .inl (Rd.sub (fun b o q => s.le b o (e.le b o q)) h)
  refine ⟨fun v hv => ?_, fun hi => ⟨xs, h', by rw [t.len]; simpa using hi⟩⟩
  obtain ⟨c, hc, rfl⟩ := idx_get hv
  obtain ⟨x1, hx1, r1⟩ := t.get hc
  refine ⟨⟨xs, x1, h', hx1⟩, fun x H'' q => ?_⟩
  obtain ⟨T, y1, rfl, hT, rfl, q1⟩ := q
  have e1 := q1 xs h'
  rw [hx1] at e1
  cases e1
  exact itr_pair s hT (.int _) (Da.sub e.le r1)
theorem itr_enumS {z : Str} : ItR g F f (IteS z) ⟨(z.cps.toList.map fun c => PyData.str ⟨#[c]⟩).zipIdx.map fun p => .d (.tuple [.int (p.2 : Int), p.1]), none⟩ := by
  intro R i F' f' S' H' e s _
  refine ⟨fun v hv => ?_, fun hi => by show z.cps.size ≤ i; simpa using hi⟩
  obtain ⟨c, hc, rfl⟩ := idx_get hv
  rw [List.getElem?_map] at hc
  obtain ⟨d, hd, rfl⟩ := Option.map_eq_some_iff.mp hc
  have hd' : z.cps[i]? = some d := by simpa using hd
  refine ⟨(Array.getElem?_eq_some_iff.mp hd').1, fun x H'' q => ?_⟩
  obtain ⟨T, c2, q1, rfl, hT, rfl⟩ := q
  rw [hd'] at q1
  cases q1
  exact itr_pair s hT (.int _) (.str _)
theorem itr_enumT {a : Addr} {xs : List V} {ds : List PyData} (h : SqT g.K F a xs) (t : DaAll g.K F xs ds) : ItR g F f (IteT g.K a) ⟨ds.zipIdx.map fun p => .d (.tuple [.int (p.2 : Int), p.1]), none⟩ := by
  intro R i F' f' S' H' e s _
  have h' : SqT g.K H' a xs := SqT.sub (fun b o q => s.le b o (e.le b o q)) h
  refine ⟨fun v hv => ?_, fun hi => ⟨xs, h', by rw [t.len]; simpa using hi⟩⟩
  obtain ⟨c, hc, rfl⟩ := idx_get hv
  obtain ⟨x1, hx1, r1⟩ := t.get hc
  refine ⟨⟨xs, x1, h', hx1⟩, fun x H'' q => ?_⟩
  obtain ⟨T, y1, rfl, hT, rfl, q1⟩ := q
  have e1 := q1 xs h'
  rw [hx1] at e1
  cases e1
  exact itr_pair s hT (.int _) (Da.sub e.le r1)
end
end Ev
end

section
set_option Elab.async false
set_option linter.all false
set_option maxRecDepth 100000
set_option maxHeartbeats 4000000
/-! E7: calls, expressions, tests -/
namespace Ev
open PySem PySem.Spec PyProof.Rows L2

theorem _root_.L2.PE.imp {X : Cx} {e : Expr} {t u : TE} (h : L2.PE X e t) (i : ∀ σ H Q, u σ H Q → t σ H Q) : L2.PE X e u := Ev.PE.imp h i
theorem _root_.L2.PT.imp {X : Cx} {e : Expr} {t u : TT} (h : L2.PT X e t) (i : ∀ σ H Q, u σ H Q → t σ H Q) : L2.PT X e u := Ev.PT.imp h i
theorem _root_.L2.PW.imp {X : Cx} {e : Expr} {t u : TT} (h : L2.PW X e t) (i : ∀ σ H Q, u σ H Q → t σ H Q) : L2.PW X e u := Ev.PW.imp h i
theorem _root_.L2.PA.imp {X : Cx} {e : List Expr} {t u : TA} (h : L2.PA X e t) (i : ∀ σ H Q, u σ H Q → t σ H Q) : L2.PA X e u := Ev.PA.imp h i
theorem _root_.L2.PS.imp {X : Cx} {e : Stmt} {t u : TS} (h : L2.PS X e t) (i : ∀ D σ H, u D σ H → t D σ H) : L2.PS X e u := Ev.PS.imp h i
theorem _root_.L2.PSs.imp {X : Cx} {e : List Stmt} {t u : TS} (h : L2.PSs X e t) (i : ∀ D σ H, u D σ H → t D σ H) : L2.PSs X e u := Ev.PSs.imp h i

/-! ### what a def keeps, where no repr is under way -/
structure FnG (P : Program) (w : World) (K : PySem.W.Frag) (mg : Str → Option Value) (base : Heap) (k : Nat) (f : Addr) (fd : FuncData) (ps : List Str) (sp : Sp) : Prop where
  len : ∀ vs H Q E, sp vs H Q E → vs.length = ps.length
  run : ∀ (A : Around) (outer : List Env) (s : Shared) (H : Hp) (args : Args) (us : List Value) (vs : List V) (Q : VK) (E : XK), Room k A → A.guards = some [] → Env0 P w K mg base A outer s H →
    BindsTo s fd args (ps.zip us) → Vals vs us → sp vs H Q E → codeAny (model P w) A (.call (.ref f) args) (CR (L2.CX P w) outer P w H s Q E) s
theorem fnG_of {P : Program} {w : World} {K : PySem.W.Frag} {mg : Str → Option Value} {base : Heap} {k : Nat} {f : Addr} {fd : FuncData} {x qual : Str} {params : Arguments} {body : List Stmt} {scope : Scope} {dvs : List V} {kws : List (Str × V)} {N ps : List Str} {sp : Sp}
    (Fd : FunD K x qual params body scope dvs kws f fd) (S : FnScope N ps scope) (len : ∀ vs H Q E, sp vs H Q E → vs.length = ps.length)
    (hb : ∀ (cdv : Value) (A : Around) (outer : List Env) (s : Shared) (H : Hp) (vs : List V) (Q : VK) (E : XK), Room k (A.deeper (envOfC qual scope s.heap.objs.size f cdv)) → A.guards = some [] → sp vs H Q E →
      ∃ t, PSs (cxOf (L2.CX P w) P w K mg base N qual scope f cdv A outer s H E) body t ∧ t { nx := fun _ H' => Q .non H', rt := Q } (start N vs) H) : FnG P w K mg base (k + 1) f fd ps sp := by
  obtain ⟨oc, od, dV, kV, doc, pm, an, cdv, ct, osl, rfl, lk, hcd, _, _⟩ := Fd.ex
  refine ⟨len, fun A outer s H args us vs Q E hr hg e0 hbind r hsp => ?_⟩
  have hl := len _ _ _ _ hsp
  have KX : K.In s.heap := e0.mod.kin.keeps fun b o e => (e0.bs b o e).1
  have lim : s.heap.NoLimit := e0.mod.nolimit.keeps fun b o e => (e0.bs b o e).1
  have hkind : ∀ y ∈ ps.zip us, scope.names.lookup y.1 = some .local ∨ (scope.names.lookup y.1 = some .cell ∧ ((cellsFrom (s.heap.objs.size + 1) scope.names []).lookup y.1).isSome = true) := fun ⟨n, v⟩ hy => by
    rcases S.par n (List.of_mem_zip hy).1 with q | q
    · exact .inl q
    · exact .inr ⟨q, PySem.W.cellsFrom_some _ _ _ (.inl q)⟩
  refine codeAny_call_function hr.depth (KX _ _ lk) rfl S.co S.gen rfl (PySem.W.codeRec_of KX hcd) (hbind _ _ _ _ ?_)
  refine wpAny_newFunctionEnv_cells S.kind hkind fun env he s1 x => ?_
  subst he
  refine ⟨lim.keeps x.toInCall.keep, codeAny_func ?_⟩
  obtain ⟨t, ht, hq⟩ := hb cdv A outer s H vs Q E (hr.deeper _) hg hsp
  have I : Inv (cxOf (L2.CX P w) P w K mg base N qual scope f cdv A outer s H E) [] (start N vs) H s1 := inv_start S hr.hd e0 hl r x
  refine wpAny_mono (ht.run [] s1 (start N vs) H _ I hq) (fun fl s' hs => ?_) fun e s' hs => hs
  have fin : ∀ {σ' : L2.St} {H' : Hp} {v : V} {u : Value}, Inv (cxOf (L2.CX P w) P w K mg base N qual scope f cdv A outer s H E) [] σ' H' s' → RelV v u → Q v H' → L2.CE outer P w H s Q u s' :=
    fun {σ' H' v u} J rv q => ⟨v, H', J.os, J.bare, J.base, J.hok, rv, q⟩
  cases fl with
  | ret u =>
    obtain ⟨v, σ', H', J, rv, q⟩ := hs
    exact fin J rv q
  | next =>
    obtain ⟨σ', H', J, q⟩ := hs
    exact fin (v := V.non) (u := Value.none) J rfl q
  | brk =>
    obtain ⟨_, _, _, q⟩ := hs
    exact False.elim q
  | cont =>
    obtain ⟨_, _, _, q⟩ := hs
    exact False.elim q
/-- a def's promise by its meaning -/
def spD (g : Gc) (C : Calls) (k np : Nat) : Sp := fun vs H Q E => ∃ F f R S args, Sm g F f R S H ∧ VRs g F f vs args ∧ args.length = np ∧
  Sat g F f R (fun c d H' => E c d H') (C k args S) (fun v F' f' S' H' => ∀ x, VR g F' f' x v → Q x H')
theorem spD_len {g : Gc} {C : Calls} {k np : Nat} : ∀ vs H Q E, spD g C k np vs H Q E → vs.length = np := fun vs H Q E h => by
  obtain ⟨F, f, R, S, args, _, r, e, _⟩ := h
  rw [r.len, e]

/-! ### small facts -/
def nstar : Expr → Bool
  | .Starred _ _ => false
  | _ => true
theorem star_cons {e : Expr} {es : List Expr} {env : Env} (h : nstar e = true) : starEach (e :: es) env = (false, eval e env) :: starEach es env := by
  cases e <;> first | rfl | exact (Bool.false_ne_true h).elim
theorem star_any {pos : Pos} {env : Env} : ∀ {es : List Expr}, es.all nstar = true → (backTo pos (starEach es env)).any (·.1) = false
  | [], _ => rfl
  | e :: es, h => by
    rw [List.all_cons, Bool.and_eq_true] at h
    rw [star_cons h.1]
    exact star_any (es := es) h.2
theorem asg_cons {e : Expr} {es : List Expr} {env : Env} (h : nstar e = true) : assignEach (e :: es) env = (false, assign e env) :: assignEach es env := by
  cases e <;> first | rfl | exact (Bool.false_ne_true h).elim
def nslice : Expr → Bool
  | .Slice _ _ _ _ => false
  | _ => true
theorem plain_of {b : Expr} (h : nslice b = true) : PlainIx b := by
  intro o i
  cases b <;> first | rfl | exact (Bool.false_ne_true h).elim
/-- an expression whose test is its value's -/
def ntest : Expr → Bool
  | .UnaryOp .Not _ _ => false
  | .BoolOp _ _ _ => false
  | .IfExp _ _ _ _ => false
  | .Compare _ _ _ _ => false
  | _ => true
theorem test_of {a : Expr} {env : Env} (h : ntest a = true) : ∀ whole, isTrue a env whole = (do let v ← whole; standAt a.pos; holding [v] (truthy v)) := by
  intro whole
  cases a <;> first
    | rfl
    | exact (Bool.false_ne_true h).elim
    | (rename_i op _ _; cases op <;> first | rfl | exact (Bool.false_ne_true h).elim)
def nmark : Expr → Bool
  | .Set _ _ _ => false
  | _ => true
theorem mark_of {b : Expr} {op : CmpOp} (h : nmark b = true) : behindInMarks op b = false := by
  cases b <;> first | rfl | exact (Bool.false_ne_true h).elim
theorem marks_of {b c : Expr} {o1 o2 : CmpOp} (h : nmark c = true) : lastMarks [o1, o2] [b, c] = false := mark_of (op := o2) h

section
variable {g : Gc} {F : Hp} {f : List Addr} {R : Rs} {S : Store} {H : Hp}
theorem tob_of {β : Type} {v : Val} {x : V} {W : WH} {φ : Bool → Store → Out β} {k : Kn β} (h : Sat g F f R W ((tobV v S).bind φ) k) (r : VR g F f x v) : ∃ b, x = .bl b ∧ Sat g F f R W (φ b S) k := by
  unfold tobV at h
  split at h
  · cases r with
    | bl b => exact ⟨_, rfl, h⟩
  · exact h.elim
theorem tob_of' {v : Val} {x : V} {W : WH} {k : Kn Bool} (h : Sat g F f R W (tobV v S) k) (r : VR g F f x v) : ∃ b, x = .bl b ∧ Sat g F f R W (.ok b S) k := by
  unfold tobV at h
  split at h
  · cases r with
    | bl b => exact ⟨_, rfl, h⟩
  · exact h.elim
theorem isE_len {α β : Type} {xs : List α} {ys : List β} (h : xs.length = ys.length) : (!xs.isEmpty) = !ys.isEmpty := by
  cases xs <;> cases ys <;> first | rfl | simp at h
theorem tru_of {v : Val} {x : V} {W : WH} {k : Kn Bool} (s : Sm g F f R S H) (h : Sat g F f R W (truO v S) k) (r : VR g F f x v) : ∃ b, TruV g.K x H b ∧ Sat g F f R W (.ok b S) k := by
  unfold truO at h
  split at h
  · rename_i b hb
    refine ⟨b, ?_, h⟩
    unfold truV at hb
    split at hb
    · cases r; cases hb; rfl
    · cases r; cases hb; rfl
    · cases r; cases hb; rfl
    · cases r
      split at hb
      · rename_i hz; cases hb; exact ⟨hz, rfl⟩
      · cases hb
    · cases r with
      | lst h1 h2 => cases hb; exact .inl ⟨_, .inl (Rd.sub s.le h1), (isE_len h2.len).symm⟩
    · cases r with
      | tup h1 h2 => cases hb; exact .inr (.inl ⟨_, SqT.sub s.le h1, (isE_len h2.len).symm⟩)
    · obtain ⟨a, h1, rfl⟩ := r
      split at hb
      · rename_i xs hS
        cases hb
        obtain ⟨a', ys, q1, q2, q3⟩ := s.getL hS
        rw [h1] at q1; cases q1
        exact .inl ⟨ys, .inl (.inl q2), (isE_len q3.len).symm⟩
      · cases hb
    · cases hb
  · exact h.elim
theorem datas_da : ∀ {vs : List Val} {xs : List V} {ds : List PyData}, VRs g F f xs vs → datas vs = some ds → DaAll g.K F xs ds
  | [], _, _, r, e => by cases r; cases e; exact .nil
  | .d x :: vs, _, _, r, e => by
    cases r with
    | cons r1 r2 =>
      unfold datas at e
      cases q : datas vs with
      | none => rw [q] at e; cases e
      | some l => rw [q] at e; cases e; exact .cons r1 (datas_da r2 q)
  | .loc n :: vs, _, _, r, e => by cases e
  | .fn n :: vs, _, _, r, e => by cases e
  | .tp n :: vs, _, _, r, e => by cases e
  | .ls n :: vs, _, _, r, e => by cases e
theorem els_rs : ∀ {vs : List Val} {xs : List V} {es : List El}, VRs g F f xs vs → elsOf vs = some es → ElRs g F f xs es
  | [], _, _, r, e => by cases r; cases e; exact .nil
  | .d x :: vs, _, _, r, e => by
    cases r with
    | cons r1 r2 =>
      unfold elsOf at e
      cases q : elsOf vs with
      | none => rw [q] at e; cases e
      | some l => rw [q] at e; cases e; exact .cons (v := .d x) r1 (els_rs r2 q)
  | .loc n :: vs, _, _, r, e => by
    cases r with
    | cons r1 r2 =>
      unfold elsOf at e
      cases q : elsOf vs with
      | none => rw [q] at e; cases e
      | some l => rw [q] at e; cases e; exact .cons (v := .loc n) r1 (els_rs r2 q)
  | .fn n :: vs, _, _, r, e => by cases e
  | .tp n :: vs, _, _, r, e => by cases e
  | .ls n :: vs, _, _, r, e => by cases e
end

/-! ### expressions -/
section
variable {X : Cx} {g : Gc} {W : WX} {a b c : Expr} {ta tb tc : TD Val} {pos : Pos}
theorem pd_var {i : Nat} {x : Str} (hN : X.N[i]? = some x) (hv : Vis X.env.scope x) (hd : (x == ("__debug__" : Str)) = false) (hcd : (x == ("__classdict__" : Str)) = false) : PE X (.Name x pos) (rd g W (dVar i)) :=
  (pe_var hN hv hd hcd).imp fun σ H Q ⟨F, f, R, ρ, S, s, e, h⟩ => by
    unfold dVar at h
    split at h
    · rename_i v q
      obtain ⟨y, q1, r⟩ := e.get i v q
      exact ⟨y, q1, h.ok s y r⟩
    · exact h.elim
theorem pd_cst {e : Expr} {d : PyData} {v : V} (h : PE X e (tC v)) (r : ∀ F, Da g.K F v d) : PE X e (rd g W (dCst d)) := h.imp fun σ H Q ⟨F, f, R, ρ, S, s, e, q⟩ => q.ok s v (r F)
theorem pd_fnv {e : Expr} {k : Nat} (h : PE X e (tC (.ref (g.ad k)))) : PE X e (rd g W fun _ S => .ok (.fn k) S) := h.imp fun σ H Q ⟨F, f, R, ρ, S, s, e, q⟩ => q.ok s (.ref (g.ad k)) rfl
theorem tOp_rd {r : R2} {φ : Val → Val → Store → Out Val} (hr : RealB g r φ) {σ : L2.St} {H : Hp} {Q : VK} (h : rd g W (dB2 φ ta tb) σ H Q) : tOp r (rd g W ta) (rd g W tb) σ H Q := by
  obtain ⟨F, f, R, ρ, S, s, e, h⟩ := h
  exact rd_bind s e h fun v F1 f1 S1 H1 x e1 s1 en1 r1 h1 => rd_bind s1 en1 h1 fun u F2 f2 S2 H2 y e2 s2 en2 r2 h2 => hr F2 f2 R S2 H2 x y v u _ Q s2 (r1.sub e2) r2 h2
theorem pd_bin {op : Operator} {r : R2} {φ : Val → Val → Store → Out Val} (ho : OpR X (binaryOp op) r) (hr : RealB g r φ) (ha : PE X a (rd g W ta)) (hb : PE X b (rd g W tb)) : PE X (.BinOp a op b pos) (rd g W (dB2 φ ta tb)) :=
  (pe_op ho ha hb).imp fun σ H Q h => tOp_rd hr h
theorem pd_cmp {op : CmpOp} {r : R2} {φ : Val → Val → Store → Out Val} (ho : OpR X (compareOp op) r) (hr : RealB g r φ) (ha : PE X a (rd g W ta)) (hb : PE X b (rd g W tb)) (hm : nmark b = true) : PE X (.Compare a [op] [b] pos) (rd g W (dB2 φ ta tb)) :=
  (pe_cmpR ho ha hb (mark_of hm)).imp fun σ H Q h => tOp_rd hr h
theorem pt_cmpD {op : CmpOp} {r : R2} {φ : Val → Val → Store → Out Val} (ho : OpR X (compareOp op) r) (hr : RealB g r φ) (ha : PE X a (rd g W ta)) (hb : PE X b (rd g W tb)) (hm : nmark b = true) :
    PT X (.Compare a [op] [b] pos) (rdT g W fun ρ S => (dB2 φ ta tb ρ S).bind tobV) :=
  (pt_cmpR ho ha hb (mark_of hm)).imp fun σ H Q ⟨F, f, R, ρ, S, s, e, h⟩ => tOp_rd hr (Q := fun x H' => ∃ k, x = .bl k ∧ Q k H') (rd_bind s e h fun v F1 f1 S1 H1 x e1 s1 en1 r1 h1 => by
    obtain ⟨k, ex, h2⟩ := tob_of' h1 r1
    exact ⟨k, ex, h2.ok s1 k rfl⟩)
def chnD (φ ψ : Val → Val → Store → Out Val) (ta tb tc : TD Val) : TD Val := fun ρ S => (ta ρ S).bind fun v S1 => (tb ρ S1).bind fun u S2 => (φ v u S2).bind fun k S3 => (tobV k S3).bind fun kb S4 => if kb = true then (tc ρ S4).bind fun z S5 => ψ u z S5 else .ok (.d (.bool false)) S4
theorem chn_rd {r r' : R2} {φ ψ : Val → Val → Store → Out Val} (hr : RealB g r φ) (hr' : RealB g r' ψ) {σ : L2.St} {H : Hp} {Q : VK} (h : rd g W (chnD φ ψ ta tb tc) σ H Q) : tChain r r' (rd g W ta) (rd g W tb) (rd g W tc) σ H Q := by
  obtain ⟨F, f, R, ρ, S, s, e, h⟩ := h
  refine rd_bind s e h fun v F1 f1 S1 H1 x e1 s1 en1 r1 h1 => rd_bind s1 en1 h1 fun u F2 f2 S2 H2 y e2 s2 en2 r2 h2 => ?_
  refine hr F2 f2 R S2 H2 x y v u _ _ s2 (r1.sub e2) r2 (h2.bind.imp fun k F3 f3 S3 H3 e3 s3 _ h3 z rz => ?_)
  obtain ⟨kb, ez, h4⟩ := tob_of h3 rz
  refine ⟨kb, ez, ?_⟩
  by_cases hk : kb = true
  · rw [if_pos hk] at h4 ⊢
    exact rd_bind s3 (en2.sub e3) h4 fun w F5 f5 S5 H5 z' e5 s5 en5 r5 h5 => hr' F5 f5 R S5 H5 y z' u w _ Q s5 ((r2.sub e3).sub e5) r5 h5
  · rw [if_neg hk] at h4 ⊢
    exact h4.ok s3 (.bl false) (.bl false)
theorem pd_chn {o1 o2 : CmpOp} {r r' : R2} {φ ψ : Val → Val → Store → Out Val} (ho : OpR X (compareOp o1) r) (ho' : OpR X (compareOp o2) r') (hr : RealB g r φ) (hr' : RealB g r' ψ) (ha : PE X a (rd g W ta)) (hb : PE X b (rd g W tb)) (hc : PE X c (rd g W tc))
    (hm : nmark c = true) : PE X (.Compare a [o1, o2] [b, c] pos) (rd g W (chnD φ ψ ta tb tc)) := (pe_chain ho ho' ha hb hc (marks_of hm)).imp fun σ H Q h => chn_rd hr hr' h
def chnT (φ ψ : Val → Val → Store → Out Val) (ta tb tc : TD Val) : TD Bool := fun ρ S => (ta ρ S).bind fun v S1 => (tb ρ S1).bind fun u S2 => (φ v u S2).bind fun k S3 => (tobV k S3).bind fun kb S4 => if kb = true then (tc ρ S4).bind fun z S5 => (ψ u z S5).bind tobV else .ok false S4
theorem pt_chnD {o1 o2 : CmpOp} {r r' : R2} {φ ψ : Val → Val → Store → Out Val} (ho : OpR X (compareOp o1) r) (ho' : OpR X (compareOp o2) r') (hr : RealB g r φ) (hr' : RealB g r' ψ) (ha : PE X a (rd g W ta)) (hb : PE X b (rd g W tb)) (hc : PE X c (rd g W tc))
    (hm : nmark c = true) : PT X (.Compare a [o1, o2] [b, c] pos) (rdT g W (chnT φ ψ ta tb tc)) := (pt_chain ho ho' ha hb hc (marks_of hm)).imp fun σ H Q ⟨F, f, R, ρ, S, s, e, h⟩ => by
  refine rd_bind s e h fun v F1 f1 S1 H1 x e1 s1 en1 r1 h1 => rd_bind s1 en1 h1 fun u F2 f2 S2 H2 y e2 s2 en2 r2 h2 => ?_
  refine hr F2 f2 R S2 H2 x y v u _ _ s2 (r1.sub e2) r2 (h2.bind.imp fun k F3 f3 S3 H3 e3 s3 _ h3 z rz => ?_)
  obtain ⟨kb, ez, h4⟩ := tob_of h3 rz
  refine ⟨kb, ez, ?_⟩
  by_cases hk : kb = true
  · rw [if_pos hk] at h4 ⊢
    refine rd_bind s3 (en2.sub e3) h4 fun w F5 f5 S5 H5 z' e5 s5 en5 r5 h5 => hr' F5 f5 R S5 H5 y z' u w _ _ s5 ((r2.sub e3).sub e5) r5 (h5.bind.imp fun k' F6 f6 S6 H6 e6 s6 _ h6 z6 rz6 => ?_)
    obtain ⟨k2, ex, h7⟩ := tob_of' h6 rz6
    exact ⟨k2, ex, h7.ok s6 k2 rfl⟩
  · rw [if_neg hk] at h4 ⊢
    exact ⟨false, rfl, h4.ok s3 false rfl⟩
/-! ### and, or, not, if -/
variable {rest : List Expr} {ua ub : TD Bool}
def andD (ta tb : TD Val) : TD Val := fun ρ S => (ta ρ S).bind fun v S1 => (tobV v S1).bind fun k S2 => if k = true then tb ρ S2 else .ok (.d (.bool false)) S2
def orD (ta tb : TD Val) : TD Val := fun ρ S => (ta ρ S).bind fun v S1 => (tobV v S1).bind fun k S2 => if k = true then .ok (.d (.bool true)) S2 else tb ρ S2
def notD (ta : TD Val) : TD Val := fun ρ S => (ta ρ S).bind fun v S1 => (tobV v S1).bind fun b S2 => .ok (.d (.bool !b)) S2
theorem pd_and (ha : PE X a (rd g W ta)) (hb : PE X (.BoolOp .And (b :: rest) pos) (rd g W tb)) : PE X (.BoolOp .And (a :: b :: rest) pos) (rd g W (andD ta tb)) := (pe_and ha hb).imp fun σ H Q ⟨F, f, R, ρ, S, s, e, h⟩ => by
  refine rd_bind s e h fun v F1 f1 S1 H1 x e1 s1 en1 r1 h1 => ?_
  obtain ⟨k, ex, h2⟩ := tob_of h1 r1
  refine ⟨k, ex, ?_⟩
  by_cases hk : k = true
  · rw [if_pos hk] at h2 ⊢
    exact ⟨F1, f1, R, ρ, S1, s1, en1, h2⟩
  · rw [if_neg hk] at h2 ⊢
    exact h2.ok s1 _ (.bl false)
theorem pd_or (ha : PE X a (rd g W ta)) (hb : PE X (.BoolOp .Or (b :: rest) pos) (rd g W tb)) : PE X (.BoolOp .Or (a :: b :: rest) pos) (rd g W (orD ta tb)) := (pe_or ha hb).imp fun σ H Q ⟨F, f, R, ρ, S, s, e, h⟩ => by
  refine rd_bind s e h fun v F1 f1 S1 H1 x e1 s1 en1 r1 h1 => ?_
  obtain ⟨k, ex, h2⟩ := tob_of h1 r1
  refine ⟨k, ex, ?_⟩
  by_cases hk : k = true
  · rw [if_pos hk] at h2 ⊢
    exact h2.ok s1 _ (.bl true)
  · rw [if_neg hk] at h2 ⊢
    exact ⟨F1, f1, R, ρ, S1, s1, en1, h2⟩
theorem pd_not (ha : PE X a (rd g W ta)) : PE X (.UnaryOp .Not a pos) (rd g W (notD ta)) := (pe_not ha).imp fun σ H Q ⟨F, f, R, ρ, S, s, e, h⟩ => by
  refine rd_bind s e h fun v F1 f1 S1 H1 x e1 s1 en1 r1 h1 => ?_
  obtain ⟨k, ex, h2⟩ := tob_of h1 r1
  exact ⟨k, ex, h2.ok s1 _ (.bl _)⟩
theorem pd_ife {c : Expr} {tc : TD Bool} (hc : PT X c (rdT g W tc)) (ha : PE X a (rd g W ta)) (hb : PE X b (rd g W tb)) : PE X (.IfExp c a b pos) (rd g W (dIf tc ta tb)) := (pe_ifExp hc ha hb).imp fun σ H Q ⟨F, f, R, ρ, S, s, e, h⟩ => by
  refine rd_bind s e h fun k F1 f1 S1 H1 x e1 s1 en1 r1 h1 => ?_
  subst r1
  by_cases hk : x = true
  · rw [if_pos hk] at h1 ⊢
    exact ⟨F1, f1, R, ρ, S1, s1, en1, h1⟩
  · rw [if_neg hk] at h1 ⊢
    exact ⟨F1, f1, R, ρ, S1, s1, en1, h1⟩
def andT (ta tb : TD Bool) : TD Bool := fun ρ S => (ta ρ S).bind fun k S1 => if k = true then tb ρ S1 else .ok false S1
def orT (ta tb : TD Bool) : TD Bool := fun ρ S => (ta ρ S).bind fun k S1 => if k = true then .ok true S1 else tb ρ S1
def notT (ta : TD Bool) : TD Bool := fun ρ S => (ta ρ S).bind fun b S1 => .ok (!b) S1
theorem pt_and (ha : PT X a (rdT g W ua)) (hb : PW X (.BoolOp .And (b :: rest) pos) (rdT g W ub)) : PW X (.BoolOp .And (a :: b :: rest) pos) (rdT g W (andT ua ub)) := (pw_and ha hb).imp fun σ H Q ⟨F, f, R, ρ, S, s, e, h⟩ => by
  refine rd_bind s e h fun k F1 f1 S1 H1 x e1 s1 en1 r1 h1 => ?_
  subst r1
  by_cases hk : x = true
  · rw [if_pos hk] at h1 ⊢
    exact ⟨F1, f1, R, ρ, S1, s1, en1, h1⟩
  · rw [if_neg hk] at h1 ⊢
    exact h1.ok s1 false rfl
theorem pt_or (ha : PT X a (rdT g W ua)) (hb : PW X (.BoolOp .Or (b :: rest) pos) (rdT g W ub)) : PW X (.BoolOp .Or (a :: b :: rest) pos) (rdT g W (orT ua ub)) := (pw_or ha hb).imp fun σ H Q ⟨F, f, R, ρ, S, s, e, h⟩ => by
  refine rd_bind s e h fun k F1 f1 S1 H1 x e1 s1 en1 r1 h1 => ?_
  subst r1
  by_cases hk : x = true
  · rw [if_pos hk] at h1 ⊢
    exact h1.ok s1 true rfl
  · rw [if_neg hk] at h1 ⊢
    exact ⟨F1, f1, R, ρ, S1, s1, en1, h1⟩
theorem pt_notD (ha : PT X a (rdT g W ua)) : PT X (.UnaryOp .Not a pos) (rdT g W (notT ua)) := (pt_not ha).imp fun σ H Q ⟨F, f, R, ρ, S, s, e, h⟩ =>
  rd_bind s e h fun k F1 f1 S1 H1 x e1 s1 en1 r1 h1 => by
    subst r1
    exact h1.ok s1 _ rfl
/-- a value's truth -/
theorem pt_tru (hK : g.K = X.K) (ha : PE X a (rd g W ta)) (h : ntest a = true) : PT X a (rdT g W fun ρ S => (ta ρ S).bind truO) := (pt_truth ha (test_of h)).imp fun σ H Q ⟨F, f, R, ρ, S, s, e, h⟩ =>
  rd_bind s e h fun v F1 f1 S1 H1 x e1 s1 en1 r1 h1 => by
    obtain ⟨b, h2, h3⟩ := tru_of s1 h1 r1
    exact ⟨b, hK ▸ h2, h3.ok s1 b rfl⟩
/-! ### argument lists, displays -/
variable {es : List Expr} {t : TD (List Val)}
def consD (ta : TD Val) (t : TD (List Val)) : TD (List Val) := fun ρ S => (ta ρ S).bind fun v S1 => (t ρ S1).bind fun vs S2 => .ok (v :: vs) S2
theorem pd_nil : PA X [] (rdA g W fun _ S => .ok [] S) := pa_nil.imp fun σ H Q ⟨F, f, R, ρ, S, s, e, h⟩ => h.ok s [] .nil
theorem pd_cons (ha : PE X a (rd g W ta)) (hr : PA X es (rdA g W t)) (hs : nstar a = true) : PA X (a :: es) (rdA g W (consD ta t)) := (pa_cons ha hr (star_cons hs)).imp fun σ H Q ⟨F, f, R, ρ, S, s, e, h⟩ =>
  rd_bind s e h fun v F1 f1 S1 H1 x e1 s1 en1 r1 h1 => rd_bind s1 en1 h1 fun vs F2 f2 S2 H2 xs e2 s2 en2 r2 h2 => h2.ok s2 _ (.cons (r1.sub e2) r2)
theorem pd_tup {k : Nat} (h : PA X es (rdA g W t)) : PE X (.Tuple es k pos) (rd g W (dN tupV t)) := (pe_tup h).imp fun σ H Q ⟨F, f, R, ρ, S, s, e, h⟩ =>
  rd_bind s e h fun vs F1 f1 S1 H1 xs e1 s1 en1 r1 h1 => by
    unfold tupV at h1
    split at h1
    · rename_i ds hd
      obtain ⟨hz, h2⟩ := okIf_pos h1
      have t := datas_da r1 hd
      exact ⟨by rw [t.len]; exact hz, fun p hp => sat_tup h2 s1 t hp⟩
    · split at h1
      · rename_i es he
        split at h1
        · rename_i hz
          have t := els_rs r1 he
          refine ⟨by rw [t.len]; exact hz, fun p hp => ?_⟩
          obtain ⟨s2, x2⟩ := s1.new (o := .tup xs) hp
          exact h1 _ _ _ x2 s2 (.ref p) ⟨p, xs, rfl, .inl (.inl upd_same), t.sub x2⟩
        · exact h1.elim
      · exact h1.elim
theorem pd_lst {m : Bool} (h : PA X es (rdA g W t)) : PE X (.List es pos) (rd g W (dN (lstV m) t)) := (pe_lst h).imp fun σ H Q ⟨F, f, R, ρ, S, s, e, h⟩ =>
  rd_bind s e h fun vs F1 f1 S1 H1 xs e1 s1 en1 r1 h1 => by
    unfold lstV at h1
    split at h1
    · rename_i ds hd
      have t := datas_da r1 hd
      split at h1
      · rename_i hz
        refine ⟨by rw [t.len]; exact hz, fun p hp => ?_⟩
        split at h1
        · exact sat_lstM h1 s1 t hp
        · exact sat_lst h1 s1 t hp
      · exact h1.elim
    · split at h1
      · rename_i es he
        split at h1
        · rename_i hz
          have t := els_rs r1 he
          refine ⟨by rw [t.len]; exact hz.1, fun p hp => ?_⟩
          obtain ⟨s2, x2⟩ := s1.new (o := .lst xs) hp
          exact h1 _ _ _ x2 s2 (.ref p) ⟨p, xs, rfl, .inl upd_same, t.sub x2⟩
        · exact h1.elim
      · exact h1.elim
/-! ### subscripts, slices -/
theorem pd_idx (hK : g.K = X.K) (ha : PE X a (rd g W ta)) (hb : PE X b (rd g W tb)) (hs : nslice b = true) : PE X (.Subscript a b pos) (rd g W (dB2 idxV ta tb)) := (pe_ix ix_seq ha hb (plain_of hs)).imp fun σ H Q h => by
  have hr : RealB g (rIx X.K) idxV := hK ▸ real_idx
  exact tOp_rd hr h
theorem pd_none : PO X none (rdO g W fun _ S => .ok none S) := by
  refine ⟨fun pins s σ H Q I ⟨F, f, R, ρ, S, sm, e, h⟩ => ?_⟩
  exact po_none.run pins s σ H Q I (h.ok sm none rfl)
theorem pd_some (ha : PE X a (rd g W ta)) : PO X (some a) (rdO g W fun ρ S => (ta ρ S).bind prtV) := by
  refine ⟨fun pins s σ H Q I ⟨F, f, R, ρ, S, sm, e, h⟩ => ?_⟩
  refine (po_some ha).run pins s σ H Q I (rd_bind sm e h fun v F1 f1 S1 H1 x e1 s1 en1 r1 h1 => ?_)
  unfold prtV at h1
  split at h1
  · cases r1 with
    | int i => exact ⟨_, rfl, h1.ok s1 _ rfl⟩
  · exact h1.elim
theorem pd_sli {lo hi : Option Expr} {tl th : TD (Option Int)} {p2 : Pos} (hK : g.K = X.K) (ha : PE X a (rd g W ta)) (hl : PO X lo (rdO g W tl)) (hh : PO X hi (rdO g W th)) :
    PE X (.Subscript a (.Slice lo hi none p2) pos) (rd g W fun ρ S => (ta ρ S).bind fun v S1 => (tl ρ S1).bind fun l S2 => (th ρ S2).bind fun u S3 => sliV v l u S3) :=
  (pe_slice sl_V ha hl hh).imp fun σ H Q ⟨F, f, R, ρ, S, s, e, h⟩ => by
    refine rd_bind s e h fun v F1 f1 S1 H1 x e1 s1 en1 r1 h1 => rd_bind s1 en1 h1 fun l F2 f2 S2 H2 l' e2 s2 en2 r2 h2 => rd_bind s2 en2 h2 fun u F3 f3 S3 H3 u' e3 s3 en3 r3 h3 => ?_
    subst r2 r3
    have q := real_sli s3 ((r1.sub e2).sub e3) h3
    rw [hK] at q
    exact q
theorem pd_rev {k : Nat} {p1 p2 p3 : Pos} (hK : g.K = X.K) (ha : PE X a (rd g W ta)) : PE X (.Subscript a (.Slice none none (some (.UnaryOp .USub (.Constant (.int 1) k p1) p2)) p3) pos) (rd g W (dU (revV false) ta)) :=
  (pe_rev ha).imp fun σ H Q ⟨F, f, R, ρ, S, s, e, h⟩ => rd_bind s e h fun v F1 f1 S1 H1 x e1 s1 en1 r1 h1 => by
    have q := real_rev s1 r1 h1
    rw [hK] at q
    exact q
theorem pd_rev0 {k k0 : Nat} {p1 p2 p3 p4 : Pos} (hK : g.K = X.K) (ha : PE X a (rd g W ta)) :
    PE X (.Subscript a (.Slice none (some (.Constant (.int 0) k0 p4)) (some (.UnaryOp .USub (.Constant (.int 1) k p1) p2)) p3) pos) (rd g W (dU (revV true) ta)) :=
  (pe_rev0 ha).imp fun σ H Q ⟨F, f, R, ρ, S, s, e, h⟩ => rd_bind s e h fun v F1 f1 S1 H1 x e1 s1 en1 r1 h1 => by
    have q := real_rev s1 r1 h1
    rw [hK] at q
    exact q
/-! ### calls -/
variable {x : Str} {p : Pos} {T id : String} {r : List V → Hp → VK → Prop} {φ : List Val → Store → Out Val}
theorem pd_bi (hc : CallR X (.builtin id) r) (hr : RealN g r φ) (hg : Gl X x) (hm : X.mg x = none) (hv : bootBuiltins x = some (.builtin id)) (ha : PA X (a :: es) (rdA g W t)) (hn : x ≠ "__name__") (hdb : (x == ("__debug__" : Str)) = false) (hs : (a :: es).all nstar = true) :
    PE X (.Call (.Name x p) (a :: es) [] pos) (rd g W (dN φ t)) := by
  rw [List.all_cons, Bool.and_eq_true] at hs
  exact (pe_callB hc hg hm hv ha hn hdb (star_cons hs.1) (star_any hs.2)).imp fun σ H Q ⟨F, f, R, ρ, S, s, e, h⟩ =>
    rd_bind s e h fun vs F1 f1 S1 H1 xs e1 s1 en1 r1 h1 => hr F1 f1 R S1 H1 xs vs _ Q s1 r1 h1
theorem pd_ty (hc : CallR X (.type T) r) (hr : RealN g r φ) (hg : Gl X x) (hm : X.mg x = none) (hv : bootBuiltins x = some (.type T)) (ha : PA X (a :: es) (rdA g W t)) (hn : x ≠ "__name__") (hdb : (x == ("__debug__" : Str)) = false) (hs : (a :: es).all nstar = true) :
    PE X (.Call (.Name x p) (a :: es) [] pos) (rd g W (dN φ t)) := by
  rw [List.all_cons, Bool.and_eq_true] at hs
  exact (pe_callTy hc hg hm hv ha hn hdb (star_cons hs.1) (star_any hs.2)).imp fun σ H Q ⟨F, f, R, ρ, S, s, e, h⟩ =>
    rd_bind s e h fun vs F1 f1 S1 H1 xs e1 s1 en1 r1 h1 => hr F1 f1 R S1 H1 xs vs _ Q s1 r1 h1
/-- isinstance(a, T) -/
theorem pd_isi {ty : Ty} {p2 : Pos} {y : Str} (hK : g.K = X.K) (hg : Gl X x) (hm : X.mg x = none) (hv : bootBuiltins x = some (.builtin "isinstance")) (hn : x ≠ "__name__") (hdb : (x == ("__debug__" : Str)) = false)
    (hg2 : Gl X y) (hm2 : X.mg y = none) (hv2 : bootBuiltins y = some (.type ty.name)) (hn2 : y ≠ "__name__") (hdb2 : (y == ("__debug__" : Str)) = false) (ha : PE X a (rd g W ta)) (hs : nstar a = true) :
    PE X (.Call (.Name x p) [a, .Name y p2] [] pos) (rd g W (dU (isiV ty) ta)) :=
  (pe_callB call_isi hg hm hv (pa_cons ha (pa_cons (pe_bltn hg2 hm2 hv2 (v := .ty ty.name) rfl hn2 hdb2) pa_nil) (star_cons hs)) hn hdb (star_cons hs) (by rfl)).imp fun σ H Q ⟨F, f, R, ρ, S, s, e, h⟩ =>
    rd_bind s e h fun v F1 f1 S1 H1 x e1 s1 en1 r1 h1 => by
      obtain ⟨tv, b, q1, q2, q3⟩ := real_isi s1 r1 h1
      rw [hK] at q1 q2
      exact ⟨x, .ty ty.name, tv, _, b, rfl, .ty _, q1, q2, q3⟩
/-- a.append(b) -/
theorem pd_app {apos : Pos} (hK : g.K = X.K) (ha : PE X a (rd g W ta)) (hb : PA X [b] (rdA g W t)) (hbase : attributeBase a "append" X.env (eval a X.env) = eval a X.env) (hs : nstar b = true) (hline : (apos.endLine == pos.line) = true) :
    PE X (.Call (.Attribute a "append" apos) [b] [] pos) (rd g W fun ρ S => (ta ρ S).bind fun u S0 => (recV u S0).bind fun v S1 => (t ρ S1).bind fun vs S2 => meV .append v vs S2) := by
  refine (pe_bm PySem.F.plainAttrs_list PySem.F.slot_list_append PySem.F.type_list_append mt_append ha hb hbase ?_ hline (star_cons hs) rfl).imp fun σ H Q ⟨F, f, R, ρ, S, s, e, h⟩ => ?_
  · rw [star_cons hs]; rfl
  · refine rd_bind s e h fun v F1 f1 S1 H1 x e1 s1 en1 r1 h1 => ?_
    unfold recV at h1
    split at h1
    · split at h1
      · rename_i ds hS
        obtain ⟨a', ys, q1, q2, q3⟩ := s1.getL hS
        refine ⟨?_, ?_⟩
        · obtain ⟨a2, z1, rfl⟩ := r1
          rw [q1] at z1; cases z1
          exact .inl ⟨rfl, ys, .inl (.inl q2)⟩
        · refine rd_bind s1 en1 h1 fun vs F2 f2 S2 H2 xs e2 s2 en2 r2 h2 => ?_
          exact (real_append s2 (r1.sub e2) r2 h2).1
      · exact h1.elim
    · exact h1.elim
/-- f(..), f a def -/
theorem run_fnG {k : Nat} {fa : Addr} {fd : FuncData} {ps : List Str} {sp : Sp} {E : L2.St → XK} {pins : List (Addr × Obj)} {σ : L2.St} {H : Hp} {s : Shared} {Q : VK} {us : List Value} {vs : List V} (Fn : FnG X.prog X.w X.K X.mg X.base k fa fd ps sp)
    (hr : Room k X.A) (hgd : X.A.guards = some []) (hb : Binds X.K fd ps []) (hx : PassesAt (L2.CX X.prog X.w) X σ (E σ))
    (I : Inv X pins σ H s) (r : Vals vs us) (h : sp vs H Q (E σ)) : wpAny (model X.prog X.w) X.A (call (.ref fa) us) (EP X pins σ Q) X.xe s := by
  have hl : us.length = ps.length := by rw [← r.length]; exact Fn.len _ _ _ _ h
  have b := hb s us I.kIn (by rw [List.append_nil]; exact hl)
  rw [List.append_nil] at b
  refine wpAny_call (codeAny_mono (Fn.run X.A X.stack s H ⟨us, []⟩ us vs Q (E σ) hr hgd I.env0 b r h) fun r s' hq => ?_)
  cases r with
  | error e => exact hx pins H s e s' I hq
  | ok fl =>
    cases fl with
    | ret u => exact I.after hq
    | next => exact False.elim hq
    | brk => exact False.elim hq
    | cont => exact False.elim hq
theorem pd_call {C : Calls} {k n : Nat} {fa : Addr} {fd : FuncData} {ps : List Str} (Fn : FnG X.prog X.w X.K X.mg X.base n fa fd ps (spD g C k ps.length)) (hr : Room n X.A) (hgd : X.A.guards = some []) (hg : Gl X x) (hm : X.mg x = some (.ref fa))
    (hk : PySem.W.keepIn X.K (.ref fa) = true) (hb : Binds X.K fd ps []) (tk : Takes X W) (ha : PA X (a :: es) (rdA g W t)) (hlen : ∀ ρ S vs S', t ρ S = .ok vs S' → vs.length = ps.length) (hdb : (x == ("__debug__" : Str)) = false) (hs : (a :: es).all nstar = true) :
    PE X (.Call (.Name x p) (a :: es) [] pos) (rd g W (dCall C k t)) := by
  rw [List.all_cons, Bool.and_eq_true] at hs
  refine ⟨fun pins s σ H Q I ⟨F, f, R, ρ, S, sm, e, h⟩ => ?_⟩
  refine wpAny_Call_Name_kw (ld_glob I hg hm ?_ hdb)
  have h2 : rdA g W t σ H fun vs H1 => spD g C k ps.length vs H1 Q (WE W σ) := ⟨F, f, R, ρ, S, sm, e, h.bind.imp fun vs F1 f1 S1 H1 e1 s1 ht q xs rx => ⟨F1, f1, R, S1, vs, s1, rx, hlen _ _ _ _ ht, q⟩⟩
  refine PySem.W.callWith_K (h₀ := X.base) I.ok.mod.kin hk (thn (ha.run pos pins s σ H _ I h2) fun us s1 ⟨vs, H1, I1, r, q⟩ => ⟨I1.kIn, ?_⟩) (star_cons hs.1) (star_any hs.2)
  exact run_fnG (E := WE W) Fn hr hgd hb (passAt tk σ) I1 r q
theorem pd_call0 {C : Calls} {k n : Nat} {fa : Addr} {fd : FuncData} {ps : List Str} (Fn : FnG X.prog X.w X.K X.mg X.base n fa fd ps (spD g C k ps.length)) (hr : Room n X.A) (hgd : X.A.guards = some []) (hg : Gl X x) (hm : X.mg x = some (.ref fa))
    (hk : PySem.W.keepIn X.K (.ref fa) = true) (hb : Binds X.K fd ps []) (tk : Takes X W) (hlen : ps.length = 0) (hdb : (x == ("__debug__" : Str)) = false) :
    PE X (.Call (.Name x p) [] [] pos) (rd g W (dCall C k fun _ S => .ok [] S)) := by
  refine ⟨fun pins s σ H Q I ⟨F, f, R, ρ, S, sm, e, h⟩ => ?_⟩
  refine wpAny_Call_Name_kw (ld_glob I hg hm ?_ hdb)
  exact PySem.W.callWith_K0 I.kIn hk (run_fnG (E := WE W) (us := []) Fn hr hgd hb (passAt tk σ) I .nil ⟨F, f, R, S, [], sm, .nil, hlen.symm, h⟩)
/-- len(set(a)), a of texts -/
theorem strs_da {K : PySem.W.Frag} {F : Hp} : ∀ {ds : List PyData} {xs : List V} {ss : List Str}, DaAll K F xs ds → strsOf ds = some ss → xs = ss.map V.str
  | [], _, _, t, e => by cases t; cases e; rfl
  | .str x :: ds, _, _, t, e => by
    cases t with
    | cons h t =>
      unfold strsOf at e
      cases q : strsOf ds with
      | none => rw [q] at e; cases e
      | some l =>
        rw [q] at e
        cases e
        cases h
        rw [strs_da t q]
        rfl
  | .none :: _, _, _, _, e => by cases e
  | .bool _ :: _, _, _, _, e => by cases e
  | .int _ :: _, _, _, _, e => by cases e
  | .list _ :: _, _, _, _, e => by cases e
  | .tuple _ :: _, _, _, _, e => by cases e
  | .dict _ :: _, _, _, _, e => by cases e
theorem pd_lenSet {y : Str} {p2 q : Pos} (hK : g.K = X.K) (hc : X.calm = true) (hg : Gl X x) (hm : X.mg x = none) (hv : bootBuiltins x = some (.builtin "len")) (hn : x ≠ "__name__") (hdb : (x == ("__debug__" : Str)) = false)
    (hg2 : Gl X y) (hm2 : X.mg y = none) (hv2 : bootBuiltins y = some (.type "set")) (hn2 : y ≠ "__name__") (hdb2 : (y == ("__debug__" : Str)) = false) (ha : PA X [a] (rdA g W t)) (hs : nstar a = true) :
    PE X (.Call (.Name x p) [.Call (.Name y p2) [a] [] q] [] pos) (rd g W (dN (biV .lenSet) t)) := by
  refine ⟨fun pins s σ H Q I ⟨F, f, R, ρ, S, sm, e, h⟩ => ?_⟩
  have h2 : rdA g W t σ H fun vs H1 => ∃ (l : Addr) (ss : List Str), vs = [.ref l] ∧ (SqL X.K H1 l (ss.map V.str) ∨ SqT X.K H1 l (ss.map V.str)) ∧ ss.length < 4000 ∧ Q (.int ((onceS ss).length : Nat)) H1 :=
    rd_bind sm e h fun vs F1 f1 S1 H1 xs e1 s1 en1 r1 h1 => by
      unfold biV at h1
      split at h1 <;> first | (rename_i z; cases z; done) | skip
      · obtain ⟨x, rfl, r⟩ := vrs1 r1
        split at h1
        · rename_i e3
          obtain ⟨ds, e1, e2⟩ := Option.bind_eq_some_iff.mp e3
          obtain ⟨a, ys, rfl, q, t⟩ := seq_of s1 r e1
          obtain ⟨hz, h1⟩ := okIf_pos h1
          have q2 := strs_da t e2
          subst q2
          refine ⟨_, _, rfl, ?_, hz, sat_d h1 s1 (.int _)⟩
          rw [← hK]
          exact q.imp .inl (·.1)
        · exact h1.elim
      all_goals exact h1.elim
  refine Call_ (ld_blt I hg hm hv ?_ hn hdb)
  refine PyProof.Rows.callWith_builtin1 (PyProof.Rows.args_cons ?_ rfl) rfl rfl
  refine Call_ (ld_blt I hg2 hm2 hv2 ?_ hn2 hdb2)
  refine PyProof.Rows.callWith_type1 (thn (ha.run q pins s σ H _ I h2) fun us s1 ⟨vs, H1, I1, r1, l, ss, ev, hq, hz, q1⟩ => ?_) (star_cons hs) rfl
  subst ev
  cases r1 with
  | cons r rr =>
    cases rr
    cases r
    have fin : ∀ (h' : Heap) (tk : Nat), SetS X.prog X.w h' s1.heap.objs.size (onceS ss) → (∀ b o, b < s1.heap.objs.size → s1.heap.get? b = some o → h'.get? b = some o) →
        wpAny (model X.prog X.w) X.A (spliced (backTo pos (starEach [] X.env))) (fun vs s₂ => wpAny (model X.prog X.w) X.A (call (.builtin "len") (Value.ref s1.heap.objs.size :: vs)) (EP X pins σ Q) X.xe s₂) X.xe { s1 with heap := h', toks := tk } := fun h' tk hS hk => by
      refine PyProof.Rows.args_nil ?_
      obtain ⟨o, es, ep, t, ho, hex, hd, _, _, _, hf, hn⟩ := hS
      have I2 : Inv X pins σ H1 { s1 with heap := h', toks := tk } := I1.kept fun b o e => hk b o (Heap.lt_size e) e
      have hfew : (onceS ss).length ≤ ss.length := by have := once_len ss []; simpa [onceS] using this
      exact call_len_set ho hex hd hf (by rw [hn]; omega) ⟨.int ((onceS ss).length : Nat), H1, I2.tok _, ⟨_, by rw [hn]⟩, q1⟩
    rcases hq with hq | hq
    · obtain ⟨its, r, ⟨o, n, ho, hc1, hd1, hdt⟩, hz2⟩ := I1.list hq
      obtain ⟨oc, od, dt, sl⟩ := o
      simp only at hc1 hd1 hdt
      subst hc1 hdt
      exact call_set_texts (I1.ok.hd hc) ho goes_list PySem.F.sub_list_set PySem.F.sub_list_frozenset (by decide) (by simpa using L2.strsAre_of r) hz fin
    · obtain ⟨its, r, ⟨o, ho, hc1, n, hdt⟩, hz2⟩ := I1.tuple hq
      obtain ⟨oc, od, dt, sl⟩ := o
      simp only at hc1 hdt
      subst hc1 hdt
      exact call_set_texts (I1.ok.hd hc) ho goes_tuple PySem.F.sub_tuple_set PySem.F.sub_tuple_frozenset (by decide) (by simpa using L2.strsAre_of r) hz fin
end
end Ev
end

section
set_option Elab.async false
set_option linter.all false
set_option maxRecDepth 100000
set_option maxHeartbeats 4000000
/-! E7b: isinstance of some kinds, extend, methods of texts, f-strings -/
namespace Ev
open PySem PySem.Spec PyProof.Rows L2

/-! ### isinstance with a tuple of kinds -/
theorem isTys_some {S : Store} {v : Val} : ∀ {ts : List Ty} {b : Bool}, isTys S v ts = some b → ∀ t ∈ ts, ∃ c, isTy S v t = some c
  | [], _, _, _, h => by cases h
  | t :: ts, b, e, u, hu => by
    unfold isTys at e
    split at e
    · rename_i a b' h1 h2
      rcases List.mem_cons.mp hu with rfl | hu
      · exact ⟨_, h1⟩
      · exact isTys_some h2 u hu
    · cases e
theorem ty_of {g : Gc} {F : Hp} {f : List Addr} {R : Rs} {S : Store} {H : Hp} {x : V} {v : Val} (s : Sm g F f R S H) (r : VR g F f x v) (h : isTy S v .int ≠ none) :
    ∃ ty : Value, TyX g.K H x ty ∧ ∀ t b, isTy S v t = some b → PySem.W.kitOne g.K ty (.type t.name) = some b := by
  have fin : ∀ (a t : Ty) (b : Bool), b = (a == t || (a == .bool && t == .int)) → PySem.W.kitOne g.K (.type a.name) (.type t.name) = some b := fun a t b e => e ▸ kit_ty (kit_all a t)
  cases v with
  | fn k => exact absurd rfl h
  | tp k => exact absurd rfl h
  | ls k => exact absurd rfl h
  | loc n =>
    cases hS : S[n]? with
    | none => simp [isTy, hS] at h
    | some ob =>
      cases ob with
      | lst ds =>
        obtain ⟨a, h1, rfl⟩ := r
        obtain ⟨a', zs, q1, q2, q3⟩ := s.getL hS
        rw [h1] at q1; cases q1
        refine ⟨.type "list", .base (.lst q2), fun t b e => fin .list t b ?_⟩
        simp only [isTy, hS] at e
        cases e
        cases t <;> rfl
  | d y =>
    cases y with
    | none => cases r; exact ⟨.type "NoneType", .base .non, fun t b e => by cases e; exact kit_ty (kit_none t)⟩
    | bool c =>
      cases r
      refine ⟨.type "bool", .base (.bl _), fun t b e => fin .bool t b ?_⟩
      cases e
      cases t <;> rfl
    | int c =>
      cases r
      refine ⟨.type "int", .base (.int _), fun t b e => fin .int t b ?_⟩
      cases e
      cases t <;> rfl
    | str c =>
      cases r
      refine ⟨.type "str", .base (.str _), fun t b e => fin .str t b ?_⟩
      cases e
      cases t <;> rfl
    | tuple c =>
      cases r with
      | tup h1 t1 =>
        refine ⟨.type "tuple", tyx_tuple (SqT.sub s.le h1), fun t b e => fin .tuple t b ?_⟩
        cases e
        cases t <;> rfl
    | list c =>
      cases r with
      | lst h1 t1 =>
        refine ⟨.type "list", tyx_list (Rd.sub s.le h1), fun t b e => fin .list t b ?_⟩
        cases e
        cases t <;> rfl
    | dict c =>
      cases r with
      | dct h1 =>
        refine ⟨.type "dict", .base (.dK (s.le _ _ h1)), fun t b e => fin .dict t b ?_⟩
        cases e
        cases t <;> rfl
theorem kit_tys {K : PySem.W.Frag} {ty : Value} {S : Store} {v : Val} (h : ∀ t b, isTy S v t = some b → PySem.W.kitOne K ty (.type t.name) = some b) : ∀ {ts : List Ty} {b : Bool}, isTys S v ts = some b →
    PySem.W.kitAny K ty (ts.map fun t => Value.type t.name) = some b
  | [], b, e => by cases e; exact kitAny_nil
  | t :: ts, b, e => by
    unfold isTys at e
    split at e
    · rename_i a c h1 h2
      cases e
      refine kitAny_cons (h t a h1) (fun z => ?_) fun z => by rw [z]; rfl
      rw [z]
      exact kit_tys h h2
    · cases e
theorem cls_tys : ∀ ts : List Ty, Paired ClsV (ts.map fun t => V.ty t.name) (ts.map fun t => Value.type t.name)
  | [] => .nil
  | t :: ts => .cons (.ty _) (cls_tys ts)
section
variable {X : Cx} {g : Gc} {W : WX} {a b o : Expr} {es : List Expr} {ta to : TD Val} {t : TD (List Val)} {pos p tpos : Pos} {x : Str}
/-- the names of kinds -/
def tysB (f : Str → String → Bool) : List Ty → List Expr → Bool
  | [], es => es.isEmpty
  | t :: ts, es => match es with
    | .Name y _ :: es => f y t.name && tysB f ts es
    | _ => false
theorem pa_tys {f : Str → String → Bool} (hf : ∀ y n, f y n = true → Gl X y ∧ X.mg y = none ∧ bootBuiltins y = some (.type n) ∧ y ≠ "__name__" ∧ (y == ("__debug__" : Str)) = false) : ∀ {ts : List Ty} {es : List Expr}, tysB f ts es = true →
    PA X es (fun σ H Q => Q (ts.map fun t => V.ty t.name) H)
  | [], es, h => by
    cases es with
    | nil => exact pa_nil.imp fun σ H Q q => q
    | cons _ _ => cases h
  | t :: ts, es, h => by
    unfold tysB at h
    split at h
    · rw [Bool.and_eq_true] at h
      obtain ⟨h1, h2, h3, h4, h5⟩ := hf _ _ h.1
      exact (pa_cons (pe_bltn h1 h2 h3 (v := .ty t.name) rfl h4 h5) (pa_tys hf h.2)).imp fun σ H Q q => q
    · cases h
theorem pd_isi2 {f : Str → String → Bool} {ts : List Ty} {ys : List Expr} {k : Nat} (hK : g.K = X.K) (hg : Gl X x) (hm : X.mg x = none) (hv : bootBuiltins x = some (.builtin "isinstance")) (hn : x ≠ "__name__") (hdb : (x == ("__debug__" : Str)) = false)
    (hf : ∀ y n, f y n = true → Gl X y ∧ X.mg y = none ∧ bootBuiltins y = some (.type n) ∧ y ≠ "__name__" ∧ (y == ("__debug__" : Str)) = false) (hts : tysB f ts ys = true) (hl : ts.length ≤ 9) (ht : ts ≠ []) (ha : PE X a (rd g W ta)) (hs : nstar a = true) :
    PE X (.Call (.Name x p) [a, .Tuple ys k tpos] [] pos) (rd g W (dU (isiV2 ts) ta)) :=
  (pe_callB call_isiT hg hm hv (pa_cons ha (pa_cons (pe_tup (pa_tys hf hts)) pa_nil) (star_cons hs)) hn hdb (star_cons hs) (by rfl)).imp fun σ H Q ⟨F, fa, R, ρ, S, s, e, h⟩ =>
    rd_bind s e h fun v F1 f1 S1 H1 x e1 s1 en1 r1 h1 => by
      unfold isiV2 at h1
      split at h1
      · rename_i b hb
        have hz : (ts.map fun t => V.ty t.name).length ≤ sizeLine := by rw [List.length_map, sizeLine_eq]; omega
        refine ⟨hz, fun q hq => ?_⟩
        have ne : isTy S1 v .int ≠ none := by
          cases ts with
          | nil => exact absurd rfl ht
          | cons t0 _ =>
            obtain ⟨c, hc⟩ := isTys_some hb t0 List.mem_cons_self
            intro z
            revert hc z
            unfold isTy
            repeat' split
            all_goals simp
        obtain ⟨s2, x2⟩ := s1.new (o := .tup (ts.map fun t => V.ty t.name)) hq
        obtain ⟨tv, q1, q2⟩ := ty_of s2 (r1.sub x2) ne
        rw [hK] at q1 q2
        exact ⟨x, q, _, tv, _, b, rfl, upd_same, cls_tys ts, q1, kit_tys q2 hb, h1 _ _ _ x2 s2 (.bl b) (.bl b)⟩
      · exact h1.elim
/-! ### a.extend(b) -/
def rExtR : V → List V → Hp → VK → Prop := fun x vs H Q => ∃ l c us ws, x = .ref l ∧ vs = [.ref c] ∧ H l = some (.lst us) ∧ Rd H c (.lst ws) ∧ us.length + ws.length ≤ sizeLine ∧ Q .non (upd H l (.lst (us ++ ws)))
theorem mt_extR : MtM X "list.extend" rExtR := by
  rintro pins s σ H _ _ v us Q I rx rv ⟨l, c, u1, w1, rfl, rfl, hl, hc, hz, q⟩
  cases rx
  obtain ⟨u, rfl, ru⟩ := rv.one
  cases ru
  obtain ⟨_, ls, n, r1, len1, at1⟩ := I.lstM hl
  obtain ⟨_, ms, m, r2, at2⟩ := hc.ok I.hok
  have len2 := r2.length
  have small : ls.toArray.size + ms.toArray.size ≤ sizeLine := by
    rw [List.size_toArray, List.size_toArray]; omega
  have long : ¬ (!ls.toArray.isEmpty && Builtin.List.listTooLong (ls.toArray.size + ms.toArray.size)) = true := by
    rw [notLongL small, Bool.and_false]; decide
  refine call_meets F.slot_list_extend ⟨_, at1, rfl⟩ F.entry_list_extend (F.args_list_extend_2 _ _) (AutoSeq1.list_extend_list_list_0 l ls.toArray n c ms.toArray m long ?_ ?_) ⟨at1, at2, ?_⟩
  · rw [List.size_toArray]; omega
  · omega
  · exact ⟨.non, _, I.lset (its' := ls ++ ms) hl at1 (by simp) (r1.append r2) (by rw [List.length_append]; omega), rfl, q⟩
theorem real_extend {F : Hp} {f : List Addr} {R : Rs} {S : Store} {H : Hp} {x : V} {v : Val} {xs : List V} {vs : List Val} {W : WH} {Q : VK} (s : Sm g F f R S H) (r : VR g F f x v) (rs : VRs g F f xs vs)
    (h : Sat g F f R W (meV .extend v vs S) (fun w F' f' S' H' => ∀ z, VR g F' f' z w → Q z H')) : rExtR x xs H Q := by
  unfold meV at h
  split at h
  · rename_i z; cases z
  · split at h
    · rename_i hS hv
      split at h
      · rename_i c
        obtain ⟨a, h1, rfl⟩ := r
        obtain ⟨y, rfl, ry⟩ := vrs1 rs
        obtain ⟨a', zs, q1, q2, q3⟩ := s.getL hS
        rw [h1] at q1; cases q1
        obtain ⟨b, ws, rfl, w1, w2⟩ := lst_of s ry hv
        refine ⟨_, _, _, ws, rfl, rfl, q2, w1, by rw [q3.len, w2.len]; exact c, ?_⟩
        have w2' : DaAll g.K F ws _ := w2
        have s1 := s.put (o := .lst (zs ++ ws)) (ob := .lst (_ ++ _)) h1 ⟨_, rfl, q3.append w2'⟩
        exact h F f _ (Ext.refl _ _) s1 .non .non
      · exact h.elim
    · exact h.elim
  · exact h.elim
theorem pd_ext {apos : Pos} (hK : g.K = X.K) (ha : PE X a (rd g W ta)) (hb : PA X [b] (rdA g W t)) (hbase : attributeBase a "extend" X.env (eval a X.env) = eval a X.env) (hs : nstar b = true) (hline : (apos.endLine == pos.line) = true) :
    PE X (.Call (.Attribute a "extend" apos) [b] [] pos) (rd g W fun ρ S => (ta ρ S).bind fun u S0 => (recV u S0).bind fun v S1 => (t ρ S1).bind fun vs S2 => meV .extend v vs S2) := by
  refine (pe_bm PySem.F.plainAttrs_list PySem.F.slot_list_extend PySem.F.type_list_extend mt_extR ha hb hbase ?_ hline (star_cons hs) rfl).imp fun σ H Q ⟨F, f, R, ρ, S, s, e, h⟩ => ?_
  · rw [star_cons hs]; rfl
  · refine rd_bind s e h fun v F1 f1 S1 H1 x e1 s1 en1 r1 h1 => ?_
    unfold recV at h1
    split at h1
    · split at h1
      · rename_i ds hS
        obtain ⟨a', ys, q1, q2, q3⟩ := s1.getL hS
        refine ⟨?_, ?_⟩
        · obtain ⟨a2, z1, rfl⟩ := r1
          rw [q1] at z1; cases z1
          exact .inl ⟨rfl, ys, .inl (.inl q2)⟩
        · refine rd_bind s1 en1 h1 fun vs F2 f2 S2 H2 xs e2 s2 en2 r2 h2 => ?_
          exact real_extend s2 (r1.sub e2) r2 h2
      · exact h1.elim
    · exact h1.elim
/-! ### methods of texts -/
def RealM (g : Gc) (r : V → List V → Hp → VK → Prop) (φ : Str → List Val → Store → Out Val) : Prop := ∀ (F : Hp) (f : List Addr) (R : Rs) (S : Store) (H : Hp) (x : Str) (xs : List V) (vs : List Val) (W : WH) (Q : VK), Sm g F f R S H → VRs g F f xs vs →
  Sat g F f R W (φ x vs S) (fun w F' f' S' H' => ∀ z, VR g F' f' z w → Q z H') → r (.str x) xs H Q
theorem da_strs {K : PySem.W.Frag} {F : Hp} : ∀ ys : List Str, DaAll K F (ys.map V.str) (ys.map PyData.str)
  | [] => .nil
  | y :: ys => .cons (.str y) (da_strs ys)
def SM.id : SM → String
  | .join => "str.join" | .split => "str.split" | .splitN => "str.split" | .find => "str.find" | .findN => "str.find" | .index => "str.index"
def SM.nm : SM → Str
  | .join => "join" | .split => "split" | .splitN => "split" | .find => "find" | .findN => "find" | .index => "index"
theorem sm_real (hK : g.K = X.K) (m : SM) : ∃ r, Slot "str" m.nm m.id ∧ typeOf (.builtin m.id) = pure (.type "method_descriptor") ∧ MtR X m.id r ∧ RealM g r (smV m) := by
  cases m with
  | join =>
    refine ⟨_, PySem.F.slot_str_join, PySem.F.type_str_join, mt_join, ?_⟩
    intro F f R S H x xs vs W Q s rs h
    unfold smV at h
    split at h <;> first | (rename_i z; cases z; done) | skip
    · obtain ⟨y, rfl, r⟩ := vrs1 rs
      split at h
      · rename_i e3
        obtain ⟨ds, e1, e2⟩ := Option.bind_eq_some_iff.mp e3
        obtain ⟨a, ys, rfl, q, t⟩ := seq_of s r e1
        obtain ⟨c, h⟩ := okIf_pos h
        have q2 := strs_da t e2
        subst q2
        refine ⟨_, _, _, rfl, rfl, ?_, c, sat_d h s (.str _)⟩
        rw [← hK]
        exact q.imp .inl (·.1)
      · exact h.elim
    all_goals exact h.elim
  | split =>
    refine ⟨_, PySem.F.slot_str_split, PySem.F.type_str_split, mt_split, ?_⟩
    intro F f R S H x xs vs W Q s rs h
    unfold smV at h
    split at h <;> first | (rename_i z; cases z; done) | skip
    · obtain ⟨y, rfl, r⟩ := vrs1 rs
      obtain ⟨c, h⟩ := okIf_pos h
      cases r
      exact ⟨_, _, rfl, rfl, c.1, c.2, fun p hp => sat_lst h s (da_strs _) hp⟩
    all_goals exact h.elim
  | splitN =>
    refine ⟨_, PySem.F.slot_str_split, PySem.F.type_str_split, mt_splitMax, ?_⟩
    intro F f R S H x xs vs W Q s rs h
    unfold smV at h
    split at h <;> first | (rename_i z; cases z; done) | skip
    · obtain ⟨y, z, rfl, r, r2⟩ := vrs2 rs
      obtain ⟨c, h⟩ := okIf_pos h
      cases r; cases r2
      exact ⟨_, _, _, rfl, rfl, c.1, c.2.1, c.2.2.1, c.2.2.2, fun p hp => sat_lst h s (da_strs _) hp⟩
    all_goals exact h.elim
  | find =>
    refine ⟨_, PySem.F.slot_str_find, PySem.F.type_str_find, mt_find, ?_⟩
    intro F f R S H x xs vs W Q s rs h
    unfold smV at h
    split at h <;> first | (rename_i z; cases z; done) | skip
    · obtain ⟨y, rfl, r⟩ := vrs1 rs
      cases r
      exact ⟨_, _, rfl, rfl, sat_d h s (.int _)⟩
    all_goals exact h.elim
  | findN =>
    refine ⟨_, PySem.F.slot_str_find, PySem.F.type_str_find, mt_find3, ?_⟩
    intro F f R S H x xs vs W Q s rs h
    unfold smV at h
    split at h <;> first | (rename_i z; cases z; done) | skip
    · obtain ⟨y, z, rfl, r, r2⟩ := vrs2 rs
      cases r; cases r2
      exact ⟨_, _, _, rfl, rfl, sat_d h s (.int _)⟩
    all_goals exact h.elim
  | index =>
    refine ⟨_, PySem.F.slot_str_index, PySem.F.type_str_index, mt_sindex, ?_⟩
    intro F f R S H x xs vs W Q s rs h
    unfold smV at h
    split at h <;> first | (rename_i z; cases z; done) | skip
    · obtain ⟨y, rfl, r⟩ := vrs1 rs
      split at h
      · rename_i e
        cases r
        exact ⟨_, _, _, _, rfl, rfl, e, sat_d h s (.int _)⟩
      · exact h.elim
    all_goals exact h.elim
theorem few_of {e : Expr} {es : List Expr} {env : Env} {cpos : Pos} (h : (e :: es).all nstar = true) (hl : es.length ≤ 3) : ((backTo cpos (starEach (e :: es) env)).all (fun x => !x.1) && (backToKw cpos (keywordEach [] env)).all (fun x => x.1.isSome)
      && decide ((e :: es).length + ([] : List Keyword).length + (if ([] : List Keyword).isEmpty then 0 else 1) < 30)) = true := by
  rw [List.all_cons, Bool.and_eq_true] at h
  have h2 : (backTo cpos (starEach es env)).any (·.1) = false := star_any h.2
  have h3 : (backTo cpos (starEach (e :: es) env)).all (fun x => !x.1) = true := by
    rw [star_cons h.1, List.all_eq_not_any_not]
    have e1 : (backTo cpos ((false, eval e env) :: starEach es env)).any (fun x => !!x.1) = false := by
      have e2 : (backTo cpos ((false, eval e env) :: starEach es env)).any (fun x => !!x.1) = (backTo cpos (starEach es env)).any (fun x => !!x.1) := by
        first | rfl | simp [backTo]
      rw [e2]
      simpa using h2
    rw [e1]; rfl
  rw [h3]
  simp [keywordEach, backToKw]
  omega
theorem pd_sme {apos : Pos} {m : SM} (hK : g.K = X.K) (ha : PE X a (rd g W ta)) (hb : PA X (b :: es) (rdA g W t)) (hbase : attributeBase a m.nm X.env (eval a X.env) = eval a X.env) (hs : (b :: es).all nstar = true) (hl : es.length ≤ 3) (hline : (apos.endLine == pos.line) = true) :
    PE X (.Call (.Attribute a m.nm apos) (b :: es) [] pos) (rd g W fun ρ S => (ta ρ S).bind fun v S1 => (strO v S1).bind fun x S2 => (t ρ S2).bind fun vs S3 => smV m x vs S3) := by
  obtain ⟨r, q1, q2, q3, q4⟩ := sm_real (X := X) hK m
  have hs2 := hs
  rw [List.all_cons, Bool.and_eq_true] at hs2
  refine (pe_bm PySem.F.plainAttrs_str q1 q2 q3 ha hb hbase (few_of hs hl) hline (star_cons hs2.1) (star_any hs2.2)).imp fun σ H Q ⟨F, f, R, ρ, S, s, e, h⟩ => ?_
  refine rd_bind s e h fun v F1 f1 S1 H1 x e1 s1 en1 r1 h1 => ?_
  unfold strO at h1
  split at h1
  · cases r1
    refine ⟨?_, ?_⟩
    · first | exact ⟨_, rfl⟩ | exact rfl | trivial
    · exact rd_bind s1 en1 h1 fun vs F2 f2 S2 H2 xs e2 s2 en2 r2 h2 => q4 F2 f2 R S2 H2 _ xs vs _ Q s2 r2 h2
  · exact h1.elim
/-! ### f-strings -/
theorem fs_rd {ta : TD Val} {k : Str → TD Val} {σ : L2.St} {H : Hp} {Q : VK} {acc : Str} {F : Hp} {f : List Addr} {R : Rs} {ρ : EnvD} {S : Store} {P : Str → Hp → Prop} (hk : ∀ acc H1, rd g W (k acc) σ H1 Q → P acc H1) (s : Sm g F f R S H) (e : En g F f ρ σ)
    (h : Sat g F f R (fun C d H' => W C d σ H') ((ta ρ S).bind fun v S1 => (fmtO v S1).bind fun y S2 => if (acc ++ y).length ≤ sizeLine then k (acc ++ y) ρ S2 else .stuck) (fun w F' f' S' H' => ∀ z, VR g F' f' z w → Q z H')) :
    tFmt (rd g W ta) σ H fun x H1 => ∃ y : Str, x = .str y ∧ (acc ++ y).length ≤ sizeLine ∧ P (acc ++ y) H1 := by
  refine rd_bind s e h fun v F1 f1 S1 H1 x e1 s1 en1 r1 h1 => ?_
  have fin : ∀ (y : Str), Sat g F1 f1 R (fun C d H' => W C d σ H') (if (acc ++ y).length ≤ sizeLine then k (acc ++ y) ρ S1 else .stuck) (fun w F' f' S' H' => ∀ z, VR g F' f' z w → Q z H') →
      ∃ y' : Str, V.str y = .str y' ∧ (acc ++ y').length ≤ sizeLine ∧ P (acc ++ y') H1 := fun y h2 => by
    split at h2
    · rename_i hz
      exact ⟨y, rfl, hz, hk _ _ ⟨F1, f1, R, ρ, S1, s1, en1, h2⟩⟩
    · exact h2.elim
  unfold fmtO at h1
  split at h1
  · cases r1
    split at h1
    · rename_i hz
      exact .inl ⟨_, rfl, hz, fin _ h1⟩
    · exact h1.elim
  · cases r1
    split at h1
    · rename_i hz
      exact .inr ⟨_, rfl, hz, fin _ h1⟩
    · exact h1.elim
  · exact h1.elim
/-- a text that stands in an f-string is a field of itself -/
theorem fs_cst {ta : TD Val} {k : Str → TD Val} {σ : L2.St} {H : Hp} {Q : VK} {acc : Str} {z : Str} {F : Hp} {f : List Addr} {R : Rs} {ρ : EnvD} {S : Store} {P : Str → Hp → Prop} (hk : ∀ acc H1, rd g W (k acc) σ H1 Q → P acc H1) (s : Sm g F f R S H) (e : En g F f ρ σ)
    (h : Sat g F f R (fun C d H' => W C d σ H') ((dCst (.str z) ρ S).bind fun v S1 => (fmtO v S1).bind fun y S2 => if (acc ++ y).length ≤ sizeLine then k (acc ++ y) ρ S2 else .stuck) (fun w F' f' S' H' => ∀ z, VR g F' f' z w → Q z H')) :
    rd g W (dCst (.str z)) σ H fun x H1 => ∃ y : Str, x = .str y ∧ (acc ++ y).length ≤ sizeLine ∧ P (acc ++ y) H1 := by
  have h' : Sat g F f R (fun C d H' => W C d σ H') ((if z.length ≤ sizeLine then (Out.ok z S : Out Str) else .stuck).bind fun y S2 => if (acc ++ y).length ≤ sizeLine then k (acc ++ y) ρ S2 else .stuck) (fun w F' f' S' H' => ∀ z, VR g F' f' z w → Q z H') := h
  by_cases hz0 : z.length ≤ sizeLine
  · rw [if_pos hz0] at h'
    have h2 : Sat g F f R (fun C d H' => W C d σ H') (if (acc ++ z).length ≤ sizeLine then k (acc ++ z) ρ S else .stuck) (fun w F' f' S' H' => ∀ z, VR g F' f' z w → Q z H') := h'
    by_cases hz : (acc ++ z).length ≤ sizeLine
    · rw [if_pos hz] at h2
      refine ⟨F, f, R, ρ, S, s, e, fun F1 f1 H1 e1 s1 x r1 => ?_⟩
      cases r1
      exact ⟨z, rfl, hz, hk _ _ ⟨F1, f1, R, ρ, S, s1, e.sub e1, Sat.step h2 e1⟩⟩
    · rw [if_neg hz] at h2; exact h2.elim
  · rw [if_neg hz0] at h'; exact h'.elim
end
end Ev
end

section
set_option Elab.async false
set_option linter.all false
set_option maxRecDepth 100000
set_option maxHeartbeats 4000000
/-! E7c: sorted(set(t)) -/
namespace Ev
open PySem PySem.Spec PyProof.Rows L2

theorem insU_mem {x k : Int} : ∀ {l : List Int}, k ∈ insU x l ↔ k = x ∨ k ∈ l
  | [] => by simp [insU]
  | y :: r => by
    unfold insU
    split
    · simp
    · split
      · rename_i h; subst h; simp
      · simp only [List.mem_cons, insU_mem (l := r)]
        constructor
        · rintro (h | h | h) <;> simp [h]
        · rintro (h | h | h) <;> simp [h]
theorem insU_up {x : Int} : ∀ {l : List Int}, l.Pairwise (· < ·) → (insU x l).Pairwise (· < ·)
  | [], _ => by simp [insU]
  | y :: r, h => by
    obtain ⟨h1, h2⟩ := List.pairwise_cons.mp h
    unfold insU
    split
    · rename_i e
      refine List.pairwise_cons.mpr ⟨fun z hz => ?_, h⟩
      rcases List.mem_cons.mp hz with rfl | hz
      · exact e
      · have := h1 z hz; omega
    · split
      · exact h
      · refine List.pairwise_cons.mpr ⟨fun z hz => ?_, insU_up h2⟩
        rcases insU_mem.mp hz with rfl | hz
        · omega
        · exact h1 z hz
theorem sortU_mem {k : Int} : ∀ {l : List Int}, k ∈ sortU l ↔ k ∈ l
  | [] => by simp [sortU]
  | y :: r => by
    show k ∈ insU y (sortU r) ↔ _
    rw [insU_mem, sortU_mem, List.mem_cons]
theorem sortU_up : ∀ {l : List Int}, (sortU l).Pairwise (· < ·)
  | [] => .nil
  | y :: r => insU_up (sortU_up (l := r))
theorem up_ext : ∀ {a b : List Int}, a.Pairwise (· < ·) → b.Pairwise (· < ·) → (∀ k, k ∈ a ↔ k ∈ b) → a = b
  | [], [], _, _, _ => rfl
  | [], y :: r, _, _, h => absurd ((h y).mpr List.mem_cons_self) (by simp)
  | y :: r, [], _, _, h => absurd ((h y).mp List.mem_cons_self) (by simp)
  | x :: a, y :: b, h1, h2, h => by
    obtain ⟨p1, q1⟩ := List.pairwise_cons.mp h1
    obtain ⟨p2, q2⟩ := List.pairwise_cons.mp h2
    have e : x = y := by
      rcases List.mem_cons.mp ((h x).mp List.mem_cons_self) with e | e
      · exact e
      · rcases List.mem_cons.mp ((h y).mpr List.mem_cons_self) with e2 | e2
        · exact e2.symm
        · have a1 := p2 x e
          have a2 := p1 y e2
          omega
    subst e
    rw [up_ext q1 q2 fun k => ⟨fun hk => ?_, fun hk => ?_⟩]
    · rcases List.mem_cons.mp ((h k).mp (List.mem_cons_of_mem _ hk)) with e | e
      · have := p1 k hk; omega
      · exact e
    · rcases List.mem_cons.mp ((h k).mpr (List.mem_cons_of_mem _ hk)) with e | e
      · have := p2 k hk; omega
      · exact e
/-- a rising list is its own -/
theorem sortU_id {l : List Int} (h : l.Pairwise (· < ·)) : sortU l = l := up_ext sortU_up h fun _ => sortU_mem
theorem ints_all {K : PySem.W.Frag} {F : Hp} : ∀ ns : List Int, DaAll K F (ns.map V.int) (ns.map PyData.int)
  | [] => .nil
  | n :: r => .cons (.int n) (ints_all r)
section
variable {X : Cx} {g : Gc} {W : WX} {x : Str} {a : Expr} {p pos : Pos} {t : TD (List Val)}
theorem pd_sortSet {y : Str} {p2 q : Pos} (hK : g.K = X.K) (hc : X.calm = true) (hg : Gl X x) (hm : X.mg x = none) (hv : bootBuiltins x = some (.builtin "sorted")) (hn : x ≠ "__name__") (hdb : (x == ("__debug__" : Str)) = false)
    (hg2 : Gl X y) (hm2 : X.mg y = none) (hv2 : bootBuiltins y = some (.type "set")) (hn2 : y ≠ "__name__") (hdb2 : (y == ("__debug__" : Str)) = false) (ha : PA X [a] (rdA g W t)) (hs : nstar a = true) :
    PE X (.Call (.Name x p) [.Call (.Name y p2) [a] [] q] [] pos) (rd g W (dN (biV .sortSet) t)) := by
  refine ⟨fun pins s σ H Q I ⟨F, f, R, ρ, S, sm, e, h⟩ => ?_⟩
  have h2 : rdA g W t σ H fun vs H1 => ∃ (l : Addr) (ns : List Int), vs = [.ref l] ∧ SqT X.K H1 l (ns.map V.int) ∧ ns.length < 64 ∧ ∀ p, H1 p = none → Q (.ref p) (upd H1 p (.lst ((sortU ns).map V.int))) :=
    rd_bind sm e h fun vs F1 f1 S1 H1 xs e1 s1 en1 r1 h1 => by
      unfold biV at h1
      split at h1 <;> first | (rename_i z; cases z; done) | skip
      · obtain ⟨x, rfl, r⟩ := vrs1 r1
        cases r with
        | tup h3 t3 =>
          split at h1
          · rename_i e3
            obtain ⟨hz, h1⟩ := okIf_pos h1
            have q2 := ints_da t3 e3
            subst q2
            refine ⟨_, _, rfl, hK ▸ SqT.sub s1.le h3, hz, fun p hp => sat_lst h1 s1 (ints_all _) hp⟩
          · exact h1.elim
      all_goals exact h1.elim
  refine Call_ (ld_blt I hg hm hv ?_ hn hdb)
  refine PyProof.Rows.callWith_builtin1 (PyProof.Rows.args_cons ?_ rfl) rfl rfl
  refine Call_ (ld_blt I hg2 hm2 hv2 ?_ hn2 hdb2)
  refine PyProof.Rows.callWith_type1 (thn (ha.run q pins s σ H _ I h2) fun us s1 ⟨vs, H1, I1, r1, l, ns, ev, hq, hz, q1⟩ => ?_) (star_cons hs) rfl
  subst ev
  cases r1 with
  | cons r rr =>
    cases rr
    cases r
    obtain ⟨its, rv, pt, hz2⟩ := I1.tuple hq
    have hi : IntsAre its.toArray.toList ns := ints_of_vals rv
    have hd := I1.ok.hd hc
    refine call_set_tupI ns hd (show s1.heap.IsTuple l its.toArray from pt) hi (by unfold scanBound; omega) fun h' tk c R1 hcn k => ?_
    refine PyProof.Rows.args_nil ?_
    have I2 : Inv X pins σ H1 { s1 with heap := h', toks := tk } := I1.kept k
    have fin : ∀ (s2 : Shared) (a : Addr), Inv X pins σ H1 s2 → SetR X.w s2.heap a (fun j => decide (j ∈ ns)) c → wpAny (model X.prog X.w) X.A (call (.builtin "sorted") [.ref a]) (EP X pins σ Q) X.xe s2 := fun s2 a I3 R3 => by
      refine sorted_set R3 (I3.ok.hd hc) (by omega) fun s' p out c' ms kk gg oo hp hg' hi' hs' hm' hl' => ?_
      have em : ms = sortU ns := up_ext hs' sortU_up fun j => by rw [hm' j, sortU_mem]; simp
      have hlen : (ms.map V.int).length ≤ sizeLine := by rw [List.length_map, hl', sizeLine_eq]; omega
      have hnn : H1 p = none := I3.hok.fresh hp
      have J : Inv X pins σ (upd H1 p (.lst (ms.map V.int))) { s2 with heap := s'.heap, gens := s'.gens, drawn := s'.drawn, toks := s'.toks } :=
        I3.call (ch := []) (Un.laid kk hp hnn) (I3.hok.laid kk hp ⟨hlen, out.toList, c', vals_of_ints hi', hg'⟩) (by rw [gg]; exact I3.bare) (fun _ z => nomatch z)
      have es : s' = { s2 with heap := s'.heap, gens := s'.gens, drawn := s'.drawn, toks := s'.toks } := by
        cases s'
        cases s2
        cases oo
        rfl
      rw [es]
      subst em
      exact ⟨.ref p, _, J, rfl, q1 p hnn⟩
    exact fin { s1 with heap := h', toks := tk } _ I2 R1
end
end Ev
end

section
set_option Elab.async false
set_option linter.all false
set_option maxRecDepth 100000
set_option maxHeartbeats 4000000
/-! E8: iterators, targets, comprehensions -/
namespace Ev
open PySem PySem.Spec PyProof.Rows L2

/-! ### iterators -/
def rdI (g : Gc) (W : WX) (t : TD Itm) : TI := fun σ H R => ∃ F f Rs ρ S, Sm g F f Rs S H ∧ En g F f ρ σ ∧
  Sat g F f Rs (fun C d H' => W C d σ H') (t ρ S) fun w F' f' S' H' => ∀ J, ItR g F' f' J w → R J H'
section
variable {X : Cx} {g : Gc} {W : WX} {a b c tg : Expr} {ta tb tc : TD Val} {pos p tpos : Pos} {elts : List Expr} {kk : Nat}
theorem pi_seqD (hK : g.K = X.K) (ha : PE X a (rd g W ta)) : PI X tg a (rdI g W fun ρ S => (ta ρ S).bind seqI) := by
  refine ⟨fun pins s σ H R I ⟨F, f, Rs, ρ, S, sm, e, h⟩ => ?_⟩
  dsimp only at h
  cases eq : ta ρ S with
  | err x S1 =>
    rw [eq] at h
    exact (pi_list ha).run pins s σ H R I ⟨F, f, Rs, ρ, S, sm, e, by rw [eq]; exact h⟩
  | stuck => rw [eq] at h; exact h.elim
  | ok v S1 =>
    rw [eq] at h
    have h : Sat g F f Rs (fun C d H' => W C d σ H') (seqI v S1) fun w F' f' S' H' => ∀ J, ItR g F' f' J w → R J H' := h
    unfold seqI at h
    split at h
    · refine (pi_list ha).run pins s σ H R I ⟨F, f, Rs, ρ, S, sm, e, ?_⟩
      rw [eq]
      intro F' f' H' ex sm' x r
      cases r with
      | lst h1 h2 => exact ⟨_, rfl, ⟨_, .inl (Rd.sub sm'.le h1)⟩, hK ▸ h F' f' H' ex sm' _ (itr_list h1 h2)⟩
    · refine (pi_tup ha).run pins s σ H R I ⟨F, f, Rs, ρ, S, sm, e, ?_⟩
      rw [eq]
      intro F' f' H' ex sm' x r
      cases r with
      | tup h1 h2 => exact ⟨_, rfl, ⟨_, hK ▸ SqT.sub sm'.le h1⟩, hK ▸ h F' f' H' ex sm' _ (itr_tup h1 h2)⟩
    · refine (pi_str ha).run pins s σ H R I ⟨F, f, Rs, ρ, S, sm, e, ?_⟩
      rw [eq]
      intro F' f' H' ex sm' x r
      cases r with
      | str z => exact ⟨_, rfl, h F' f' H' ex sm' _ itr_str⟩
    · split at h
      · rename_i ds hS
        refine (pi_list ha).run pins s σ H R I ⟨F, f, Rs, ρ, S, sm, e, ?_⟩
        rw [eq]
        intro F' f' H' ex sm' x r
        obtain ⟨a', q1, rfl⟩ := r
        obtain ⟨a2, ys, z1, z2, z3⟩ := sm'.getL hS
        rw [q1] at z1; cases z1
        exact ⟨_, rfl, ⟨ys, .inl (.inl z2)⟩, hK ▸ h F' f' H' ex sm' _ (itr_loc q1)⟩
      · exact h.elim
    · exact h.elim
theorem pi_rng1 (hg : Gl X "range") (hm : X.mg "range" = none) (ha : PE X a (rd g W ta)) (hs : nstar a = true) : PI X tg (.Call (.Name "range" p) [a] [] pos) (rdI g W fun ρ S => (ta ρ S).bind rng1I) := by
  refine ⟨fun pins s σ H R I ⟨F, f, Rs, ρ, S, sm, e, h⟩ => ?_⟩
  refine (pi_range1 hg hm (pa_cons ha pa_nil (star_cons hs)) (star_cons hs)).run pins s σ H R I (rd_bind sm e h fun v F1 f1 S1 H1 x e1 s1 en1 r1 h1 => ?_)
  unfold rng1I at h1
  split at h1
  · split at h1
    · rename_i hb
      cases r1
      exact ⟨_, rfl, hb.1, hb.2, h1.ok s1 _ itr_rng⟩
    · exact h1.elim
  · exact h1.elim
theorem pi_rng2 (hg : Gl X "range") (hm : X.mg "range" = none) (ha : PE X a (rd g W ta)) (hb : PE X b (rd g W tb)) (hs : nstar a = true) (hs2 : nstar b = true) : PI X tg (.Call (.Name "range" p) [a, b] [] pos) (rdI g W fun ρ S => (ta ρ S).bind fun v S1 => (tb ρ S1).bind fun u S2 => rng2I v u S2) := by
  refine ⟨fun pins s σ H R I ⟨F, f, Rs, ρ, S, sm, e, h⟩ => ?_⟩
  refine (pi_range2 hg hm (pa_cons ha (pa_cons hb pa_nil (star_cons hs2)) (star_cons hs)) ((star_cons hs).trans (by rw [star_cons hs2] <;> rfl)) (star_cons hs2)).run pins s σ H R I
    (rd_bind sm e h fun v F1 f1 S1 H1 x e1 s1 en1 r1 h1 => rd_bind s1 en1 h1 fun u F2 f2 S2 H2 y e2 s2 en2 r2 h2 => ?_)
  unfold rng2I at h2
  split at h2
  · split at h2
    · rename_i hb
      cases r1
      cases r2
      exact ⟨_, _, rfl, hb, h2.ok s2 _ itr_rng⟩
    · exact h2.elim
  · exact h2.elim
theorem pi_rng3 (hg : Gl X "range") (hm : X.mg "range" = none) (ha : PE X a (rd g W ta)) (hb : PE X b (rd g W tb)) (hc : PE X c (rd g W tc)) (hs : nstar a = true) (hs2 : nstar b = true) (hs3 : nstar c = true) :
    PI X tg (.Call (.Name "range" p) [a, b, c] [] pos) (rdI g W fun ρ S => (ta ρ S).bind fun v S1 => (tb ρ S1).bind fun u S2 => (tc ρ S2).bind fun w S3 => rng3I v u w S3) := by
  refine ⟨fun pins s σ H R I ⟨F, f, Rs, ρ, S, sm, e, h⟩ => ?_⟩
  refine (pi_range3 hg hm (pa_cons ha (pa_cons hb (pa_cons hc pa_nil (star_cons hs3)) (star_cons hs2)) (star_cons hs)) (star_cons hs) (star_any (by simp [hs2, hs3]))).run pins s σ H R I
    (rd_bind sm e h fun v F1 f1 S1 H1 x e1 s1 en1 r1 h1 => rd_bind s1 en1 h1 fun u F2 f2 S2 H2 y e2 s2 en2 r2 h2 => rd_bind s2 en2 h2 fun w F3 f3 S3 H3 z e3 s3 en3 r3 h3 => ?_)
  unfold rng3I at h3
  split at h3
  · split at h3
    · rename_i hb
      cases r1
      cases r2
      cases r3
      obtain ⟨rfl, b1, b2, b3, b4⟩ := hb
      exact ⟨_, _, _, _, rfl, RgC.neg b1 b2 b3 b4, h3.ok s3 _ itr_down⟩
    · exact h3.elim
  · exact h3.elim
theorem pi_zipD (hK : g.K = X.K) (hg : Gl X "zip") (hm : X.mg "zip" = none) (ha : PE X a (rd g W ta)) (hb : PE X b (rd g W tb)) (hs : nstar a = true) (hs2 : nstar b = true) :
    PI X (.Tuple elts kk tpos) (.Call (.Name "zip" p) [a, b] [] pos) (rdI g W fun ρ S => (ta ρ S).bind fun v S1 => (tb ρ S1).bind fun u S2 => zipI v u S2) := by
  refine ⟨fun pins s σ H R I ⟨F, f, Rs, ρ, S, sm, e, h⟩ => ?_⟩
  refine (RZ.pi_zipA hg hm (pa_cons ha (pa_cons hb pa_nil (star_cons hs2)) (star_cons hs)) (star_cons hs) (star_any (by simp [hs2]))).run pins s σ H R I
    (rd_bind sm e h fun v F1 f1 S1 H1 x e1 s1 en1 r1 h1 => rd_bind s1 en1 h1 fun u F2 f2 S2 H2 y e2 s2 en2 r2 h2 => ?_)
  unfold zipI at h2
  split at h2
  · have r1 := r1.sub e2
    cases r1 with
    | lst h1 t1 =>
      cases r2 with
      | lst h3 t3 => exact ⟨_, _, _, _, rfl, .inl ⟨.inl (Rd.sub s2.le h1), .inl (Rd.sub s2.le h3), hK ▸ h2.ok s2 _ (itr_zipL h1 t1 h3 t3)⟩⟩
  · have r1 := r1.sub e2
    cases r1 with
    | tup h1 t1 =>
      cases r2 with
      | tup h3 t3 => exact ⟨_, _, _, _, rfl, .inr ⟨hK ▸ SqT.sub s2.le h1, hK ▸ SqT.sub s2.le h3, hK ▸ h2.ok s2 _ (itr_zipT h1 t1 h3 t3)⟩⟩
  · exact h2.elim
theorem pi_enumD (hK : g.K = X.K) (hg : Gl X "enumerate") (hm : X.mg "enumerate" = none) (ha : PE X a (rd g W ta)) (hs : nstar a = true) :
    PI X (.Tuple elts kk tpos) (.Call (.Name "enumerate" p) [a] [] pos) (rdI g W fun ρ S => (ta ρ S).bind enumI) := by
  refine ⟨fun pins s σ H R I ⟨F, f, Rs, ρ, S, sm, e, h⟩ => ?_⟩
  refine (pi_enumT hg hm (pa_cons ha pa_nil (star_cons hs)) (star_cons hs)).run pins s σ H R I (rd_bind sm e h fun v F1 f1 S1 H1 x e1 s1 en1 r1 h1 => ?_)
  unfold enumI at h1
  split at h1
  · cases r1 with
    | lst h2 t2 => exact .inl ⟨_, _, rfl, .inl ⟨Rd.sub s1.le h2, hK ▸ h1.ok s1 _ (itr_enumL h2 t2)⟩⟩
  · cases r1 with
    | tup h2 t2 => exact .inl ⟨_, _, rfl, .inr ⟨hK ▸ SqT.sub s1.le h2, hK ▸ h1.ok s1 _ (itr_enumT h2 t2)⟩⟩
  · cases r1
    exact .inr ⟨_, rfl, h1.ok s1 _ itr_enumS⟩
  · exact h1.elim
end

/-! ### targets -/
def Tg.ix : Tg → List Nat
  | .nm i => [i]
  | .tup is => is
  | .nest i is => i :: is
theorem wipe_set {σ : L2.St} {i : Nat} {x : Option V} : ∀ {vs : List Nat}, i ∈ vs → wipe (σ.set i x) vs = wipe σ vs
  | v :: vs, h => by
    by_cases hv : v = i
    · subst hv
      by_cases hm : v ∈ vs
      · unfold wipe
        rw [wipe_set hm]
      · unfold wipe
        have : ∀ ws : List Nat, v ∉ ws → wipe (σ.set v x) ws = (wipe σ ws).set v x := by
          intro ws
          induction ws with
          | nil => intro _; rfl
          | cons w ws ih =>
            intro hw
            unfold wipe
            rw [ih (fun z => hw (List.mem_cons_of_mem _ z)), List.set_comm _ _ (fun z => hw (by rw [z]; exact List.mem_cons_self))]
        rw [this vs hm, List.set_set]
    · unfold wipe
      rw [wipe_set ((List.mem_cons.mp h).resolve_left (Ne.symm hv))]
theorem wipe_wipe {σ : L2.St} : ∀ (ws vs : List Nat), (∀ w ∈ ws, w ∈ vs) → wipe (wipe σ ws) vs = wipe σ vs
  | [], vs, _ => rfl
  | w :: ws, vs, h => by
    show wipe ((wipe σ ws).set w none) vs = wipe σ vs
    rw [wipe_set (h w List.mem_cons_self)]
    exact wipe_wipe ws vs fun x hx => h x (List.mem_cons_of_mem _ hx)
theorem En.wipes {g : Gc} {F : Hp} {f : List Addr} {ρ : EnvD} {σ : L2.St} (h : En g F f ρ σ) : ∀ vs : List Nat, En g F f (wipeD ρ vs) (L2.wipe σ vs)
  | [] => h
  | v :: vs => (En.wipes h vs).wipe v
/-- a target's reading serves its meaning -/
def TgR (g : Gc) (tg : Tg) (G : TG) : Prop := ∀ (F : Hp) (f : List Addr) (R : Rs) (S : Store) (H : Hp) (σ : L2.St) (ρ ρ1 : EnvD) (x : V) (v : Val) (Q : L2.St → Hp → Prop), Sm g F f R S H → En g F f ρ σ → VR g F f x v → tgt tg v ρ = some ρ1 →
  (∀ σ1, En g F f ρ1 σ1 → (∀ vs : List Nat, (∀ i ∈ tg.ix, i ∈ vs) → wipe σ1 vs = wipe σ vs) → Q σ1 H) → G x σ H Q
theorem tgr_nm {g : Gc} {i : Nat} : TgR g (.nm i) (gName i) := fun F f R S H σ ρ ρ1 x v Q s e r h q => by
  cases h
  exact q _ (e.set i r) fun vs hv => wipe_set (hv i (by simp [Tg.ix]))
def gNames : List Nat → TGs
  | [] => gNil
  | i :: is => gCons (gName i) (gNames is)
theorem names_set {g : Gc} {F : Hp} {f : List Addr} : ∀ {is : List Nat} {xs : List V} {ds : List PyData} {ρ : EnvD} {σ : L2.St} {H : Hp} {Q : L2.St → Hp → Prop}, xs.length = is.length → DaAll g.K F xs ds → En g F f ρ σ →
    (∀ σ1, En g F f (setAll is ds ρ) σ1 → (∀ vs : List Nat, (∀ i ∈ is, i ∈ vs) → wipe σ1 vs = wipe σ vs) → Q σ1 H) → gNames is xs σ H Q
  | [], [], _, ρ, σ, H, Q, _, t, e, q => ⟨rfl, q σ (by cases t; exact e) fun _ _ => rfl⟩
  | i :: is, x :: xs, _, ρ, σ, H, Q, hl, .cons h t, e, q => ⟨x, xs, rfl, names_set (is := is) (by simpa using hl) t (e.set i (v := .d _) h) fun σ1 e1 w1 => q σ1 e1 fun vs hv => by
      rw [w1 vs fun j hj => hv j (List.mem_cons_of_mem _ hj)]
      exact wipe_set (hv i List.mem_cons_self)⟩
theorem els_set {g : Gc} {F : Hp} {f : List Addr} : ∀ {is : List Nat} {xs : List V} {ds : List El} {ρ : EnvD} {σ : L2.St} {H : Hp} {Q : L2.St → Hp → Prop}, xs.length = is.length → ElRs g F f xs ds → En g F f ρ σ →
    (∀ σ1, En g F f (setEls is ds ρ) σ1 → (∀ vs : List Nat, (∀ i ∈ is, i ∈ vs) → wipe σ1 vs = wipe σ vs) → Q σ1 H) → gNames is xs σ H Q
  | [], [], _, ρ, σ, H, Q, _, t, e, q => ⟨rfl, q σ (by cases t; exact e) fun _ _ => rfl⟩
  | i :: is, x :: xs, _, ρ, σ, H, Q, hl, .cons h t, e, q => ⟨x, xs, rfl, els_set (is := is) (by simpa using hl) t (e.set i h.vr) fun σ1 e1 w1 => q σ1 e1 fun vs hv => by
      rw [w1 vs fun j hj => hv j (List.mem_cons_of_mem _ hj)]
      exact wipe_set (hv i List.mem_cons_self)⟩
theorem tgr_tup {g : Gc} {is : List Nat} : TgR g (.tup is) (gTup g.K is.length (gNames is)) := fun F f R S H σ ρ ρ1 x v Q s e r h q => by
  cases v with
  | d y =>
    cases y with
    | tuple ds =>
      dsimp only [tgt] at h
      split at h
      · rename_i hl
        cases h
        cases r with
        | tup h1 t => exact ⟨_, _, rfl, SqT.sub s.le h1, by rw [t.len]; exact hl, names_set (by rw [t.len]; exact hl) t e q⟩
      · cases h
    | _ => cases h
  | tp es =>
    dsimp only [tgt] at h
    split at h
    · rename_i hl
      cases h
      obtain ⟨a, xs, rfl, h1, t⟩ := r
      exact ⟨_, _, rfl, SqT.sub s.le h1, by rw [t.len]; exact hl, els_set (by rw [t.len]; exact hl) t e q⟩
    · cases h
  | _ => cases h
theorem tgr_nest {g : Gc} {i : Nat} {is : List Nat} : TgR g (.nest i is) (gTup g.K 2 (gCons (gName i) (gCons (gTup g.K is.length (gNames is)) gNil))) := fun F f R S H σ ρ ρ1 x v Q s e r h q => by
  unfold tgt at h
  split at h
  · first | (rename_i e1; cases e1; done) | (rename_i e1 _; cases e1; done) | (rename_i e1 _ _; cases e1; done)
  · first | (rename_i e1; cases e1; done) | (rename_i e1 _; cases e1; done) | (rename_i e1 _ _; cases e1; done)
  · first | (rename_i e1; cases e1; done) | (rename_i e1 _; cases e1; done) | (rename_i e1 _ _; cases e1; done)
  · rename_i i' is' y ds e1
    cases e1
    split at h
    · rename_i hl
      cases h
      cases r with
      | tup h1 t =>
        cases t with
        | cons ha t2 =>
          cases t2 with
          | cons hb t3 =>
            cases t3
            cases hb with
            | tup h2 t4 =>
              refine ⟨_, _, rfl, SqT.sub s.le h1, rfl, _, _, rfl, _, _, rfl, _, _, rfl, SqT.sub s.le h2, by rw [t4.len]; exact hl, ?_⟩
              refine names_set (by rw [t4.len]; exact hl) t4 (e.set i (v := .d _) ha) fun σ1 e1 w1 => ⟨rfl, q σ1 e1 fun vs hv => ?_⟩
              rw [w1 vs fun j hj => hv j (List.mem_cons_of_mem _ hj)]
              exact wipe_set (hv i List.mem_cons_self)
    · cases h
  · cases h
section
variable {X : Cx}
theorem hn_names : ∀ {es : List Expr} {env : Env}, es.all nstar = true → (assignEach es env).length = es.length ∧ (assignEach es env).findIdx? (·.1) = none
  | [], _, _ => ⟨rfl, rfl⟩
  | e :: es, env, h => by
    rw [List.all_cons, Bool.and_eq_true] at h
    obtain ⟨h1, h2⟩ := hn_names (es := es) (env := env) h.2
    rw [asg_cons h.1]
    refine ⟨by simp [h1], ?_⟩
    rw [List.findIdx?_cons]
    simp [h2]
end

/-! ### comprehensions -/
/-- the held object becomes a mutable one of the store -/
theorem Sm.loosen {g : Gc} {F : Hp} {f : List Addr} {R : Rs} {S : Store} {H : Hp} {p : Addr} {o : HO} {ob : Ob} (s : Sm g F f ((p, o) :: R) S H) (hR : ∀ q ∈ R, q.1 ≠ p) (ho : ObR g F ob (some o)) :
    Sm g F (f ++ [p]) R (S ++ [ob]) H ∧ Ext F f F (f ++ [p]) ∧ (f ++ [p])[S.length]? = some p := by
  obtain ⟨h1, n2, n1⟩ := s.res (p, o) List.mem_cons_self
  have pre : ∀ (n : Nat) (a : Addr), f[n]? = some a → (f ++ [p])[n]? = some a := fun n a e => by
    rw [List.getElem?_append_left (List.getElem?_eq_some_iff.mp e).1]; exact e
  refine ⟨⟨s.le, fun a ha => ?_, ?_, by simp [s.len], fun n ob' a q1 q2 => ?_, fun q hq => ?_⟩, ⟨fun _ _ h => h, pre⟩, by rw [s.len]; simp⟩
  · rcases List.mem_append.mp ha with h | h
    · exact s.nof a h
    · rw [List.mem_singleton.mp h]; exact n2
  · exact List.nodup_append.mpr ⟨s.nd, by simp, fun a ha b hb => by rw [List.mem_singleton.mp hb]; exact fun z => n1 (z ▸ ha)⟩
  · by_cases hn : n < S.length
    · rw [List.getElem?_append_left hn] at q1
      rw [List.getElem?_append_left (by rw [← s.len]; exact hn)] at q2
      exact s.st n ob' a q1 q2
    · have hn' : n = S.length := by
        have := (List.getElem?_eq_some_iff.mp q1).1
        simp at this; omega
      subst hn'
      rw [List.getElem?_append_right (Nat.le_refl _)] at q1
      rw [s.len, List.getElem?_append_right (Nat.le_refl _)] at q2
      simp at q1 q2
      subst q1 q2
      rw [h1]; exact ho
  · obtain ⟨e1, e2, e3⟩ := s.res q (List.mem_cons_of_mem _ hq)
    exact ⟨e1, e2, fun z => (List.mem_append.mp z).elim e3 fun z => hR q hq (List.mem_singleton.mp z)⟩
abbrev W0 : WX := fun _ _ _ _ => False
theorem lc_rd {g : Gc} {W : WX} {m : Bool} {it : TD Itm} {own : List Nat} {tg : Tg} {G : TG} {cond : TD Bool} {elt : TD Val} {σ : L2.St} {H : Hp} {Q : VK} (hG : TgR g tg G) (hix : ∀ i ∈ tg.ix, i ∈ own)
    (h : rd g W (dLc m it own tg cond elt) σ H Q) : tLc (rdI g W it) G (rdT g W0 cond) (rd g W0 elt) own σ H Q := by
  obtain ⟨F, f, R, ρ, S, sm, e, h⟩ := h
  unfold dLc at h
  cases eq : it ρ S with
  | err x S1 => rw [eq] at h; exact h.elim
  | stuck => rw [eq] at h; exact h.elim
  | ok w S1 =>
    rw [eq] at h
    dsimp only at h
    cases eq2 : lcD w tg cond elt (wipeD ρ own) w.vs [] S1 with
    | err x S1 => rw [eq2] at h; exact h.elim
    | stuck => rw [eq2] at h; exact h.elim
    | ok xs Sf =>
      rw [eq2] at h
      dsimp only at h
      refine ⟨F, f, R, ρ, S, sm, e, ?_⟩
      rw [eq]
      intro F1 f1 H1 x1 sm1 J hJ D hD
      have hR : ∀ q ∈ R, q.1 ≠ D := fun q hq => ne_of_none (sm1.res q hq).1 hD
      refine ⟨fun i k H => k = w.vs.length - i ∧ i ≤ w.vs.length ∧ ∃ F2 f2 S2 acc accD, Ext F1 f1 F2 f2 ∧ Sm g F2 f2 ((D, .lst acc) :: R) S2 H ∧ DaAll g.K F2 acc accD ∧
          lcD w tg cond elt (wipeD ρ own) (w.vs.drop i) accD S2 = .ok xs Sf, ⟨w.vs.length, by simp, Nat.zero_le _, F1, f1, S1, [], [], Ext.refl _ _, sm1.hold hD, .nil, by simpa using eq2⟩, ?_⟩
      rintro i k H2 ⟨rfl, hi, F2, f2, S2, acc, accD, x2, sm2, t2, q2⟩
      by_cases hlt : i < w.vs.length
      · refine .inr ?_
        rw [List.drop_eq_getElem_cons hlt] at q2
        unfold lcD at q2
        split at q2
        · rename_i hck
          obtain ⟨j1, j2⟩ := hJ ((D, .lst acc) :: R) i F2 f2 S2 H2 x2 sm2 hck
          obtain ⟨go, yl⟩ := j1 w.vs[i] (List.getElem?_eq_getElem hlt)
          split at q2
          · rename_i ρ1 ht
            refine ⟨go, _, fun H' n' => ⟨w.vs.length - (i + 1), by omega, n'⟩, fun x H3 y3 => ?_⟩
            obtain ⟨F3, x3, sm3, r3⟩ := yl x H3 y3
            have e3 : En g F3 f2 (wipeD ρ own) (wipe σ own) := ((e.sub x1).sub (x2.trans x3)).wipes own
            refine hG F3 f2 _ S2 H3 _ _ ρ1 x _ _ sm3 e3 r3 ht fun σ1 e4 w4 => ⟨?_, ?_⟩
            · rw [w4 own hix]
              exact wipe_wipe own own fun _ h => h
            · cases eqc : cond ρ1 S2 with
              | err _ _ => rw [eqc] at q2; cases q2
              | stuck => rw [eqc] at q2; cases q2
              | ok b S4 =>
                rw [eqc] at q2
                refine ⟨F3, f2, _, ρ1, S2, sm3, e4, ?_⟩
                rw [eqc]
                rintro F4 f4 H4 x4 sm4 b' rfl
                cases b' with
                | false =>
                  dsimp only at q2
                  rw [if_neg (by decide)]
                  exact ⟨rfl, hlt, F4, f4, S4, acc, accD, x2.trans (x3.trans x4), sm4, DaAll.sub (x3.trans x4).le t2, q2⟩
                | true =>
                  dsimp only at q2
                  rw [if_pos rfl]
                  cases eqe : elt ρ1 S4 with
                  | err _ _ => rw [eqe] at q2; cases q2
                  | stuck => rw [eqe] at q2; cases q2
                  | ok v5 S5 =>
                    rw [eqe] at q2
                    cases v5 with
                    | loc _ => cases q2
                    | fn _ => cases q2
                    | tp _ => cases q2
                    | ls _ => cases q2
                    | d y5 =>
                      dsimp only at q2
                      split at q2
                      · rename_i hz
                        refine ⟨F4, f4, _, ρ1, S4, sm4, e4.sub x4, ?_⟩
                        rw [eqe]
                        intro F5 f5 H5 x5 sm5 y ry
                        have t5 : DaAll g.K F5 acc accD := DaAll.sub ((x3.trans x4).trans x5).le t2
                        refine ⟨acc, (sm5.res _ List.mem_cons_self).1, by rw [t5.len]; exact hz, ?_⟩
                        exact ⟨rfl, hlt, F5, f5, S5, acc ++ [y], accD ++ [y5], x2.trans ((x3.trans x4).trans x5), sm5.rehold hR, t5.append (.one ry), q2⟩
                      · cases q2
          · cases q2
        · cases q2
      · have ei : i = w.vs.length := by omega
        subst ei
        rw [List.drop_length] at q2
        unfold lcD at q2
        split at q2
        · rename_i hck
          obtain ⟨_, j2⟩ := hJ ((D, .lst acc) :: R) w.vs.length F2 f2 S2 H2 x2 sm2 hck
          cases q2
          refine .inl ⟨j2 (Nat.le_refl _), ?_⟩
          split at h
          · obtain ⟨sm3, x3, g3⟩ := sm2.loosen (ob := .lst xs) hR ⟨acc, rfl, t2⟩
            exact h F2 _ H2 ((x1.trans x2).trans x3) sm3 _ ⟨D, g3, rfl⟩
          · obtain ⟨sm3, x3⟩ := sm2.freeze hR
            exact h _ f2 H2 ((x1.trans x2).trans x3) sm3 _ (Da.lst (.inl upd_same) (DaAll.sub x3.le t2))
        · cases q2
section
variable {X : Cx} {g : Gc} {W : WX} {m : Bool} {it : TD Itm} {tgd : Tg} {G : TG} {cond : TD Bool} {td : TD Val} {elt tg iter : Expr} {ifs : List Expr} {scope : Scope} {own : List (Str × Nat)} {pos : Pos}
theorem pd_lc (hc : X.calm = true) (hN : X.N.Nodup) (hi : PI X tg iter (rdI g W it)) (ok : BlkOk X.N X.env.scope scope own) (hG : TgR g tgd G) (hix : ∀ i ∈ tgd.ix, i ∈ own.map (·.2))
    (hg : ∀ (s : Shared) (H : Hp) (C : Addr) (cl : List (Str × Addr)) (fp : List Addr), PG (X.blk s H scope (compEnvC scope cl C X.env) fp) tg G) (ht : ∀ (s : Shared) (H : Hp) (C : Addr) (cl : List (Str × Addr)) (fp : List Addr), PTs (X.blk s H scope (compEnvC scope cl C X.env) fp) ifs (rdT g W0 cond))
    (he : ∀ (s : Shared) (H : Hp) (C : Addr) (cl : List (Str × Addr)) (fp : List Addr), PE (X.blk s H scope (compEnvC scope cl C X.env) fp) elt (rd g W0 td)) (hs : ∀ x, foldedSetIterable iter X.env x = pure x) :
    PE X (.ListComp elt [⟨tg, iter, ifs, 0⟩] scope pos) (rd g W (dLc m it (own.map (·.2)) tgd cond td)) := (pe_lc hc hN hi ok hg ht he hs).imp fun σ H Q h => lc_rd hG hix h
theorem pts_nilD : PTs X [] (rdT g W fun _ S => .ok true S) := ⟨fun pins s σ H Q I ⟨F, f, R, ρ, S, sm, e, h⟩ => pts_nil.run pins s σ H Q I (h.ok sm true rfl)⟩
end
end Ev
end

section
set_option Elab.async false
set_option linter.all false
set_option maxRecDepth 100000
set_option maxHeartbeats 4000000
/-! E9: statements, keyword calls, defs -/
namespace Ev
open PySem PySem.Spec PyProof.Rows L2

def SatS (g : Gc) (F : Hp) (f : List Addr) (R : Rs) (W : WX) (o : SOut) (D : Ends) : Prop := match o with
  | .next ρ S => ∀ F' f' σ' H', Ext F f F' f' → Sm g F' f' R S H' → En g F' f' ρ σ' → D.nx σ' H'
  | .brk ρ S => ∀ F' f' σ' H', Ext F f F' f' → Sm g F' f' R S H' → En g F' f' ρ σ' → D.bk σ' H'
  | .cont ρ S => ∀ F' f' σ' H', Ext F f F' f' → Sm g F' f' R S H' → En g F' f' ρ σ' → D.ct σ' H'
  | .ret v S => ∀ F' f' H' x, Ext F f F' f' → Sm g F' f' R S H' → VR g F' f' x v → D.rt x H'
  | .err e ρ S => ∀ F' f' σ' H' C d, Ext F f F' f' → Sm g F' f' R S H' → En g F' f' ρ σ' → ErrR g F' e C d H' → W C d σ' H'
  | .stuck => False
section
variable {g : Gc} {F F' : Hp} {f f' : List Addr} {R : Rs} {W : WX} {D D' : Ends} {o : SOut}
theorem SatS.step (h : SatS g F f R W o D) (e : Ext F f F' f') : SatS g F' f' R W o D := by
  cases o with
  | next ρ S => exact fun F2 f2 σ2 H2 e2 s => h F2 f2 σ2 H2 (e.trans e2) s
  | brk ρ S => exact fun F2 f2 σ2 H2 e2 s => h F2 f2 σ2 H2 (e.trans e2) s
  | cont ρ S => exact fun F2 f2 σ2 H2 e2 s => h F2 f2 σ2 H2 (e.trans e2) s
  | ret v S => exact fun F2 f2 H2 x e2 s => h F2 f2 H2 x (e.trans e2) s
  | err x ρ S => exact fun F2 f2 σ2 H2 C d e2 s => h F2 f2 σ2 H2 C d (e.trans e2) s
  | stuck => exact h
theorem S_of {α : Type} {o : Out α} {ρ : EnvD} {σ : L2.St} {k : α → Store → SOut} (h : SatS g F f R W (o.s ρ k) D) (e : En g F f ρ σ) :
    Sat g F f R (fun C d H' => W C d σ H') o (fun a F' f' S' H' => SatS g F' f' R W (k a S') D) := by
  cases o with
  | ok a S => exact fun F2 f2 H2 e2 s => SatS.step h e2
  | err x S => exact fun F2 f2 H2 C d e2 s r => h F2 f2 σ H2 C d e2 s (e.sub e2) r
  | stuck => exact h
theorem SatS.nx {ρ : EnvD} {S : Store} {σ : L2.St} {H : Hp} (h : SatS g F f R W (.next ρ S) D) (s : Sm g F f R S H) (e : En g F f ρ σ) : D.nx σ H := h F f σ H (Ext.refl _ _) s e
end
def rdS (g : Gc) (W : WX) (t : SD) : TS := fun D σ H => ∃ F f R ρ S, Sm g F f R S H ∧ En g F f ρ σ ∧ SatS g F f R W (t ρ S) D
theorem rS {g : Gc} {W : WX} {α β : Type} {rel : Hp → List Addr → β → α → Prop} {t : TD α} {Q : β → Hp → Prop} {F : Hp} {f : List Addr} {R : Rs} {S : Store} {H : Hp} {ρ : EnvD} {σ : L2.St} {k : α → Store → SOut} {D : Ends}
    (s : Sm g F f R S H) (e : En g F f ρ σ) (h : SatS g F f R W ((t ρ S).s ρ k) D)
    (hk : ∀ v F' f' S' H' x, Ext F f F' f' → Sm g F' f' R S' H' → En g F' f' ρ σ → rel F' f' x v → SatS g F' f' R W (k v S') D → Q x H') : rdG g W rel t σ H Q := rd_of s e (S_of h e) hk
section
variable {X : Cx} {g : Gc} {W : WX} {e a b c : Expr} {te ta tb : TD Val} {tc : TD Bool} {pos : Pos} {st : Stmt} {rest sa sb : List Stmt} {t u : SD}
theorem ss_nil : PSs X [] (rdS g W fun ρ S => .next ρ S) := pss_nil.imp fun D σ H ⟨F, f, R, ρ, S, s, e, h⟩ => h.nx s e
theorem ss_cons (h1 : PS X st (rdS g W t)) (h2 : PSs X rest (rdS g W u)) : PSs X (st :: rest) (rdS g W fun ρ S => (t ρ S).seq u) := (pss_cons h1 h2).imp fun D σ H ⟨F, f, R, ρ, S, s, e, h⟩ => by
  refine ⟨F, f, R, ρ, S, s, e, ?_⟩
  dsimp only at h
  cases eq : t ρ S with
  | next ρ1 S1 =>
    rw [eq] at h
    exact fun F2 f2 σ2 H2 e2 s2 en2 => ⟨F2, f2, R, ρ1, S1, s2, en2, SatS.step (o := u ρ1 S1) h e2⟩
  | brk ρ1 S1 => rw [eq] at h; exact h
  | cont ρ1 S1 => rw [eq] at h; exact h
  | ret v S1 => rw [eq] at h; exact h
  | err x ρ1 S1 => rw [eq] at h; exact h
  | stuck => rw [eq] at h; exact h
theorem sd_ret (he : PE X e (rd g W te)) : PS X (.Return (some e) pos) (rdS g W fun ρ S => (te ρ S).s ρ fun v S1 => .ret v S1) := (ps_ret he).imp fun D σ H ⟨F, f, R, ρ, S, s, e, h⟩ =>
  rS s e h fun v F1 f1 S1 H1 x e1 s1 en1 r1 h1 => h1 F1 f1 H1 x (Ext.refl _ _) s1 r1
theorem sd_retN : PS X (.Return none pos) (rdS g W fun _ S => .ret (.d .none) S) := ps_retN.imp fun D σ H ⟨F, f, R, ρ, S, s, e, h⟩ => h F f H .non (Ext.refl _ _) s .non
theorem sd_if (hc : PT X c (rdT g W tc)) (ha : PSs X sa (rdS g W t)) (hb : PSs X sb (rdS g W u)) : PS X (.If c sa sb pos) (rdS g W fun ρ S => (tc ρ S).s ρ fun k S1 => if k = true then t ρ S1 else u ρ S1) :=
  (ps_if hc ha hb).imp fun D σ H ⟨F, f, R, ρ, S, s, e, h⟩ => rS s e h fun k F1 f1 S1 H1 x e1 s1 en1 r1 h1 => by
    subst r1
    by_cases hk : x = true
    · rw [if_pos hk] at h1 ⊢
      exact ⟨F1, f1, R, ρ, S1, s1, en1, h1⟩
    · rw [if_neg hk] at h1 ⊢
      exact ⟨F1, f1, R, ρ, S1, s1, en1, h1⟩
theorem sd_pass : PS X (.Pass pos) (rdS g W fun ρ S => .next ρ S) := ps_pass.imp fun D σ H ⟨F, f, R, ρ, S, s, e, h⟩ => h.nx s e
theorem sd_brk : PS X (.Break pos) (rdS g W fun ρ S => .brk ρ S) := ps_break.imp fun D σ H ⟨F, f, R, ρ, S, s, e, h⟩ => h F f σ H (Ext.refl _ _) s e
theorem sd_cnt : PS X (.Continue pos) (rdS g W fun ρ S => .cont ρ S) := ps_continue.imp fun D σ H ⟨F, f, R, ρ, S, s, e, h⟩ => h F f σ H (Ext.refl _ _) s e
theorem sd_never : PS X st (rdS g W fun _ _ => .stuck) := ps_never.imp fun D σ H ⟨F, f, R, ρ, S, s, e, h⟩ => h
theorem sd_expr (he : PE X e (rd g W te)) (hs : swapsWith e none pos.line X.env = pure false) : PS X (.Expr e pos) (rdS g W fun ρ S => (te ρ S).s ρ fun _ S1 => .next ρ S1) :=
  (ps_expr he hs).imp fun D σ H ⟨F, f, R, ρ, S, s, e, h⟩ => rS s e h fun v F1 f1 S1 H1 x e1 s1 en1 r1 h1 => h1.nx s1 en1
theorem sd_doc {x : Str} {j : Nat} {pos' : Pos} : PS X (.Expr (.Constant (.str x) j pos) pos') (rdS g W fun ρ S => .next ρ S) := ps_doc.imp fun D σ H ⟨F, f, R, ρ, S, s, e, h⟩ => h.nx s e
def asgD (t : Tg) (te : TD Val) : SD := fun ρ S => (te ρ S).s ρ fun v S1 => match tgt t v ρ with
  | some ρ1 => .next ρ1 S1
  | none => .stuck
theorem asg_rd {tg : Tg} {G : TG} (hG : TgR g tg G) {D : Ends} {σ : L2.St} {H : Hp} (h : rdS g W (asgD tg te) D σ H) : tAsg (rd g W te) G D σ H := by
  obtain ⟨F, f, R, ρ, S, s, e, h⟩ := h
  refine rS s e h fun v F1 f1 S1 H1 x e1 s1 en1 r1 h1 => ?_
  cases q : tgt tg v ρ with
  | none => rw [q] at h1; exact h1.elim
  | some ρ1 =>
    rw [q] at h1
    exact hG F1 f1 R S1 H1 σ ρ ρ1 x v _ s1 en1 r1 q fun σ1 e2 _ => h1.nx s1 e2
theorem sd_asg {tg : Expr} {tgd : Tg} {G : TG} (hG : TgR g tgd G) (he : PE X e (rd g W te)) (hg : PG X tg G) (hs : swapsWithSole [tg] e pos.line X.env = pure false) (hw : swappedStores [tg] e X.env = pure none) (hn : nstar tg = true) :
    PS X (.Assign [tg] e pos) (rdS g W (asgD tgd te)) := (ps_asg he hg hs hw (by rw [asg_cons hn]; rfl)).imp fun D σ H h => asg_rd hG h
theorem sd_set {i : Nat} {x : Str} {p' : Pos} (hN : X.N.Nodup) (hi : X.N[i]? = some x) (hx : Loc X.env.scope x) (he : PE X e (rd g W te)) (hs : swapsWith e (some (.Name x p')) pos.line X.env = pure false) (hf : X.fn x = true ∨ X.env.scope.names.lookup x = some .local) :
    PS X (.Assign [.Name x p'] e pos) (rdS g W (asgD (.nm i) te)) := (ps_set hN hi hx he hs hf).imp fun D σ H h => asg_rd tgr_nm h
theorem sd_setLc {i : Nat} {y : Str} {py spos : Pos} {m : Bool} {it : TD Itm} {tgd : Tg} {G : TG} {cond : TD Bool} {td : TD Val} {elt tg iter : Expr} {ifs : List Expr} {scope : Scope} {own : List (Str × Nat)}
    (hc : X.calm = true) (hN : X.N.Nodup) (hy : X.N[i]? = some y) (hyl : X.env.scope.names.lookup y = some .local)
    (hsw : swapsWith (.ListComp elt [⟨tg, iter, ifs, 0⟩] scope pos) (some (.Name y py)) spos.line X.env = pure true) (hi : PI X tg iter (rdI g W it)) (ok : BlkOk X.N X.env.scope scope own) (hG : TgR g tgd G) (hix : ∀ i ∈ tgd.ix, i ∈ own.map (·.2))
    (hg : ∀ (s : Shared) (H : Hp) (C : Addr) (cl : List (Str × Addr)) (fp : List Addr), PG (X.blk s H scope (compEnvC scope cl C X.env) fp) tg G) (ht : ∀ (s : Shared) (H : Hp) (C : Addr) (cl : List (Str × Addr)) (fp : List Addr), PTs (X.blk s H scope (compEnvC scope cl C X.env) fp) ifs (rdT g W0 cond))
    (he : ∀ (s : Shared) (H : Hp) (C : Addr) (cl : List (Str × Addr)) (fp : List Addr), PE (X.blk s H scope (compEnvC scope cl C X.env) fp) elt (rd g W0 td)) (hs : ∀ x, foldedSetIterable iter X.env x = pure x) :
    PS X (.Assign [.Name y py] (.ListComp elt [⟨tg, iter, ifs, 0⟩] scope pos) spos) (rdS g W (asgD (.nm i) (dLc m it (own.map (·.2)) tgd cond td))) :=
  (ps_setLc hc hN hy hyl hsw hi ok hg ht he hs).imp fun D σ H ⟨F, f, R, ρ, S, s, e, h⟩ => by
    have h2 := asg_rd (W := W) tgr_nm ⟨F, f, R, ρ, S, s, e, h⟩
    exact lc_rd hG hix h2
/-- a, b = x, y -/
def parS (is : List Nat) (t : TD (List Val)) : SD := fun ρ S => (t ρ S).s ρ fun vs S1 => if vs.length = is.length then .next (parD is vs ρ) S1 else .stuck
theorem sd_par {i j : Nat} {x y : Str} {t : TD (List Val)} {px py pt : Pos} {kt k2 pt2} (hc : X.calm = true) (hN : X.N.Nodup) (hi : X.N[i]? = some x) (hj : X.N[j]? = some y) (hij : i ≠ j)
    (hx : X.env.scope.names.lookup x = some .local) (hy : X.env.scope.names.lookup y = some .local) (ha : PA X [a, b] (rdA g W t))
    (hw : swappedStores [.Tuple [.Name x px, .Name y py] kt pt] (.Tuple [a, b] k2 pt2) X.env = pure (some [x, y])) :
    PS X (.Assign [.Tuple [.Name x px, .Name y py] kt pt] (.Tuple [a, b] k2 pt2) pos) (rdS g W (parS [i, j] t)) := (ps_par hc hN hi hj hij hx hy ha hw).imp fun D σ H ⟨F, f, R, ρ, S, s, e, h⟩ =>
  rS s e h fun vs F1 f1 S1 H1 xs e1 s1 en1 r1 h1 => by
    split at h1
    · cases r1 with
      | nil => rename_i hl; cases hl
      | cons p1 q1 => cases q1 with
        | nil => rename_i hl; cases hl
        | cons p2 q2 => cases q2 with
          | nil => exact ⟨_, _, rfl, h1.nx s1 ((en1.set i p1).set j p2)⟩
          | cons p3 q3 => rename_i hl; simp at hl
    · exact h1.elim
theorem sd_par3 {i j l : Nat} {x y z : Str} {t : TD (List Val)} {px py pz pt : Pos} {kt k2 pt2} (hc : X.calm = true) (hN : X.N.Nodup) (hi : X.N[i]? = some x) (hj : X.N[j]? = some y) (hl : X.N[l]? = some z) (hij : i ≠ j) (hil : i ≠ l) (hjl : j ≠ l)
    (hx : X.env.scope.names.lookup x = some .local) (hy : X.env.scope.names.lookup y = some .local) (hz : X.env.scope.names.lookup z = some .local) (ha : PA X [a, b, c] (rdA g W t))
    (hw : swappedStores [.Tuple [.Name x px, .Name y py, .Name z pz] kt pt] (.Tuple [a, b, c] k2 pt2) X.env = pure (some [x, y, z])) :
    PS X (.Assign [.Tuple [.Name x px, .Name y py, .Name z pz] kt pt] (.Tuple [a, b, c] k2 pt2) pos) (rdS g W (parS [i, j, l] t)) := (ps_par3 hc hN hi hj hl hij hil hjl hx hy hz ha hw).imp fun D σ H ⟨F, f, R, ρ, S, s, e, h⟩ =>
  rS s e h fun vs F1 f1 S1 H1 xs e1 s1 en1 r1 h1 => by
    split at h1
    · cases r1 with
      | nil => rename_i hl; cases hl
      | cons p1 q1 => cases q1 with
        | nil => rename_i hl; cases hl
        | cons p2 q2 => cases q2 with
          | nil => rename_i hl; cases hl
          | cons p3 q3 => cases q3 with
            | nil => exact ⟨_, _, _, rfl, h1.nx s1 (((en1.set i p1).set j p2).set l p3)⟩
            | cons p4 q4 => rename_i hl; simp at hl
    · exact h1.elim
/-- o[i] = e -/
def setS (te to ti : TD Val) : SD := fun ρ S => ((te ρ S).bind fun w S1 => (to ρ S1).bind fun v S2 => (ti ρ S2).bind fun u S3 => setV v u w S3).s ρ fun _ S4 => .next ρ S4
theorem Sat.sbind {α β : Type} {F : Hp} {f : List Addr} {R : Rs} {S : Store} {o : Out α} {φ : α → Store → Out β} {k : β → Store → SOut} {ρ : EnvD} {D : Ends} : SatS g F f R W ((o.bind φ).s ρ k) D → SatS g F f R W (o.s ρ fun a S => (φ a S).s ρ k) D := by
  intro h
  cases o with
  | ok a S => exact h
  | err x S => exact h
  | stuck => exact h
theorem sd_seti {o i : Expr} {to ti : TD Val} {p : Pos} (ho : PE X o (rd g W to)) (hi : PE X i (rd g W ti)) (he : PE X e (rd g W te)) (hs : swapsWithSole [.Subscript o i p] e pos.line X.env = pure false) (hw : swappedStores [.Subscript o i p] e X.env = pure none)
    (ha : ∀ v, assign (.Subscript o i p) X.env v = (do
      let ov ← holding [v] (eval o X.env)
      let iv ← holding [v, ov] (eval i X.env)
      standAt p
      holding [v, ov, iv] (setItem ov iv v)
      release [v, ov, iv] [])) : PS X (.Assign [.Subscript o i p] e pos) (rdS g W (setS te to ti)) :=
  (ps_asg he (pg_sub ho hi set_list ha) hs hw rfl).imp fun D σ H ⟨F, f, R, ρ, S, s, e, h⟩ => by
    refine rS s e (Sat.sbind (S := S) h) fun w F1 f1 S1 H1 z e1 s1 en1 r1 h1 => ?_
    refine rS s1 en1 (Sat.sbind (S := S) h1) fun v F2 f2 S2 H2 x e2 s2 en2 r2 h2 => ?_
    refine rS s2 en2 (Sat.sbind (S := S) h2) fun u F3 f3 S3 H3 y e3 s3 en3 r3 h3 => ?_
    exact real_set s3 (r2.sub e3) r3 ((r1.sub e2).sub e3) ((S_of h3 en3).imp fun _ F4 f4 S4 H4 e4 s4 _ h4 => h4.nx s4 (en3.sub e4))
/-! ### loops -/
theorem sd_for {tg iter : Expr} {tgd : Tg} {G : TG} {it : TD Itm} (hp : PassesOwn (model X.prog X.w) X.A X.env X.xe) (hc : X.calm = true) (hG : TgR g tgd G) (hi : PI X tg iter (rdI g W it)) (hg : PG X tg G) (hb : PSs X sa (rdS g W t))
    (hs : ∀ x, foldedSetIterable iter X.env x = pure x) : PS X (.For tg iter sa [] pos) (rdS g W fun ρ S => (it ρ S).s ρ fun w S1 => forD w tgd t w.vs ρ S1) :=
  (ps_for hp hc hi hg hb hs).imp fun D σ H ⟨F, f, R, ρ, S, s, e, h⟩ => by
    refine ⟨F, f, R, ρ, S, s, e, (S_of h e).imp fun w F1 f1 S1 H1 x1 s1 _ h1 J hJ => ?_⟩
    refine ⟨fun i k σ H => k = w.vs.length - i ∧ i ≤ w.vs.length ∧ ∃ F2 f2 S2 ρ2, Ext F1 f1 F2 f2 ∧ Sm g F2 f2 R S2 H ∧ En g F2 f2 ρ2 σ ∧ SatS g F2 f2 R W (forD w tgd t (w.vs.drop i) ρ2 S2) D,
      ⟨w.vs.length, by simp, Nat.zero_le _, F1, f1, S1, ρ, Ext.refl _ _, s1, e.sub x1, by simpa using h1⟩, ?_⟩
    rintro i k σ2 H2 ⟨rfl, hi', F2, f2, S2, ρ2, x2, s2, e2, q2⟩
    by_cases hlt : i < w.vs.length
    · refine .inr ?_
      rw [List.drop_eq_getElem_cons hlt] at q2
      unfold forD at q2
      split at q2
      · rename_i hck
        obtain ⟨j1, j2⟩ := hJ R i F2 f2 S2 H2 x2 s2 hck
        obtain ⟨go, yl⟩ := j1 w.vs[i] (List.getElem?_eq_getElem hlt)
        split at q2
        · rename_i ρ1 ht
          refine ⟨go, _, fun σ' H' n' => ⟨w.vs.length - (i + 1), by omega, n'⟩, fun x H3 y3 => ?_⟩
          obtain ⟨F3, x3, s3, r3⟩ := yl x H3 y3
          refine hG F3 f2 R S2 H3 _ _ ρ1 x _ _ s3 (e2.sub x3) r3 ht fun σ1 e4 _ => ⟨F3, f2, R, ρ1, S2, s3, e4, ?_⟩
          have nx : ∀ {ρ5 : EnvD} {S5 : Store}, SatS g F2 f2 R W (forD w tgd t (w.vs.drop (i + 1)) ρ5 S5) D → ∀ F' f' σ' H', Ext F3 f2 F' f' → Sm g F' f' R S5 H' → En g F' f' ρ5 σ' →
              w.vs.length - (i + 1) = w.vs.length - (i + 1) ∧ i + 1 ≤ w.vs.length ∧ ∃ F2 f2 S2 ρ2, Ext F1 f1 F2 f2 ∧ Sm g F2 f2 R S2 H' ∧ En g F2 f2 ρ2 σ' ∧ SatS g F2 f2 R W (forD w tgd t (w.vs.drop (i + 1)) ρ2 S2) D :=
            fun {ρ5 S5} q F' f' σ' H' x5 s5 e5 => ⟨rfl, hlt, F', f', S5, ρ5, x2.trans (x3.trans x5), s5, e5, q.step (x3.trans x5)⟩
          cases eqb : t ρ1 S2 with
          | next ρ5 S5 => rw [eqb] at q2; exact nx q2
          | cont ρ5 S5 => rw [eqb] at q2; exact nx q2
          | brk ρ5 S5 => rw [eqb] at q2; exact fun F' f' σ' H' x5 s5 e5 => q2 F' f' σ' H' (x3.trans x5) s5 e5
          | ret v S5 => rw [eqb] at q2; exact fun F' f' H' x x5 s5 r5 => q2 F' f' H' x (x3.trans x5) s5 r5
          | err v ρ5 S5 => rw [eqb] at q2; exact fun F' f' σ' H' C d x5 s5 e5 r5 => q2 F' f' σ' H' C d (x3.trans x5) s5 e5 r5
          | stuck => rw [eqb] at q2; exact q2
        · exact q2.elim
      · exact q2.elim
    · have ei : i = w.vs.length := by omega
      subst ei
      rw [List.drop_length] at q2
      unfold forD at q2
      split at q2
      · rename_i hck
        obtain ⟨_, j2⟩ := hJ R w.vs.length F2 f2 S2 H2 x2 s2 hck
        exact .inl ⟨j2 (Nat.le_refl _), q2.nx s2 e2⟩
      · exact q2.elim
theorem sd_whl {n : Nat} (hp : PassesOwn (model X.prog X.w) X.A X.env X.xe) (hc : PT X c (rdT g W tc)) (hb : PSs X sa (rdS g W t)) : PS X (.While c sa [] pos) (rdS g W fun ρ S => whlD tc t n ρ S) :=
  (ps_while hp hc hb).imp fun D σ H ⟨F, f, R, ρ, S, s, e, h⟩ => by
    refine ⟨fun m σ H => ∃ F f R ρ S, Sm g F f R S H ∧ En g F f ρ σ ∧ SatS g F f R W (whlD tc t m ρ S) D, ⟨n, F, f, R, ρ, S, s, e, h⟩, ?_⟩
    rintro m σ2 H2 ⟨F2, f2, R2, ρ2, S2, s2, e2, q2⟩
    cases m with
    | zero => exact q2.elim
    | succ m =>
      refine rS s2 e2 q2 fun k F3 f3 S3 H3 x e3 s3 en3 r3 h3 => ?_
      subst r3
      by_cases hk : x = true
      · rw [if_pos hk] at h3 ⊢
        refine ⟨_, fun σ' H' n' => ⟨m, Nat.lt_succ_self m, n'⟩, F3, f3, R2, ρ2, S3, s3, en3, ?_⟩
        cases eqb : t ρ2 S3 with
        | next ρ5 S5 => rw [eqb] at h3; exact fun F' f' σ' H' x5 s5 e5 => ⟨F', f', R2, ρ5, S5, s5, e5, SatS.step (o := whlD tc t m ρ5 S5) h3 x5⟩
        | cont ρ5 S5 => rw [eqb] at h3; exact fun F' f' σ' H' x5 s5 e5 => ⟨F', f', R2, ρ5, S5, s5, e5, SatS.step (o := whlD tc t m ρ5 S5) h3 x5⟩
        | brk ρ5 S5 => rw [eqb] at h3; exact h3
        | ret v S5 => rw [eqb] at h3; exact h3
        | err v ρ5 S5 => rw [eqb] at h3; exact h3
        | stuck => rw [eqb] at h3; exact h3
      · rw [if_neg hk] at h3 ⊢
        exact h3.nx s3 en3
end
/-! ### keyword calls -/
/-- how n positional values and keywords named ks are bound -/
def pickG {α : Type} (gs : List Nat) (l : List α) : Option (List α) := gs.mapM fun i => l[i]?
def KwB (K : PySem.W.Frag) (fd : FuncData) (ps : List Str) (n : Nat) (ks : List Str) (gs : List Nat) : Prop := ∀ (s : Shared) (us ws : List Value), K.In s.heap → us.length = n → ws.length = ks.length →
  ∃ zs, pickG gs (us ++ ws) = some zs ∧ BindsTo s fd ⟨us, ks.zip ws⟩ (ps.zip zs)
theorem pick_nil {α : Type} (l : List α) : pickG [] l = some [] := rfl
theorem pick_cons {α : Type} (i : Nat) (gs : List Nat) (l : List α) : pickG (i :: gs) l = (l[i]?).bind fun x => (pickG gs l).map (x :: ·) := by
  show List.mapM _ (i :: gs) = _
  rw [List.mapM_cons]
  cases l[i]? with
  | none => rfl
  | some x =>
    show (do let r ← List.mapM (fun i => l[i]?) gs; pure (x :: r)) = _
    cases h : List.mapM (fun i => l[i]?) gs with
    | none => simp [pickG, h]
    | some r => simp [pickG, h]
theorem pick_vrs {g : Gc} {F : Hp} {f : List Addr} {xs : List V} {vs : List Val} (r : VRs g F f xs vs) : ∀ {gs : List Nat} {ws : List Val}, pickG gs vs = some ws → ∃ ys, pickG gs xs = some ys ∧ VRs g F f ys ws
  | [], _, h => by cases h; exact ⟨[], rfl, .nil⟩
  | i :: gs, ws, h => by
    rw [pick_cons] at h
    cases e : vs[i]? with
    | none => rw [e] at h; cases h
    | some v =>
      rw [e] at h
      cases e2 : pickG gs vs with
      | none => rw [e2] at h; cases h
      | some l =>
        rw [e2] at h
        cases h
        obtain ⟨x, q1, q2⟩ := r.get e
        obtain ⟨ys, q3, q4⟩ := pick_vrs r e2
        exact ⟨x :: ys, by rw [pick_cons, q1, q3]; rfl, .cons q2 q4⟩
theorem pick_vals {xs : List V} {us : List Value} (r : Vals xs us) : ∀ {gs : List Nat} {ys : List V} {zs : List Value}, pickG gs xs = some ys → pickG gs us = some zs → Vals ys zs
  | [], _, _, h, h2 => by cases h; cases h2; exact .nil
  | i :: gs, ys, zs, h, h2 => by
    rw [pick_cons] at h h2
    cases e : xs[i]? with
    | none => rw [e] at h; cases h
    | some v =>
      obtain ⟨u, q1, q2⟩ := r.get e
      rw [e] at h; rw [q1] at h2
      cases e2 : pickG gs xs with
      | none => rw [e2] at h; cases h
      | some l =>
        cases e3 : pickG gs us with
        | none => rw [e3] at h2; cases h2
        | some l2 =>
          rw [e2] at h; rw [e3] at h2
          cases h; cases h2
          exact .cons q2 (pick_vals r e2 e3)
section
variable {X : Cx} {g : Gc} {W : WX} {a : Expr} {es : List Expr} {kws : List Keyword} {t tk : TD (List Val)} {pos p : Pos} {x : Str}
theorem pk_nilD : PK X [] (rdA g W fun _ S => .ok [] S) := ⟨fun pos pins s σ H Q I ⟨F, f, R, ρ, S, sm, e, h⟩ => pk_nil.run pos pins s σ H Q I (h.ok sm [] .nil)⟩
theorem pk_consD {ta : TD Val} {nm : Option Str} {kpos : Pos} (ha : PE X a (rd g W ta)) (hr : PK X kws (rdA g W t)) : PK X (⟨nm, a, kpos⟩ :: kws) (rdA g W (consD ta t)) :=
  ⟨fun pos pins s σ H Q I ⟨F, f, R, ρ, S, sm, e, h⟩ => (pk_cons ha hr).run pos pins s σ H Q I (rd_bind sm e h fun v F1 f1 S1 H1 x e1 s1 en1 r1 h1 => rd_bind s1 en1 h1 fun vs F2 f2 S2 H2 xs e2 s2 en2 r2 h2 => h2.ok s2 _ (.cons (r1.sub e2) r2))⟩
def kwNm : List Keyword → Option (List Str)
  | [] => some []
  | ⟨some n, _, _⟩ :: r => (kwNm r).map (n :: ·)
  | _ => none
theorem kw_facts {pos : Pos} {env : Env} : ∀ {kws : List Keyword} {ks : List Str}, kwNm kws = some ks → (backToKw pos (keywordEach kws env)).all (·.1.isSome) = true ∧ (backToKw pos (keywordEach kws env)).filterMap (·.1) = ks ∧
    (backToKw pos (keywordEach kws env)).any (·.1.isNone) = false
  | [], _, h => by cases h; exact ⟨rfl, rfl, rfl⟩
  | ⟨none, _, _⟩ :: r, _, h => by cases h
  | ⟨some n, v, q⟩ :: r, ks, h => by
    unfold kwNm at h
    cases e : kwNm r with
    | none => rw [e] at h; cases h
    | some l =>
      rw [e] at h
      cases h
      obtain ⟨h1, h2, h3⟩ := kw_facts (pos := pos) (env := env) e
      refine ⟨h1, ?_, h3⟩
      show List.filterMap _ (_ :: _) = _
      rw [List.filterMap_cons]
      show n :: _ = _
      exact congrArg _ h2
theorem run_fnGK {k n : Nat} {fa : Addr} {fd : FuncData} {ps ks : List Str} {gs : List Nat} {sp : Sp} {E : L2.St → XK} {pins : List (Addr × Obj)} {σ : L2.St} {H : Hp} {s : Shared} {Q : VK} {us ws : List Value} {vs zs ys : List V} (Fn : FnG X.prog X.w X.K X.mg X.base k fa fd ps sp)
    (hr : Room k X.A) (hgd : X.A.guards = some []) (hb : KwB X.K fd ps n ks gs) (hx : PassesAt (L2.CX X.prog X.w) X σ (E σ)) (l1 : us.length = n) (l2 : ws.length = ks.length)
    (I : Inv X pins σ H s) (r : Vals vs us) (rz : Vals zs ws) (hy : pickG gs (vs ++ zs) = some ys) (h : sp ys H Q (E σ)) : wpAny (model X.prog X.w) X.A (call (.ref fa) us (ks.zip ws)) (EP X pins σ Q) X.xe s := by
  obtain ⟨qs, q1, b⟩ := hb s us ws I.kIn l1 l2
  have r2 : Vals ys qs := pick_vals (r.append rz) hy q1
  refine wpAny_call (codeAny_mono (Fn.run X.A X.stack s H ⟨us, ks.zip ws⟩ qs ys Q (E σ) hr hgd I.env0 b r2 h) fun r s' hq => ?_)
  cases r with
  | error e => exact hx pins H s e s' I hq
  | ok fl =>
    cases fl with
    | ret u => exact I.after hq
    | next => exact False.elim hq
    | brk => exact False.elim hq
    | cont => exact False.elim hq
variable {C : Calls} {k n m : Nat} {fa : Addr} {fd : FuncData} {ps ks : List Str} {gs : List Nat}
theorem kall_rd {ρ : EnvD} {S : Store} {σ : L2.St} {H : Hp} {Q : VK} {F : Hp} {f : List Addr} {R : Rs} (hl : gs.length = ps.length) (ht : ∀ ρ S vs S', t ρ S = .ok vs S' → vs.length = m) (htk : ∀ ρ S vs S', tk ρ S = .ok vs S' → vs.length = ks.length)
    (sm : Sm g F f R S H) (e : En g F f ρ σ) (h : Sat g F f R (fun C d H' => W C d σ H') (dKall C k gs t tk ρ S) fun v F' f' S' H' => ∀ x, VR g F' f' x v → Q x H') :
    rdA g W t σ H fun vs H1 => vs.length = m ∧ rdA g W tk σ H1 fun zs H2 => zs.length = ks.length ∧ ∃ ys, pickG gs (vs ++ zs) = some ys ∧ spD g C k ps.length ys H2 Q (WE W σ) := by
  refine ⟨F, f, R, ρ, S, sm, e, h.bind.imp fun vs F1 f1 S1 H1 e1 s1 h1 q xs rx => ⟨by rw [rx.len]; exact ht _ _ _ _ h1, F1, f1, R, ρ, S1, s1, e.sub e1, q.bind.imp fun us F2 f2 S2 H2 e2 s2 h2 q2 zs rz => ⟨by rw [rz.len]; exact htk _ _ _ _ h2, ?_⟩⟩⟩
  cases hp : pick gs (vs ++ us) with
  | none => rw [hp] at q2; exact q2.elim
  | some ws =>
    rw [hp] at q2
    obtain ⟨ys, q3, q4⟩ := pick_vrs ((rx.sub e2).append rz) hp
    have pl : ∀ {gs : List Nat} {ws : List Val}, pickG gs (vs ++ us) = some ws → ws.length = gs.length := by
      intro gs
      induction gs with
      | nil => intro ws h; cases h; rfl
      | cons i gs ih =>
        intro ws h
        rw [pick_cons] at h
        cases e : (vs ++ us)[i]? with
        | none => rw [e] at h; cases h
        | some v =>
          rw [e] at h
          cases e2 : pickG gs (vs ++ us) with
          | none => rw [e2] at h; cases h
          | some l => rw [e2] at h; cases h; simp [ih e2]
    exact ⟨ys, q3, F2, f2, R, S2, ws, s2, q4, (pl hp).trans hl, q2⟩
theorem pd_kall (Fn : FnG X.prog X.w X.K X.mg X.base n fa fd ps (spD g C k ps.length)) (hr : Room n X.A) (hgd : X.A.guards = some []) (hg : Gl X x) (hm : X.mg x = some (.ref fa))
    (hk : PySem.W.keepIn X.K (.ref fa) = true) (hb : KwB X.K fd ps m ks gs) (tke : Takes X W) (ha : PA X (a :: es) (rdA g W t)) (hkw : PK X kws (rdA g W tk)) (hl : gs.length = ps.length) (ht : ∀ ρ S vs S', t ρ S = .ok vs S' → vs.length = m) (htk : ∀ ρ S vs S', tk ρ S = .ok vs S' → vs.length = ks.length)
    (hn : kwNm kws = some ks) (hdb : (x == ("__debug__" : Str)) = false) (hs : (a :: es).all nstar = true) : PE X (.Call (.Name x p) (a :: es) kws pos) (rd g W (dKall C k gs t tk)) := by
  have hs0 := hs
  rw [List.all_cons, Bool.and_eq_true] at hs
  obtain ⟨k1, k2, k3⟩ := kw_facts (pos := pos) (env := X.env) hn
  refine ⟨fun pins s σ H Q I ⟨F, f, R, ρ, S, sm, e, h⟩ => ?_⟩
  have h2 := kall_rd hl ht htk sm e h
  refine wpAny_Call_Name_kw (ld_glob I hg hm ?_ hdb)
  refine PySem.W.callWith_KW (h₀ := X.base) I.ok.mod.kin hk k1 (thn (ha.run pos pins s σ H _ I h2) fun us s1 ⟨vs, H1, I1, r, l1, q⟩ => ?_) (by rw [star_any hs0, k3] <;> rfl) (star_cons hs.1)
  refine thn (hkw.run pos pins s1 σ H1 _ I1 q) fun ws s2 ⟨zs, H2, I2, rz, l2, ys, hy, q2⟩ => ⟨I2.kIn, ?_⟩
  rw [k2]
  exact run_fnGK (E := WE W) Fn hr hgd hb (passAt tke σ) (r.length.symm.trans l1) (rz.length.symm.trans l2) I2 r rz hy q2
theorem pd_kall0 (Fn : FnG X.prog X.w X.K X.mg X.base n fa fd ps (spD g C k ps.length)) (hr : Room n X.A) (hgd : X.A.guards = some []) (hg : Gl X x) (hm : X.mg x = some (.ref fa))
    (hk : PySem.W.keepIn X.K (.ref fa) = true) (hb : KwB X.K fd ps 0 ks gs) (tke : Takes X W) (hkw : PK X kws (rdA g W tk)) (hl : gs.length = ps.length) (htk : ∀ ρ S vs S', tk ρ S = .ok vs S' → vs.length = ks.length)
    (hn : kwNm kws = some ks) (hdb : (x == ("__debug__" : Str)) = false) : PE X (.Call (.Name x p) [] kws pos) (rd g W (dKall C k gs (fun _ S => .ok [] S) tk)) := by
  obtain ⟨k1, k2, k3⟩ := kw_facts (pos := pos) (env := X.env) hn
  refine ⟨fun pins s σ H Q I ⟨F, f, R, ρ, S, sm, e, h⟩ => ?_⟩
  have h2 := kall_rd (m := 0) hl (fun _ _ vs _ q => by cases q; rfl) htk sm e h
  refine wpAny_Call_Name_kw (ld_glob I hg hm ?_ hdb)
  refine PySem.W.callWith_KW0 (h₀ := X.base) I.ok.mod.kin hk k1 ?_ (by rw [k3] <;> rfl)
  have h3 : rdA g W tk σ H fun zs H2 => zs.length = ks.length ∧ ∃ ys, pickG gs ([] ++ zs) = some ys ∧ spD g C k ps.length ys H2 Q (WE W σ) := by
    obtain ⟨F2, f2, R2, ρ2, S2, sm2, e2, q⟩ := h2
    exact (q.ok sm2 [] .nil).2
  refine thn (hkw.run pos pins s σ H _ I h3) fun ws s2 ⟨zs, H2, I2, rz, l2, ys, hy, q2⟩ => ⟨I2.kIn, ?_⟩
  rw [k2]
  exact run_fnGK (E := WE W) (us := []) Fn hr hgd hb (passAt tke σ) rfl (rz.length.symm.trans l2) I2 .nil rz hy q2
end
/-! ### a def's body -/
theorem Sm.cut {g : Gc} {F : Hp} {f : List Addr} {R : Rs} {S : Store} {H : Hp} (s : Sm g F f R S H) (n : Nat) : Sm g F (f.take n) R (S.take n) H := by
  refine ⟨s.le, fun a ha => s.nof a (List.mem_of_mem_take ha), s.nd.sublist (List.take_sublist _ _), by simp [s.len], fun m ob a h1 h2 => ?_, fun q hq => let ⟨e1, e2, e3⟩ := s.res q hq; ⟨e1, e2, fun z => e3 (List.mem_of_mem_take z)⟩⟩
  rw [List.getElem?_take] at h1 h2
  split at h1
  · rename_i hm
    rw [if_pos hm] at h2
    exact s.st m ob a h1 h2
  · cases h1
theorem Ext.cut {F F' : Hp} {f f' : List Addr} (e : Ext F f F' f') : f'.take f.length = f := by
  refine List.ext_getElem? fun i => ?_
  rw [List.getElem?_take]
  split
  · rename_i h
    rw [e.pre i f[i] (List.getElem?_eq_getElem h), List.getElem?_eq_getElem h]
  · rename_i h
    rw [List.getElem?_eq_none (by omega)]
/-- all that was made since is frozen -/
theorem Sm.settle {g : Gc} {F : Hp} {f f0 : List Addr} {R : Rs} {S : Store} {H : Hp} (s : Sm g F f R S H) (n : Nat) (hf : f.take n = f0) (hn : n = f0.length) : ∃ F', (∀ b u, F b = some u → F' b = some u) ∧ Sm g F' f0 R (S.take n) H ∧
    ∀ m xs a, n ≤ m → S[m]? = some (.lst xs) → f[m]? = some a → Da g.K F' (.ref a) (.list xs) := by
  classical
  let F' : Hp := fun b => if b ∈ f.drop n then H b else F b
  have nin : ∀ b, b ∈ f.drop n → F b = none := fun b hb => s.nof b (List.mem_of_mem_drop hb)
  have ext : ∀ b u, F b = some u → F' b = some u := fun b u e => by
    show (if b ∈ f.drop n then H b else F b) = some u
    rw [if_neg fun z => by rw [nin b z] at e; cases e]
    exact e
  have dis : ∀ b ∈ f0, b ∉ f.drop n := fun b hb hd => by
    have nd := s.nd
    rw [← List.take_append_drop n f, hf] at nd
    exact (List.nodup_append.mp nd).2.2 b hb b hd rfl
  refine ⟨F', ext, ⟨fun a u e => ?_, fun a ha => ?_, ?_, ?_, fun m ob a h1 h2 => ?_, fun q hq => ?_⟩, fun m xs a hm h1 h2 => ?_⟩
  · have e : (if a ∈ f.drop n then H a else F a) = some u := e
    split at e
    · exact e
    · exact s.le a u e
  · show (if a ∈ f.drop n then H a else F a) = none
    rw [if_neg (dis a ha)]
    exact s.nof a (by rw [← hf] at ha; exact List.mem_of_mem_take ha)
  · rw [← hf]; exact s.nd.sublist (List.take_sublist _ _)
  · rw [← hf, List.length_take, List.length_take, s.len]
  · have q := (s.cut n).st m ob a h1 (by rw [hf]; exact h2)
    cases ob with
    | lst ds => obtain ⟨xs, q1, q2⟩ := q; exact ⟨xs, q1, DaAll.sub ext q2⟩
  · obtain ⟨e1, e2, e3⟩ := s.res q hq
    refine ⟨e1, ?_, fun z => e3 (by rw [← hf] at z; exact List.mem_of_mem_take z)⟩
    show (if q.1 ∈ f.drop n then H q.1 else F q.1) = none
    rw [if_neg fun z => e3 (List.mem_of_mem_drop z)]
    exact e2
  · obtain ⟨ys, q1, q2⟩ := s.st m _ a h1 h2
    refine .lst (.inl ?_) (DaAll.sub ext q2)
    show (if a ∈ f.drop n then H a else F a) = some _
    have hd : a ∈ f.drop n := by
      have : (f.drop n)[m - n]? = some a := by
        rw [List.getElem?_drop]
        rw [show n + (m - n) = m by omega]
        exact h2
      exact List.mem_of_getElem? this
    rw [if_pos hd]
    exact q1
theorem els_settle {g : Gc} {F F' : Hp} {f : List Addr} {S : Store} {n : Nat} (hF : ∀ b u, F b = some u → F' b = some u) (hd : ∀ m xs a, n ≤ m → S[m]? = some (.lst xs) → f[m]? = some a → Da g.K F' (.ref a) (.list xs)) :
    ∀ {es : List El} {xs : List V} {ds : List PyData}, ElRs g F f xs es → es.all (newEl n) = true → elsD S es = some ds → DaAll g.K F' xs ds
  | [], _, _, .nil, _, e => by cases e; exact .nil
  | .d x :: es, _, _, .cons r t, ha, e => by
    rw [List.all_cons, Bool.and_eq_true] at ha
    unfold elsD at e
    cases q : elsD S es with
    | none => rw [q] at e; cases e
    | some l => rw [q] at e; cases e; exact .cons (Da.sub hF r) (els_settle hF hd t ha.2 q)
  | .loc m :: es, _, _, .cons r t, ha, e => by
    rw [List.all_cons, Bool.and_eq_true] at ha
    unfold elsD at e
    split at e
    · rename_i zs hS
      cases q : elsD S es with
      | none => rw [q] at e; cases e
      | some l =>
        rw [q] at e; cases e
        obtain ⟨a, h1, rfl⟩ := r
        exact .cons (hd m _ a (of_decide_eq_true ha.1) hS h1) (els_settle hF hd t ha.2 q)
    · cases e
theorem old_loc {g : Gc} {F : Hp} {f : List Addr} {n m : Nat} : ∀ {es es' : List El} {xs : List V}, ElRs g F f xs es → es.all (newEl n) = true → oldLoc n es = some (m, es') → n ≤ m ∧ ∃ a, f[m]? = some a ∧ ∀ F' f', (∀ b u, F b = some u → F' b = some u) → f'[n]? = some a → ElRs g F' f' xs es'
  | [], _, _, _, _, e => by cases e
  | .d x :: es, _, _, .cons r t, ha, e => by
    rw [List.all_cons, Bool.and_eq_true] at ha
    unfold oldLoc at e
    cases q : oldLoc n es with
    | none => rw [q] at e; cases e
    | some p =>
      rw [q] at e
      cases e
      obtain ⟨h1, a, h2, h3⟩ := old_loc (m := p.1) (es' := p.2) t ha.2 q
      exact ⟨h1, a, h2, fun F' f' e1 e2 => .cons (v := .d x) (Da.sub e1 r) (h3 F' f' e1 e2)⟩
  | .loc k :: es, _, _, .cons r t, ha, e => by
    rw [List.all_cons, Bool.and_eq_true] at ha
    unfold oldLoc at e
    split at e
    · rename_i hz
      cases e
      obtain ⟨a, h1, rfl⟩ := r
      refine ⟨of_decide_eq_true ha.1, a, h1, fun F' f' e1 e2 => .cons (v := .loc n) ⟨a, e2, rfl⟩ (all_d t hz e1)⟩
    · cases e
  where all_d {F' : Hp} {f' : List Addr} : ∀ {es : List El} {xs : List V}, ElRs g F f xs es → allD es = true → (∀ b u, F b = some u → F' b = some u) → ElRs g F' f' xs es
    | [], _, .nil, _, _ => .nil
    | .d x :: es, _, .cons r t, h, e => .cons (v := .d x) (Da.sub e r) (all_d t (by simpa [allD] using h) e)
    | .loc _ :: _, _, _, h, _ => by simp [allD] at h
/-- one of the new ones stays, at the place behind the old ones -/
theorem Sm.keep1 {g : Gc} {F : Hp} {f f0 : List Addr} {R : Rs} {S : Store} {H : Hp} {m n : Nat} {a : Addr} {ob : Ob} (s : Sm g F f R S H) (hf : f.take n = f0) (hn : n = f0.length) (hm : n ≤ m) (hS : S[m]? = some ob) (ha : f[m]? = some a) :
    Sm g F (f0 ++ [a]) R (S.take n ++ [ob]) H ∧ (f0 ++ [a])[n]? = some a := by
  have s2 := s.cut n
  rw [hf] at s2
  have am : a ∈ f := List.mem_of_getElem? ha
  have an : a ∉ f0 := fun z => by
    rw [← hf] at z
    obtain ⟨j, hj, e⟩ := List.getElem_of_mem z
    rw [List.getElem_take] at e
    have hj2 : j < f.length := by simp at hj; omega
    have hj3 : j < n := by simp at hj; omega
    obtain ⟨h3, e3⟩ := List.getElem?_eq_some_iff.mp ha
    have := (List.getElem_inj s.nd).mp (e.trans e3.symm)
    omega
  refine ⟨⟨s.le, fun b hb => ?_, ?_, ?_, fun i ob' b z1 z2 => ?_, fun q hq => ?_⟩, by rw [hn]; simp⟩
  · rcases List.mem_append.mp hb with z | z
    · exact s2.nof b z
    · rw [List.mem_singleton.mp z]; exact s.nof a am
  · exact List.nodup_append.mpr ⟨s2.nd, by simp, fun b hb c hc => by rw [List.mem_singleton.mp hc]; exact fun z => an (z ▸ hb)⟩
  · rw [List.length_append, List.length_append, s2.len]; rfl
  · by_cases hi : i < f0.length
    · rw [List.getElem?_append_left (by rw [s2.len]; exact hi)] at z1
      rw [List.getElem?_append_left hi] at z2
      exact s2.st i ob' b z1 z2
    · rw [List.getElem?_append_right (by rw [s2.len]; omega), s2.len] at z1
      rw [List.getElem?_append_right (by omega)] at z2
      have hi0 : i - f0.length = 0 := by
        have := (List.getElem?_eq_some_iff.mp z2).1
        simp at this; omega
      rw [hi0] at z1 z2
      simp at z1 z2
      subst z1 z2
      exact s.st m _ _ hS ha
  · obtain ⟨e1, e2, e3⟩ := s.res q hq
    exact ⟨e1, e2, fun z => (List.mem_append.mp z).elim (fun z => by rw [← hf] at z; exact e3 (List.mem_of_mem_take z)) fun z => e3 (by rw [List.mem_singleton.mp z]; exact am)⟩
/-- the store behind a call -/
theorem back_of {mu : Bool} {g : Gc} {F F' : Hp} {f f' : List Addr} {R : Rs} {S S' : Store} {H' : Hp} {v : Val} {x : V} {W : WH} {Q : VK} (hl : S.length = f.length) (x1 : Ext F f F' f') (s : Sm g F' f' R S' H') (r : VR g F' f' x v)
    (h : Sat g F f R W (back mu S.length v S') fun v F' f' S' H' => ∀ x, VR g F' f' x v → Q x H') : Q x H' := by
  have s2 : Sm g F' f R (S'.take S.length) H' := by
    have := s.cut S.length
    rw [hl, x1.cut] at this
    rw [hl]; exact this
  have x2 : Ext F f F' f := ⟨x1.le, fun _ _ h => h⟩
  cases v with
  | d y => exact h F' f H' x2 s2 x r
  | fn k => exact h F' f H' x2 s2 x r
  | ls es => exact h.elim
  | tp es =>
    obtain ⟨a, xs, rfl, r1, r2⟩ := r
    unfold back at h
    dsimp only at h
    have fl : f'.take S.length = f := by rw [hl]; exact x1.cut
    split at h
    · rename_i hall
      split at h
      · split at h
        · rename_i m es' ho
          split at h
          · rename_i ob hS
            obtain ⟨hm, b, hb, hr⟩ := old_loc r2 hall ho
            obtain ⟨s3, e3⟩ := s.keep1 fl hl hm hS hb
            have x3 : Ext F f F' (f ++ [b]) := ⟨x1.le, fun n b e => by rw [List.getElem?_append_left (List.getElem?_eq_some_iff.mp e).1]; exact e⟩
            exact h F' (f ++ [b]) H' x3 s3 _ ⟨a, xs, rfl, r1, hr F' _ (fun _ _ z => z) e3⟩
          · exact h.elim
        · exact h.elim
      · split at h
        · rename_i ds hds
          obtain ⟨F2, q1, q2, q3⟩ := s.settle S.length fl hl
          exact h F2 f H' ⟨fun b u e => q1 b u (x1.le b u e), fun _ _ h => h⟩ q2 _ (Da.tup (SqT.sub q1 r1) (els_settle q1 q3 r2 hall hds))
        · exact h.elim
    · exact h.elim
  | loc m =>
    unfold back at h
    obtain ⟨a, q1, rfl⟩ := r
    dsimp only at h
    split at h
    · rename_i hm
      refine h F' f H' x2 s2 _ ⟨a, ?_, rfl⟩
      rw [← x1.cut, List.getElem?_take, if_pos (by omega)]
      exact q1
    · rename_i hm
      split at h
      · rename_i xs hS
        have fl : f'.take S.length = f := by rw [hl]; exact x1.cut
        have an : a ∉ f := fun ha => by
          rw [← fl] at ha
          obtain ⟨j, hj, e⟩ := List.getElem_of_mem ha
          rw [List.getElem_take] at e
          have hj2 : j < f'.length := by simp at hj; omega
          have hj3 : j < S.length := by simp at hj; omega
          obtain ⟨h3, e3⟩ := List.getElem?_eq_some_iff.mp q1
          have := (List.getElem_inj s.nd).mp (e.trans e3.symm)
          omega
        have am : a ∈ f' := List.mem_of_getElem? q1
        split at h
        rotate_left
        · obtain ⟨ys, hy1, hy2⟩ := s.st m _ a hS q1
          have fa : F' a = none := s.nof a am
          have x5 : ∀ b u, F' b = some u → upd F' a (.lst ys) b = some u := fun b u e => by rw [upd_ne (ne_of_none e fa)]; exact e
          have s5 : Sm g (upd F' a (.lst ys)) f R (S'.take S.length) H' := by
            refine ⟨fun b u e => ?_, fun b hb => ?_, s2.nd, s2.len, fun i ob b z1 z2 => ?_, fun q hq => ?_⟩
            · by_cases e2 : b = a
              · subst e2; rw [upd_same] at e; cases e; exact hy1
              · rw [upd_ne e2] at e; exact s.le b u e
            · rw [upd_ne (fun z => an (by rw [← z]; exact hb))]; exact s2.nof b hb
            · have z := s2.st i ob b z1 z2
              cases ob with
              | lst ds => obtain ⟨zs, w1, w2⟩ := z; exact ⟨zs, w1, DaAll.sub x5 w2⟩
            · obtain ⟨e1, e2, e3⟩ := s2.res q hq
              obtain ⟨_, _, e4⟩ := s.res q hq
              rw [upd_ne (fun z => e4 (by rw [z]; exact am))]
              exact ⟨e1, e2, e3⟩
          exact h _ f H' ⟨fun b u e => x5 b u (x1.le b u e), fun _ _ h => h⟩ s5 _ (Da.lst (.inl upd_same) (DaAll.sub x5 hy2))
        have s3 : Sm g F' (f ++ [a]) R (S'.take S.length ++ [.lst xs]) H' := by
          refine ⟨s.le, fun b hb => ?_, ?_, ?_, fun i ob' b z1 z2 => ?_, fun q hq => ?_⟩
          · rcases List.mem_append.mp hb with z | z
            · exact s2.nof b z
            · rw [List.mem_singleton.mp z]; exact s.nof a am
          · exact List.nodup_append.mpr ⟨s2.nd, by simp, fun b hb c hc => by rw [List.mem_singleton.mp hc]; exact fun z => an (z ▸ hb)⟩
          · rw [List.length_append, List.length_append, s2.len]; rfl
          · by_cases hi : i < f.length
            · rw [List.getElem?_append_left (by rw [s2.len]; exact hi)] at z1
              rw [List.getElem?_append_left hi] at z2
              exact s2.st i ob' b z1 z2
            · rw [List.getElem?_append_right (by rw [s2.len]; omega), s2.len] at z1
              rw [List.getElem?_append_right (by omega)] at z2
              have hi0 : i - f.length = 0 := by
                have := (List.getElem?_eq_some_iff.mp z2).1
                simp at this; omega
              rw [hi0] at z1 z2
              simp at z1 z2
              subst z1 z2
              exact s.st m (.lst xs) a hS q1
          · obtain ⟨e1, e2, e3⟩ := s.res q hq
            exact ⟨e1, e2, fun z => (List.mem_append.mp z).elim (fun z => by rw [← fl] at z; exact e3 (List.mem_of_mem_take z)) fun z => e3 (by rw [List.mem_singleton.mp z]; exact am)⟩
        have x3 : Ext F f F' (f ++ [a]) := ⟨x1.le, fun n b e => by rw [List.getElem?_append_left (List.getElem?_eq_some_iff.mp e).1]; exact e⟩
        exact h F' (f ++ [a]) H' x3 s3 _ ⟨a, by rw [hl]; simp, rfl⟩
      · exact h.elim
theorem body_of {mu : Bool} {g : Gc} {F : Hp} {f : List Addr} {R : Rs} {S : Store} {E : XK} {Q : VK} {o : SOut} (hl : S.length = f.length)
    (h : Sat g F f R (fun C d H' => E C d H') (ofS mu S.length o) fun v F' f' S' H' => ∀ x, VR g F' f' x v → Q x H') : SatS g F f R (fun c d _ H => E c d H) o { nx := fun _ H' => Q .non H', rt := Q } := by
  have s2 : ∀ {F' : Hp} {f' : List Addr} {S' : Store} {H' : Hp}, Ext F f F' f' → Sm g F' f' R S' H' → Sm g F' f R (S'.take S.length) H' := fun x1 s => by
    have := s.cut S.length
    rw [hl, x1.cut] at this
    rw [hl]; exact this
  cases o with
  | next ρ S' => exact fun F' f' σ' H' x1 s1 _ => h F' f H' ⟨x1.le, fun _ _ h => h⟩ (s2 x1 s1) .non .non
  | ret v S' => exact fun F' f' H' x x1 s1 r => back_of hl x1 s1 r h
  | brk ρ S' => exact h.elim
  | cont ρ S' => exact h.elim
  | err e ρ S' => exact fun F' f' σ' H' C d x1 s1 _ r => h F' f H' C d ⟨x1.le, fun _ _ h => h⟩ (s2 x1 s1) r
  | stuck => exact h.elim
theorem entry_en {g : Gc} {F : Hp} {f : List Addr} {N : List Str} {xs : List V} {vs : List Val} {np nn : Nat} (hN : N.length = nn) (r : VRs g F f xs vs) : En g F f (entry np nn vs) (L2.start N xs) := by
  unfold entry L2.start
  have hl := r.len
  refine ⟨by simp [hN, hl], fun i v q => ?_⟩
  by_cases hi : i < vs.length
  · rw [List.getElem?_append_left (by simpa using hi), List.getElem?_map] at q
    cases e : vs[i]? with
    | none => rw [e] at q; cases q
    | some w =>
      rw [e] at q
      cases q
      obtain ⟨x, q1, q2⟩ := r.get e
      exact ⟨x, by rw [List.getElem?_append_left (by simpa [hl] using hi), List.getElem?_map, q1]; rfl, q2⟩
  · rw [List.getElem?_append_right (by simpa using hi), List.getElem?_replicate] at q
    split at q <;> cases q
end Ev
end

section
set_option Elab.async false
set_option linter.all false
set_option maxRecDepth 100000
set_option maxHeartbeats 4000000
/-! E10: the checker of expressions and its soundness -/
namespace Ev
open PySem PySem.Spec PyProof.Rows L2

structure Dd where
  name : Str
  ps : List Str
structure Pg where
  defs : List Dd
  gl : List Str
  bl : List Str
  kws : List (Nat × Nat × List Str × List Nat)
/-- what stands around every body -/
structure Wo (P : Program) (w : World) (K : PySem.W.Frag) (mg : Str → Option Value) (base : Heap) (A : Around) (g : Gc) (pr : Pg) (Gl : List PyData) (C : Calls) (n : Nat) : Prop where
  hK : g.K = K
  sy : SysK K
  rm : Room n A
  gd : A.guards = some []
  gl : ∀ (k : Nat) (x : Str), pr.gl[k]? = some x → ∃ d v u, Gl[k]? = some d ∧ mg x = some u ∧ RelV v u ∧ ∀ F, Da g.K F v d
  bl : ∀ x ∈ pr.bl, mg x = none
  fn : ∀ (k : Nat) (dd : Dd), pr.defs[k]? = some dd → mg dd.name = some (.ref (g.ad k)) ∧ PySem.W.keepIn K (.ref (g.ad k)) = true ∧
    ∃ fd, FnG P w K mg base n (g.ad k) fd dd.ps (spD g C k dd.ps.length) ∧ L2.Binds K fd dd.ps [] ∧ ∀ q ∈ pr.kws, q.1 = k → KwB K fd dd.ps q.2.1 q.2.2.1 q.2.2.2
/-- the context of a body or of a block -/
structure Cok (X : Cx) (g : Gc) (W : WX) (pr : Pg) (Gl : List PyData) (C : Calls) (n : Nat) (N : List Str) (sc : Scope) (cf : Str → Bool) : Prop where
  wo : Wo X.prog X.w X.K X.mg X.base X.A g pr Gl C n
  hN : X.N = N
  nd : N.Nodup
  hsc : X.env.scope = sc
  kd : sc.kind = .function
  calm : X.calm = true
  tk : Takes X W
  fn : ∀ x, cf x = true → X.fn x = true
def cfB (scope : Scope) (x : Str) : Bool := scope.names.lookup x == some .cell
theorem Cok.blk {X : Cx} {g : Gc} {W : WX} {pr : Pg} {Gl : List PyData} {C : Calls} {n : Nat} {N : List Str} {sc : Scope} {cf : Str → Bool} (c : Cok X g W pr Gl C n N sc cf) {scope : Scope} (hk : scope.kind = .function) (s : Shared) (H : Hp) (C' : Addr) (cl : List (Str × Addr)) (fp : List Addr) :
    Cok (X.blk s H scope (compEnvC scope cl C' X.env) fp) g W0 pr Gl C n N (relS scope sc) (cfB scope) :=
  ⟨c.wo, c.hN, c.nd, by rw [← c.hsc]; rfl, hk, c.calm, takes0, fun x h => h⟩

/-! ### the checker -/
def visB (sc : Scope) (x : Str) : Bool := match sc.names.lookup x with
  | some .local => true
  | some .cell => true
  | some .free => true
  | _ => false
def glB (sc : Scope) (x : Str) : Bool := decide (sc.names.lookup x = some .globalImplicit)
def okNm (x : Str) : Bool := !(x == ("__debug__" : Str)) && !(x == ("__classdict__" : Str)) && !decide (x = ("__name__" : Str))
def cstB : PyData → Const → Bool
  | .none, .none => true
  | .bool b, .bool c => b == c
  | .int i, .int j => decide (i = j)
  | .str x, .str y => decide (x = y)
  | _, _ => false
/-- a built-in function, or a type, by its name -/
def bltB (pr : Pg) (sc : Scope) (x : Str) (v : String) (ty : Bool) : Bool := glB sc x && okNm x && decide (x ∈ pr.bl) && (match bootBuiltins x with
  | some (.builtin y) => !ty && y == v
  | some (.type y) => ty && y == v
  | _ => false)
def BI.nm : BI → String
  | .len => "len" | .all => "all" | .any => "any" | .tuple => "tuple" | .list => "list" | .sum => "sum" | .abs => "abs" | .max2 => "max" | .min2 => "min" | .int => "int" | .strI => "str" | .divmod => "divmod" | .repr => "repr" | .ord => "ord" | .lenSet => "len" | .listM => "list" | .sortSet => "sorted"
def BI.ty : BI → Bool
  | .tuple => true | .list => true | .int => true | .strI => true | .listM => true | _ => false
def tgB (sc : Scope) (cf : Str → Bool) (N : List Str) (i : Nat) (e : Expr) : Bool := match e with
  | .Name x _ => decide (N[i]? = some x) && (decide (sc.names.lookup x = some .local) || (decide (sc.names.lookup x = some .cell) && cf x))
  | _ => false
def tgsB (sc : Scope) (cf : Str → Bool) (N : List Str) : List Nat → List Expr → Bool
  | [], [] => true
  | i :: is, e :: es => tgB sc cf N i e && tgsB sc cf N is es
  | _, _ => false
def ckTg (sc : Scope) (cf : Str → Bool) (N : List Str) (t : Tg) (e : Expr) : Bool := match t, e with
  | .nm i, e => tgB sc cf N i e
  | .tup is, .Tuple es _ _ => tgsB sc cf N is es
  | .nest i is, .Tuple [a, .Tuple es _ _] _ _ => tgB sc cf N i a && tgsB sc cf N is es
  | _, _ => false
def isTup : Expr → Bool
  | .Tuple _ _ _ => true
  | _ => false
def nset : Expr → Bool
  | .Set _ _ _ => false
  | _ => true
def nBI : BI → CEs → Bool
  | .lenSet, _ => false
  | .sortSet, _ => false
  | _, .nil => false
  | _, _ => true
def lenEs : CEs → Nat
  | .nil => 0
  | .cons _ r => lenEs r + 1
def nilEs : CEs → Bool
  | .nil => true
  | _ => false
/-- o.append's o is no call of super -/
def nsup : Expr → Bool
  | .Call (.Name _ _) [] [] _ => false
  | _ => true
def Me.nm : Me → Str
  | .append => "append" | .extend => "extend"
section
variable (pr : Pg)
mutual
def ckE (sc : Scope) (cf : Str → Bool) (N : List Str) : CE → Expr → Bool
  | .var i, e => match e with
    | .Name x _ => decide (N[i]? = some x) && visB sc x && okNm x
    | _ => false
  | .cst d, e => match e with
    | .Constant c _ _ => cstB d c
    | .UnaryOp .USub (.Constant (.int j) _ _) _ => match d with
      | .int i => decide (i = -j)
      | _ => false
    | .Dict [] [] _ => match d with
      | .dict [] => true
      | _ => false
    | _ => false
  | .glb k, e => match e with
    | .Name x _ => decide (pr.gl[k]? = some x) && glB sc x && okNm x
    | _ => false
  | .fnv k, e => match e with
    | .Name x _ => (match pr.defs[k]? with | some dd => decide (dd.name = x) | none => false) && glB sc x && okNm x
    | _ => false
  | .bin op a b, e => match e with
    | .BinOp a' op' b' _ => decide (op = op') && opOk op && ckE sc cf N a a' && ckE sc cf N b b'
    | _ => false
  | .cmp op a b, e => match e with
    | .Compare a' [op'] [b'] _ => decide (op = op') && nmark b' && ckE sc cf N a a' && ckE sc cf N b b'
    | _ => false
  | .chn o1 o2 a b c, e => match e with
    | .Compare a' [p1, p2] [b', c'] _ => decide (o1 = p1) && decide (o2 = p2) && nmark c' && ckE sc cf N a a' && ckE sc cf N b b' && ckE sc cf N c c'
    | _ => false
  | .and es, e => match e with
    | .BoolOp .And es' _ => !nilEs es && ckEs sc cf N es es'
    | _ => false
  | .or es, e => match e with
    | .BoolOp .Or es' _ => !nilEs es && ckEs sc cf N es es'
    | _ => false
  | .not a, e => match e with
    | .UnaryOp .Not a' _ => ckE sc cf N a a'
    | _ => false
  | .ife c a b, e => match e with
    | .IfExp c' a' b' _ => ckT sc cf N c c' && ckE sc cf N a a' && ckE sc cf N b b'
    | _ => false
  | .tup es, e => match e with
    | .Tuple es' _ _ => ckEs sc cf N es es'
    | _ => false
  | .lst _ es, e => match e with
    | .List es' _ => ckEs sc cf N es es'
    | _ => false
  | .idx a i, e => match e with
    | .Subscript a' i' _ => nslice i' && ckE sc cf N a a' && ckE sc cf N i i'
    | _ => false
  | .sli a lo hi, e => match e with
    | .Subscript a' (.Slice lo' hi' none _) _ => ckE sc cf N a a' && ckO sc cf N lo lo' && ckO sc cf N hi hi'
    | _ => false
  | .rev z a, e => match e with
    | .Subscript a' (.Slice none none (some (.UnaryOp .USub (.Constant (.int 1) _ _) _)) _) _ => !z && ckE sc cf N a a'
    | .Subscript a' (.Slice none (some (.Constant (.int 0) _ _)) (some (.UnaryOp .USub (.Constant (.int 1) _ _) _)) _) _ => z && ckE sc cf N a a'
    | _ => false
  | .call k es, e => match e with
    | .Call (.Name x _) es' [] _ => (match pr.defs[k]? with | some dd => decide (dd.name = x) && decide (dd.ps.length = lenEs es) | none => false) && glB sc x && okNm x && ckEs sc cf N es es'
    | _ => false
  | .kall k gs es ks, e => match e with
    | .Call (.Name x _) es' kws' _ => (match pr.defs[k]? with | some dd => decide (dd.name = x) && decide (dd.ps.length = gs.length) | none => false) && glB sc x && okNm x && ckEs sc cf N es es' && ckK sc cf N ks kws' &&
      (match kwNm kws' with | some nms => decide ((k, lenEs es, nms, gs) ∈ pr.kws) && decide (nms.length = lenEs ks) | none => false)
    | _ => false
  | .isi a t, e => match e with
    | .Call (.Name x _) [a', .Name y _] [] _ => bltB pr sc x "isinstance" false && bltB pr sc y t.name true && ckE sc cf N a a'
    | _ => false
  | .isi2 a ts, e => match e with
    | .Call (.Name x _) [a', .Tuple ys _ _] [] _ => bltB pr sc x "isinstance" false && tysB (fun y n => bltB pr sc y n true) ts ys && decide (ts ≠ [] ∧ ts.length ≤ 9) && ckE sc cf N a a'
    | _ => false
  | .sme m a es, e => match e with
    | .Call (.Attribute a' m' p) (b' :: es') [] q => decide (m' = m.nm) && nsup a' && (p.endLine == q.line) && decide (es'.length ≤ 3) && ckE sc cf N a a' && ckEs sc cf N es (b' :: es')
    | _ => false
  | .fst es, e => match e with
    | .JoinedStr (v1 :: v2 :: vs) _ => ckF sc cf N es (v1 :: v2 :: vs)
    | _ => false
  | .bi b es, e => match e with
    | .Call (.Name x _) [.Call (.Name y p2) [a'] [] q2] [] _ => (nBI b es && bltB pr sc x b.nm b.ty && ckEs sc cf N es [.Call (.Name y p2) [a'] [] q2]) || (decide (b = .lenSet ∨ b = .sortSet) && bltB pr sc x b.nm false && bltB pr sc y "set" true && ckEs sc cf N es [a'])
    | .Call (.Name x _) es' [] _ => nBI b es && bltB pr sc x b.nm b.ty && ckEs sc cf N es es'
    | _ => false
  | .meth m a es, e => match e with
    | .Call (.Attribute a' m' p) [b'] [] q => decide (m' = m.nm) && nsup a' && (p.endLine == q.line) && ckE sc cf N a a' && ckEs sc cf N es [b']
    | _ => false
  | .lc _ elt own tg it cond, e => match e with
    | .ListComp elt' [⟨tg', iter', ifs', 0⟩] scope _ => blkC N sc scope own && nset iter' && ckTg (relS scope sc) (cfB scope) N tg tg' && tg.ix.all (fun i => decide (i ∈ own.map (·.2))) && ckI sc cf N (isTup tg') it iter' && ckC (relS scope sc) (cfB scope) N cond ifs' && ckE (relS scope sc) (cfB scope) N elt elt'
    | _ => false
def ckEs (sc : Scope) (cf : Str → Bool) (N : List Str) : CEs → List Expr → Bool
  | .nil, es => es.isEmpty
  | .cons a r, es => match es with
    | e :: es => ckE sc cf N a e && ckEs sc cf N r es
    | [] => false
/-- the fields of an f-string -/
def ckF (sc : Scope) (cf : Str → Bool) (N : List Str) : CEs → List Expr → Bool
  | .nil, es => es.isEmpty
  | .cons a r, es => match es with
    | .FormattedValue e' cv none _ :: es => decide (cv = -1) && ckE sc cf N a e' && ckF sc cf N r es
    | .Constant (.str z) _ _ :: es => (match a with
      | .cst (.str y) => decide (y = z)
      | _ => false) && ckF sc cf N r es
    | _ => false
/-- the values of keywords -/
def ckK (sc : Scope) (cf : Str → Bool) (N : List Str) : CEs → List Keyword → Bool
  | .nil, es => es.isEmpty
  | .cons a r, es => match es with
    | ⟨_, e, _⟩ :: es => ckE sc cf N a e && ckK sc cf N r es
    | [] => false
def ckO (sc : Scope) (cf : Str → Bool) (N : List Str) : CO → Option Expr → Bool
  | .none, e => e.isNone
  | .some a, e => match e with
    | some e => ckE sc cf N a e
    | none => false
def ckC (sc : Scope) (cf : Str → Bool) (N : List Str) : CO → List Expr → Bool
  | .none, es => es.isEmpty
  | .some a, es => match es with
    | [e] => ckT sc cf N a e
    | _ => false
def ckI (sc : Scope) (cf : Str → Bool) (N : List Str) (tp : Bool) : CI → Expr → Bool
  | .seq a, e => ckE sc cf N a e
  | .rng1 a, e => match e with
    | .Call (.Name x _) [a'] [] _ => decide (x = ("range" : Str)) && bltB pr sc x "range" true && ckE sc cf N a a'
    | _ => false
  | .rng2 a b, e => match e with
    | .Call (.Name x _) [a', b'] [] _ => decide (x = ("range" : Str)) && bltB pr sc x "range" true && ckE sc cf N a a' && ckE sc cf N b b'
    | _ => false
  | .rng3 a b c, e => match e with
    | .Call (.Name x _) [a', b', c'] [] _ => decide (x = ("range" : Str)) && bltB pr sc x "range" true && ckE sc cf N a a' && ckE sc cf N b b' && ckE sc cf N c c'
    | _ => false
  | .zip a b, e => match e with
    | .Call (.Name x _) [a', b'] [] _ => tp && decide (x = ("zip" : Str)) && bltB pr sc x "zip" true && ckE sc cf N a a' && ckE sc cf N b b'
    | _ => false
  | .enum a, e => match e with
    | .Call (.Name x _) [a'] [] _ => tp && decide (x = ("enumerate" : Str)) && bltB pr sc x "enumerate" true && ckE sc cf N a a'
    | _ => false
def ckT (sc : Scope) (cf : Str → Bool) (N : List Str) : CE → Expr → Bool
  | .and es, e => match e with
    | .BoolOp .And es' _ => !nilEs es && ckTs sc cf N es es'
    | _ => false
  | .or es, e => match e with
    | .BoolOp .Or es' _ => !nilEs es && ckTs sc cf N es es'
    | _ => false
  | .not a, e => match e with
    | .UnaryOp .Not a' _ => ckT sc cf N a a'
    | _ => false
  | .cmp op a b, e => match e with
    | .Compare a' [op'] [b'] _ => decide (op = op') && nmark b' && ckE sc cf N a a' && ckE sc cf N b b'
    | _ => false
  | .chn o1 o2 a b c, e => match e with
    | .Compare a' [p1, p2] [b', c'] _ => decide (o1 = p1) && decide (o2 = p2) && nmark c' && ckE sc cf N a a' && ckE sc cf N b b' && ckE sc cf N c c'
    | _ => false
  | .var i, e => match e with
    | .Name x _ => decide (N[i]? = some x) && visB sc x && okNm x
    | _ => false
  | .idx a i, e => match e with
    | .Subscript a' i' _ => nslice i' && ckE sc cf N a a' && ckE sc cf N i i'
    | _ => false
  | .call k es, e => match e with
    | .Call (.Name x _) es' [] _ => (match pr.defs[k]? with | some dd => decide (dd.name = x) && decide (dd.ps.length = lenEs es) | none => false) && glB sc x && okNm x && ckEs sc cf N es es'
    | _ => false
  | .isi a t, e => match e with
    | .Call (.Name x _) [a', .Name y _] [] _ => bltB pr sc x "isinstance" false && bltB pr sc y t.name true && ckE sc cf N a a'
    | _ => false
  | .isi2 a ts, e => match e with
    | .Call (.Name x _) [a', .Tuple ys _ _] [] _ => bltB pr sc x "isinstance" false && tysB (fun y n => bltB pr sc y n true) ts ys && decide (ts ≠ [] ∧ ts.length ≤ 9) && ckE sc cf N a a'
    | _ => false
  | .bi b es, e => match e with
    | .Call (.Name x _) es' [] _ => nBI b es && bltB pr sc x b.nm b.ty && ckEs sc cf N es es'
    | _ => false
  | .cst d, e => match e with
    | .Constant c _ _ => cstB d c
    | _ => false
  | _, _ => false
def ckTs (sc : Scope) (cf : Str → Bool) (N : List Str) : CEs → List Expr → Bool
  | .nil, es => es.isEmpty
  | .cons a r, es => match es with
    | e :: es => ckT sc cf N a e && ckTs sc cf N r es
    | [] => false
end
end
end Ev
end

section
set_option Elab.async false
set_option linter.all false
set_option maxRecDepth 100000
set_option maxHeartbeats 8000000
/-! E11: the checker of expressions is sound -/
namespace Ev
open PySem PySem.Spec PyProof.Rows L2

theorem ck_star {pr : Pg} {sc : Scope} {cf : Str → Bool} {N : List Str} (ce : CE) {e : Expr} (h : ckE pr sc cf N ce e = true) : nstar e = true := by
  cases e <;> first
    | rfl
    | (cases ce <;> exact (Bool.false_ne_true h).elim)
theorem ck_stars {pr : Pg} {sc : Scope} {cf : Str → Bool} {N : List Str} : ∀ (es : CEs) {es' : List Expr}, ckEs pr sc cf N es es' = true → es'.all nstar = true ∧ es'.length = lenEs es
  | .nil, es', h => by
    unfold ckEs at h
    cases es' with
    | nil => exact ⟨rfl, rfl⟩
    | cons e r => cases h
  | .cons a r, es', h => by
    unfold ckEs at h
    cases es' with
    | nil => cases h
    | cons e es =>
      dsimp only at h
      rw [Bool.and_eq_true] at h
      obtain ⟨h1, h2⟩ := ck_stars r h.2
      exact ⟨by rw [List.all_cons, ck_star a h.1, h1] <;> rfl, by show es.length + 1 = lenEs r + 1; rw [h2]⟩
theorem dEs_len {Gd : List PyData} {C : Calls} : ∀ (es : CEs) (ρ : EnvD) (S : Store) (vs : List Val) (S' : Store), dEs Gd C es ρ S = .ok vs S' → vs.length = lenEs es
  | .nil, ρ, S, vs, S', h => by
    unfold dEs at h
    cases h; rfl
  | .cons a r, ρ, S, vs, S', h => by
    unfold dEs at h
    cases e1 : dE Gd C a ρ S with
    | err _ _ => rw [e1] at h; cases h
    | stuck => rw [e1] at h; cases h
    | ok v S1 =>
      rw [e1, Out.bind_ok] at h
      cases e2 : dEs Gd C r ρ S1 with
      | err _ _ => rw [e2] at h; cases h
      | stuck => rw [e2] at h; cases h
      | ok us S2 =>
        rw [e2, Out.bind_ok] at h
        cases h
        show us.length + 1 = _
        rw [dEs_len r _ _ _ _ e2]
        rfl
section
variable {X : Cx} {g : Gc} {W : WX} {pr : Pg} {Gd : List PyData} {C : Calls} {n : Nat} {N : List Str} {sc : Scope} {cf : Str → Bool}
theorem gl_of (c : Cok X g W pr Gd C n N sc cf) {x : Str} (h : glB sc x = true) : L2.Gl X x := by
  show X.env.scope.names.lookup x = _
  rw [c.hsc]
  exact of_decide_eq_true h
theorem nm_of {x : Str} (h : okNm x = true) : (x == ("__debug__" : Str)) = false ∧ (x == ("__classdict__" : Str)) = false ∧ x ≠ ("__name__" : Str) := by
  unfold okNm at h
  simp only [Bool.and_eq_true, Bool.not_eq_true', decide_eq_false_iff_not] at h
  exact ⟨h.1.1, h.1.2, h.2⟩
theorem blt_of (c : Cok X g W pr Gd C n N sc cf) {x : Str} {v : String} {ty : Bool} (h : bltB pr sc x v ty = true) :
    L2.Gl X x ∧ X.mg x = none ∧ bootBuiltins x = some (if ty = true then .type v else .builtin v) ∧ x ≠ ("__name__" : Str) ∧ (x == ("__debug__" : Str)) = false := by
  unfold bltB at h
  simp only [Bool.and_eq_true, decide_eq_true_eq] at h
  obtain ⟨⟨⟨h1, h2⟩, h3⟩, h4⟩ := h
  obtain ⟨n1, n2, n3⟩ := nm_of h2
  refine ⟨gl_of c h1, c.wo.bl x h3, ?_, n3, n1⟩
  split at h4
  · rename_i y e
    rw [e]
    cases ty with
    | false => simp at h4; rw [h4]; rfl
    | true => simp at h4
  · rename_i y e
    rw [e]
    cases ty with
    | true => simp at h4; rw [h4]; rfl
    | false => simp at h4
  · cases h4
theorem Cok.units (c : Cok X g W pr Gd C n N sc cf) : X.A.units + 200 < cLine := by
  have := c.wo.rm.un
  omega
theorem bi_real (c : Cok X g W pr Gd C n N sc cf) (b : BI) (hb : b ≠ .lenSet) (hb2 : b ≠ .sortSet) : ∃ r, CallR X (if b.ty = true then .type b.nm else .builtin b.nm) r ∧ RealN g r (biV b) := by
  have hK := c.wo.hK
  have hc := c.calm
  have hu := c.units
  cases b with
  | len => exact ⟨_, call_len, hK ▸ real_len⟩
  | all => exact ⟨_, cr_all hc, hK ▸ real_all⟩
  | any => exact ⟨_, cr_any hc, hK ▸ real_any⟩
  | tuple => exact ⟨_, call_tuple_of, hK ▸ real_tuple⟩
  | list => exact ⟨_, Ev.CallR.or call_list_of (call_list_text hc), hK ▸ real_list⟩
  | listM => exact ⟨_, call_list_of, hK ▸ real_listM⟩
  | sum => exact ⟨_, cr_sum hc, hK ▸ real_sum⟩
  | abs => exact ⟨_, call_abs, real_abs⟩
  | max2 => exact ⟨_, call_max2 hc, real_max2⟩
  | min2 => exact ⟨_, call_min2 hc, real_min2⟩
  | int => exact ⟨_, call_int1, real_int⟩
  | strI => exact ⟨_, call_str_int, real_strI⟩
  | divmod => exact ⟨_, call_divmod, real_divmod⟩
  | ord => exact ⟨_, call_ord, real_ord⟩
  | repr => exact ⟨_, call_repr c.wo.sy (by omega) c.wo.gd, hK ▸ real_repr⟩
  | lenSet => exact absurd rfl hb
  | sortSet => exact absurd rfl hb2
theorem vis_of (c : Cok X g W pr Gd C n N sc cf) {x : Str} (h : visB sc x = true) : Vis X.env.scope x := by
  rw [c.hsc]
  unfold visB at h
  split at h
  · exact .inl (by assumption)
  · exact .inr (.inl (by assumption))
  · exact .inr (.inr (by assumption))
  · cases h
theorem var_of (c : Cok X g W pr Gd C n N sc cf) {i : Nat} {x : Str} {p : Pos} (h : (decide (N[i]? = some x) && visB sc x && okNm x) = true) : PE X (.Name x p) (rd g W (dVar i)) := by
  simp only [Bool.and_eq_true, decide_eq_true_eq] at h
  obtain ⟨⟨h1, h2⟩, h3⟩ := h
  obtain ⟨n1, n2, n3⟩ := nm_of h3
  exact pd_var (by rw [c.hN]; exact h1) (vis_of c h2) n1 n2
theorem cst_of (c : Cok X g W pr Gd C n N sc cf) {d : PyData} {k : Const} {j : Nat} {p : Pos} (h : cstB d k = true) : PE X (.Constant k j p) (rd g W (dCst d)) := by
  unfold cstB at h
  split at h
  · exact pd_cst pe_non fun _ => .non
  · cases (beq_iff_eq.mp h); exact pd_cst pe_bl fun _ => .bl _
  · cases (of_decide_eq_true h); exact pd_cst pe_int fun _ => .int _
  · cases (of_decide_eq_true h); exact pd_cst pe_str fun _ => .str _
  · cases h
theorem neg_of (c : Cok X g W pr Gd C n N sc cf) {i j : Int} {k : Nat} {p q : Pos} (h : i = -j) : PE X (.UnaryOp .USub (.Constant (.int j) k p) q) (rd g W (dCst (.int i))) :=
  (pe_un un_neg pe_int).imp fun σ H Q ⟨F, f, R, ρ, S, s, e, z⟩ => ⟨j, rfl, z.ok s _ (by rw [h]; exact .int _)⟩
theorem dict_of {p : Pos} : PE X (.Dict [] [] p) (rd g W (dCst (.dict []))) :=
  pe_dnewK.imp fun σ H Q ⟨F, f, R, ρ, S, s, e, z⟩ p hp => by
    obtain ⟨s2, x2⟩ := s.new (o := .dK []) hp
    exact z _ f _ x2 s2 _ (Da.dct upd_same)
theorem glb_of (c : Cok X g W pr Gd C n N sc cf) {k : Nat} {x : Str} {p : Pos} (h1 : pr.gl[k]? = some x) (h2 : glB sc x = true) (h3 : okNm x = true) : PE X (.Name x p) (rd g W (dE Gd C (.glb k))) := by
  obtain ⟨n1, n2, n3⟩ := nm_of h3
  obtain ⟨d, v, u, q1, q2, q3, q4⟩ := c.wo.gl k x h1
  have : dE Gd C (.glb k) = dCst d := by
    unfold dE
    rw [q1]
  rw [this]
  exact pd_cst (pe_glob (gl_of c h2) q2 q3 n1) q4
theorem fnv_of (c : Cok X g W pr Gd C n N sc cf) {k : Nat} {x : Str} {p : Pos} {dd : Dd} (h1 : pr.defs[k]? = some dd) (e : dd.name = x) (h2 : glB sc x = true) (h3 : okNm x = true) : PE X (.Name x p) (rd g W fun _ S => .ok (.fn k) S) := by
  obtain ⟨n1, n2, n3⟩ := nm_of h3
  obtain ⟨q1, q2, q3⟩ := c.wo.fn k dd h1
  rw [e] at q1
  exact pd_fnv (pe_glob (gl_of c h2) q1 rfl n1)
theorem call_of (c : Cok X g W pr Gd C n N sc cf) {k : Nat} {x : Str} {p pos : Pos} {es : CEs} {es' : List Expr} (h1 : (match pr.defs[k]? with | some dd => decide (dd.name = x) && decide (dd.ps.length = lenEs es) | none => false) = true)
    (h2 : glB sc x = true) (h3 : okNm x = true) (h4 : ckEs pr sc cf N es es' = true) (ih : PA X es' (rdA g W (dEs Gd C es))) : PE X (.Call (.Name x p) es' [] pos) (rd g W (dCall C k (dEs Gd C es))) := by
  split at h1
  · rename_i dd hd
    simp only [Bool.and_eq_true, decide_eq_true_eq] at h1
    obtain ⟨e1, e2⟩ := h1
    obtain ⟨n1, n2, n3⟩ := nm_of h3
    obtain ⟨q1, q2, fd, q3, q4, _⟩ := c.wo.fn k dd hd
    rw [e1] at q1
    obtain ⟨s1, s2⟩ := ck_stars es h4
    cases es with
    | nil =>
      cases es' with
      | nil => exact pd_call0 q3 c.wo.rm c.wo.gd (gl_of c h2) q1 q2 q4 c.tk e2 n1
      | cons e r => simp [lenEs] at s2
    | cons a r =>
      cases es' with
      | nil => simp [lenEs] at s2
      | cons e r' => exact pd_call q3 c.wo.rm c.wo.gd (gl_of c h2) q1 q2 q4 c.tk ih (fun ρ S vs S' z => by rw [dEs_len _ _ _ _ _ z, e2]) n1 s1
  · cases h1
theorem kall_of (c : Cok X g W pr Gd C n N sc cf) {k : Nat} {x : Str} {p pos : Pos} {gs : List Nat} {es ks : CEs} {es' : List Expr} {kws' : List Keyword} (h1 : (match pr.defs[k]? with | some dd => decide (dd.name = x) && decide (dd.ps.length = gs.length) | none => false) = true)
    (h2 : glB sc x = true) (h3 : okNm x = true) (h4 : ckEs pr sc cf N es es' = true) (h5 : (match kwNm kws' with | some nms => decide ((k, lenEs es, nms, gs) ∈ pr.kws) && decide (nms.length = lenEs ks) | none => false) = true)
    (ih : PA X es' (rdA g W (dEs Gd C es))) (ihk : PK X kws' (rdA g W (dEs Gd C ks))) : PE X (.Call (.Name x p) es' kws' pos) (rd g W (dKall C k gs (dEs Gd C es) (dEs Gd C ks))) := by
  split at h1
  · rename_i dd hd
    simp only [Bool.and_eq_true, decide_eq_true_eq] at h1
    obtain ⟨e1, e2⟩ := h1
    split at h5
    · rename_i nms hn
      simp only [Bool.and_eq_true, decide_eq_true_eq] at h5
      obtain ⟨k1, k2⟩ := h5
      obtain ⟨n1, n2, n3⟩ := nm_of h3
      obtain ⟨q1, q2, fd, q3, q4, q5⟩ := c.wo.fn k dd hd
      rw [e1] at q1
      obtain ⟨s1, s2⟩ := ck_stars es h4
      have kb := q5 _ k1 rfl
      have hk2 : ∀ ρ S vs S', dEs Gd C ks ρ S = .ok vs S' → vs.length = nms.length := fun ρ S vs S' z => by rw [dEs_len _ _ _ _ _ z, k2]
      cases es with
      | nil =>
        cases es' with
        | nil => exact pd_kall0 q3 c.wo.rm c.wo.gd (gl_of c h2) q1 q2 kb c.tk ihk e2.symm hk2 hn n1
        | cons e r => simp [lenEs] at s2
      | cons a r =>
        cases es' with
        | nil => simp [lenEs] at s2
        | cons e r' => exact pd_kall q3 c.wo.rm c.wo.gd (gl_of c h2) q1 q2 kb c.tk ih ihk e2.symm (fun ρ S vs S' z => dEs_len _ _ _ _ _ z) hk2 hn n1 s1
    · cases h5
  · cases h1
theorem bi_of (c : Cok X g W pr Gd C n N sc cf) {b : BI} {x : Str} {p pos : Pos} {es : CEs} {es' : List Expr} (h1 : nBI b es = true) (h2 : bltB pr sc x b.nm b.ty = true) (h4 : ckEs pr sc cf N es es' = true) (ih : PA X es' (rdA g W (dEs Gd C es))) :
    PE X (.Call (.Name x p) es' [] pos) (rd g W (dN (biV b) (dEs Gd C es))) := by
  have hb : b ≠ .lenSet := fun z => by
    subst z
    exact (Bool.false_ne_true h1).elim
  have hb2 : b ≠ .sortSet := fun z => by
    subst z
    exact (Bool.false_ne_true h1).elim
  obtain ⟨s1, s2⟩ := ck_stars es h4
  obtain ⟨b1, b2, b3, b4, b5⟩ := blt_of c h2
  obtain ⟨r, r1, r2⟩ := bi_real c b hb hb2
  cases es' with
  | nil =>
    cases es with
    | nil => cases b <;> exact (Bool.false_ne_true h1).elim
    | cons a r => simp [lenEs] at s2
  | cons e r' =>
    cases ht : b.ty with
    | true =>
      rw [ht] at r1 b3
      exact pd_ty r1 r2 b1 b2 b3 ih b4 b5 s1
    | false =>
      rw [ht] at r1 b3
      exact pd_bi r1 r2 b1 b2 b3 ih b4 b5 s1
theorem set_of (c : Cok X g W pr Gd C n N sc cf) {b : BI} {x y : Str} {p p2 q pos : Pos} {a' : Expr} {es : CEs} (hb : b = .lenSet ∨ b = .sortSet) (h1 : bltB pr sc x b.nm false = true) (h2 : bltB pr sc y "set" true = true) (h4 : ckEs pr sc cf N es [a'] = true) (ih : PA X [a'] (rdA g W (dEs Gd C es))) :
    PE X (.Call (.Name x p) [.Call (.Name y p2) [a'] [] q] [] pos) (rd g W (dN (biV b) (dEs Gd C es))) := by
  obtain ⟨d1, d2, d3, d4, d5⟩ := blt_of c h2
  obtain ⟨s1, _⟩ := ck_stars es h4
  rw [List.all_cons, Bool.and_eq_true] at s1
  rcases hb with rfl | rfl
  · obtain ⟨b1, b2, b3, b4, b5⟩ := blt_of c h1
    exact pd_lenSet c.wo.hK c.calm b1 b2 b3 b4 b5 d1 d2 d3 d4 d5 ih s1.1
  · obtain ⟨b1, b2, b3, b4, b5⟩ := blt_of c h1
    exact pd_sortSet c.wo.hK c.calm b1 b2 b3 b4 b5 d1 d2 d3 d4 d5 ih s1.1
theorem isi_of (c : Cok X g W pr Gd C n N sc cf) {t : Ty} {x y : Str} {p p2 pos : Pos} {a' : Expr} {ta : TD Val} (h1 : bltB pr sc x "isinstance" false = true) (h2 : bltB pr sc y t.name true = true) (ih : PE X a' (rd g W ta)) (hs : nstar a' = true) :
    PE X (.Call (.Name x p) [a', .Name y p2] [] pos) (rd g W (dU (isiV t) ta)) := by
  obtain ⟨b1, b2, b3, b4, b5⟩ := blt_of c h1
  obtain ⟨d1, d2, d3, d4, d5⟩ := blt_of c h2
  exact pd_isi c.wo.hK b1 b2 b3 b4 b5 d1 d2 d3 d4 d5 ih hs
theorem isi2_of (c : Cok X g W pr Gd C n N sc cf) {ts : List Ty} {x : Str} {p tpos pos : Pos} {a' : Expr} {ys : List Expr} {k : Nat} {ta : TD Val} (h1 : bltB pr sc x "isinstance" false = true) (h2 : tysB (fun y n => bltB pr sc y n true) ts ys = true)
    (h3 : ts ≠ [] ∧ ts.length ≤ 9) (ih : PE X a' (rd g W ta)) (hs : nstar a' = true) : PE X (.Call (.Name x p) [a', .Tuple ys k tpos] [] pos) (rd g W (dU (isiV2 ts) ta)) := by
  obtain ⟨b1, b2, b3, b4, b5⟩ := blt_of c h1
  exact pd_isi2 c.wo.hK b1 b2 b3 b4 b5 (fun y n h => blt_of c h) h2 h3.2 h3.1 ih hs
theorem sup_of {a : Expr} {m : Str} {env : Env} {w : Sem Value} (h : nsup a = true) : attributeBase a m env w = w := by
  cases a with
  | Call f args kws pos => cases f <;> first | rfl | (cases args <;> cases kws <;> first | rfl | exact (Bool.false_ne_true h).elim)
  | _ => rfl
theorem fold_of {e : Expr} {env : Env} (h : nset e = true) : ∀ x, foldedSetIterable e env x = pure x := by
  intro x
  cases e <;> first | rfl | exact (Bool.false_ne_true h).elim
/-! ### targets -/
theorem tg_of (c : Cok X g W pr Gd C n N sc cf) {i : Nat} {e : Expr} (h : tgB sc cf N i e = true) : PG X e (gName i) ∧ nstar e = true := by
  unfold tgB at h
  split at h
  · rename_i x p
    simp only [Bool.and_eq_true, decide_eq_true_eq, Bool.or_eq_true] at h
    obtain ⟨h1, h2⟩ := h
    refine ⟨?_, rfl⟩
    have hN : X.N[i]? = some x := by rw [c.hN]; exact h1
    have nd : X.N.Nodup := by rw [c.hN]; exact c.nd
    rcases h2 with h2 | ⟨h2, h3⟩
    · exact pg_name nd hN (.inl (by rw [c.hsc]; exact h2)) (.inr (by rw [c.hsc]; exact h2))
    · exact pg_name nd hN (.inr (by rw [c.hsc]; exact h2)) (.inl (c.fn x h3))
  · cases h
theorem tgs_of (c : Cok X g W pr Gd C n N sc cf) : ∀ {is : List Nat} {es : List Expr}, tgsB sc cf N is es = true → PGs X es (gNames is) ∧ es.all nstar = true ∧ es.length = is.length
  | [], [], _ => ⟨pgs_nil, rfl, rfl⟩
  | [], _ :: _, h => by cases h
  | _ :: _, [], h => by cases h
  | i :: is, e :: es, h => by
    unfold tgsB at h
    rw [Bool.and_eq_true] at h
    obtain ⟨h1, h2⟩ := tg_of c h.1
    obtain ⟨h3, h4, h5⟩ := tgs_of c h.2
    refine ⟨pgs_cons h1 h3 (by rw [asg_cons h2]; rfl), by rw [List.all_cons, h2, h4] <;> rfl, by rw [List.length_cons, List.length_cons, h5]⟩
def tgG (g : Gc) : Tg → TG
  | .nm i => gName i
  | .tup is => gTup g.K is.length (gNames is)
  | .nest i is => gTup g.K 2 (gCons (gName i) (gCons (gTup g.K is.length (gNames is)) gNil))
theorem tgG_r (g : Gc) (t : Tg) : TgR g t (tgG g t) := by
  cases t with
  | nm i => exact tgr_nm
  | tup is => exact tgr_tup
  | nest i is => exact tgr_nest
theorem ckTg_of (c : Cok X g W pr Gd C n N sc cf) {t : Tg} {e : Expr} (h : ckTg sc cf N t e = true) : PG X e (tgG g t) ∧ nstar e = true := by
  unfold ckTg at h
  split at h
  · obtain ⟨h1, h2⟩ := tg_of c h
    exact ⟨h1, h2⟩
  · obtain ⟨h1, h2, h3⟩ := tgs_of c h
    obtain ⟨n1, n2⟩ := hn_names (env := X.env) h2
    refine ⟨?_, rfl⟩
    unfold tgG
    rw [c.wo.hK]
    exact pg_tup c.calm h1 (n1.trans h3) n2
  · rename_i i is a es k1 p1 k2 p2
    rw [Bool.and_eq_true] at h
    obtain ⟨a1, a2⟩ := tg_of c h.1
    obtain ⟨h1, h2, h3⟩ := tgs_of c h.2
    obtain ⟨n1, n2⟩ := hn_names (env := X.env) h2
    refine ⟨?_, rfl⟩
    unfold tgG
    rw [c.wo.hK]
    have q := pg_tup (k := k1) (pos := p1) c.calm h1 (n1.trans h3) n2
    have hz : [a, Expr.Tuple es k1 p1].all nstar = true := by rw [List.all_cons, a2] <;> rfl
    obtain ⟨m1, m2⟩ := hn_names (env := X.env) hz
    exact pg_tup c.calm (pgs_cons a1 (pgs_cons q pgs_nil (by rw [asg_cons rfl] <;> rfl)) (by rw [asg_cons a2] <;> rfl)) m1 m2
  · cases h
end
end Ev
end

section
set_option Elab.async false
set_option linter.all false
set_option maxRecDepth 100000
set_option maxHeartbeats 16000000
/-! E12: soundness of the checker, expressions -/
namespace Ev
open PySem PySem.Spec PyProof.Rows L2
variable {g : Gc} {pr : Pg} {Gd : List PyData} {C : Calls} {n : Nat} {N : List Str}
mutual
theorem sE : ∀ (ce : CE) {X : Cx} {W : WX} {sc : Scope} {cf : Str → Bool} (c : Cok X g W pr Gd C n N sc cf) {e : Expr}, ckE pr sc cf N ce e = true → PE X e (rd g W (dE Gd C ce))
  | .var i, X, W, sc, cf, c, e, h => by
    unfold ckE at h
    split at h
    · exact var_of c h
    · cases h
  | .cst d, X, W, sc, cf, c, e, h => by
    unfold ckE at h
    split at h
    · exact cst_of c h
    · split at h
      · exact neg_of c (of_decide_eq_true h)
      · cases h
    · split at h
      · exact dict_of
      · cases h
    · cases h
  | .glb k, X, W, sc, cf, c, e, h => by
    unfold ckE at h
    split at h
    · simp only [Bool.and_eq_true, decide_eq_true_eq] at h
      exact glb_of c h.1.1 h.1.2 h.2
    · cases h
  | .fnv k, X, W, sc, cf, c, e, h => by
    unfold ckE at h
    split at h
    · rw [Bool.and_eq_true, Bool.and_eq_true] at h
      obtain ⟨⟨h1, h2⟩, h3⟩ := h
      split at h1
      · rename_i dd hd
        exact fnv_of c hd (of_decide_eq_true h1) h2 h3
      · cases h1
    · cases h
  | .bin op a b, X, W, sc, cf, c, e, h => by
    unfold ckE at h
    split at h
    · simp only [Bool.and_eq_true, decide_eq_true_eq] at h
      obtain ⟨⟨⟨h1, h2⟩, h3⟩, h4⟩ := h
      subst h1
      obtain ⟨r, ho, hr⟩ := bin_real c.wo.hK op h2
      exact pd_bin ho hr (sE a c h3) (sE b c h4)
    · cases h
  | .cmp op a b, X, W, sc, cf, c, e, h => by
    unfold ckE at h
    split at h
    · simp only [Bool.and_eq_true, decide_eq_true_eq] at h
      obtain ⟨⟨⟨h1, h2⟩, h3⟩, h4⟩ := h
      subst h1
      obtain ⟨r, ho, hr⟩ := cmp_real c.wo.hK (by have := c.units; omega) op
      exact pd_cmp ho hr (sE a c h3) (sE b c h4) h2
    · cases h
  | .chn o1 o2 a b d, X, W, sc, cf, c, e, h => by
    unfold ckE at h
    split at h
    · simp only [Bool.and_eq_true, decide_eq_true_eq] at h
      obtain ⟨⟨⟨⟨⟨h1, h2⟩, h3⟩, h4⟩, h5⟩, h6⟩ := h
      subst h1 h2
      obtain ⟨r, ho, hr⟩ := cmp_real c.wo.hK (by have := c.units; omega) o1
      obtain ⟨r', ho', hr'⟩ := cmp_real c.wo.hK (by have := c.units; omega) o2
      exact pd_chn ho ho' hr hr' (sE a c h4) (sE b c h5) (sE d c h6) h3
    · cases h
  | .and es, X, W, sc, cf, c, e, h => by
    unfold ckE at h
    split at h
    · rw [Bool.and_eq_true] at h
      exact sAnd es c h.1 h.2
    · cases h
  | .or es, X, W, sc, cf, c, e, h => by
    unfold ckE at h
    split at h
    · rw [Bool.and_eq_true] at h
      exact sOr es c h.1 h.2
    · cases h
  | .not a, X, W, sc, cf, c, e, h => by
    unfold ckE at h
    split at h
    · exact pd_not (sE a c h)
    · cases h
  | .ife t a b, X, W, sc, cf, c, e, h => by
    unfold ckE at h
    split at h
    · simp only [Bool.and_eq_true] at h
      exact pd_ife (sT t c h.1.1) (sE a c h.1.2) (sE b c h.2)
    · cases h
  | .tup es, X, W, sc, cf, c, e, h => by
    unfold ckE at h
    split at h
    · exact pd_tup (sEs es c h)
    · cases h
  | .lst m es, X, W, sc, cf, c, e, h => by
    unfold ckE at h
    split at h
    · exact pd_lst (sEs es c h)
    · cases h
  | .idx a i, X, W, sc, cf, c, e, h => by
    unfold ckE at h
    split at h
    · simp only [Bool.and_eq_true] at h
      exact pd_idx c.wo.hK (sE a c h.1.2) (sE i c h.2) h.1.1
    · cases h
  | .sli a lo hi, X, W, sc, cf, c, e, h => by
    unfold ckE at h
    split at h
    · simp only [Bool.and_eq_true] at h
      exact pd_sli c.wo.hK (sE a c h.1.1) (sO lo c h.1.2) (sO hi c h.2)
    · cases h
  | .rev z a, X, W, sc, cf, c, e, h => by
    unfold ckE at h
    split at h
    · rw [Bool.and_eq_true] at h
      cases z with
      | true => exact absurd h.1 (by decide)
      | false => exact pd_rev c.wo.hK (sE a c h.2)
    · rw [Bool.and_eq_true] at h
      cases z with
      | false => exact absurd h.1 (by decide)
      | true => exact pd_rev0 c.wo.hK (sE a c h.2)
    · cases h
  | .call k es, X, W, sc, cf, c, e, h => by
    unfold ckE at h
    split at h
    · rw [Bool.and_eq_true, Bool.and_eq_true, Bool.and_eq_true] at h
      exact call_of c h.1.1.1 h.1.1.2 h.1.2 h.2 (sEs es c h.2)
    · cases h
  | .kall k gs es ks, X, W, sc, cf, c, e, h => by
    unfold ckE at h
    split at h
    · rw [Bool.and_eq_true, Bool.and_eq_true, Bool.and_eq_true, Bool.and_eq_true, Bool.and_eq_true] at h
      obtain ⟨⟨⟨⟨⟨h1, h2⟩, h3⟩, h4⟩, h5⟩, h6⟩ := h
      exact kall_of c h1 h2 h3 h4 h6 (sEs es c h4) (sK ks c h5)
    · cases h
  | .isi a t, X, W, sc, cf, c, e, h => by
    unfold ckE at h
    split at h
    · rw [Bool.and_eq_true, Bool.and_eq_true] at h
      exact isi_of c h.1.1 h.1.2 (sE a c h.2) (ck_star a h.2)
    · cases h
  | .isi2 a ts, X, W, sc, cf, c, e, h => by
    unfold ckE at h
    split at h
    · rw [Bool.and_eq_true, Bool.and_eq_true, Bool.and_eq_true] at h
      exact isi2_of c h.1.1.1 h.1.1.2 (of_decide_eq_true h.1.2) (sE a c h.2) (ck_star a h.2)
    · cases h
  | .sme m a es, X, W, sc, cf, c, e, h => by
    unfold ckE at h
    split at h
    · simp only [Bool.and_eq_true, decide_eq_true_eq] at h
      obtain ⟨⟨⟨⟨⟨h1, h2⟩, h3⟩, h4⟩, h5⟩, h6⟩ := h
      subst h1
      exact pd_sme c.wo.hK (sE a c h5) (sEs es c h6) (sup_of h2) (ck_stars es h6).1 h4 h3
    · cases h
  | .fst es, X, W, sc, cf, c, e, h => by
    unfold ckE at h
    split at h
    · obtain ⟨ts, q1, q2⟩ := sF es c (W := W) h
      exact (pe_joined q1).imp fun σ H Q z => q2 Str.empty σ H Q z
    · cases h
  | .bi b es, X, W, sc, cf, c, e, h => by
    unfold ckE at h
    split at h
    · rw [Bool.or_eq_true] at h
      rcases h with h | h
      · rw [Bool.and_eq_true, Bool.and_eq_true] at h
        exact bi_of c h.1.1 h.1.2 h.2 (sEs es c h.2)
      · rw [Bool.and_eq_true, Bool.and_eq_true, Bool.and_eq_true] at h
        exact set_of c (of_decide_eq_true h.1.1.1) h.1.1.2 h.1.2 h.2 (sEs es c h.2)
    · rw [Bool.and_eq_true, Bool.and_eq_true] at h
      exact bi_of c h.1.1 h.1.2 h.2 (sEs es c h.2)
    · cases h
  | .meth m a es, X, W, sc, cf, c, e, h => by
    unfold ckE at h
    split at h
    · simp only [Bool.and_eq_true, decide_eq_true_eq] at h
      obtain ⟨⟨⟨⟨h1, h2⟩, h3⟩, h4⟩, h5⟩ := h
      subst h1
      obtain ⟨s1, s2⟩ := ck_stars es h5
      rw [List.all_cons, Bool.and_eq_true] at s1
      cases m with
      | append => exact pd_app c.wo.hK (sE a c h4) (sEs es c h5) (sup_of h2) s1.1 h3
      | extend => exact pd_ext c.wo.hK (sE a c h4) (sEs es c h5) (sup_of h2) s1.1 h3
    · cases h
  | .lc m elt own tg it cond, X, W, sc, cf, c, e, h => by
    unfold ckE at h
    split at h
    · rename_i elt' tg' iter' ifs' scope p
      simp only [Bool.and_eq_true, List.all_eq_true, decide_eq_true_eq] at h
      obtain ⟨⟨⟨⟨⟨⟨h1, h2⟩, h3⟩, h4⟩, h5⟩, h6⟩, h7⟩ := h
      have ok := blkOk_by h1
      have nd : X.N.Nodup := by rw [c.hN]; exact c.nd
      have ok' : BlkOk X.N X.env.scope scope own := by rw [c.hN, c.hsc]; exact ok
      exact pd_lc c.calm nd (sI it c h5) ok' (tgG_r g tg) h4 (fun s H C' cl fp => (ckTg_of (c.blk ok.kind s H C' cl fp) h3).1) (fun s H C' cl fp => sC cond (c.blk ok.kind s H C' cl fp) h6) (fun s H C' cl fp => sE elt (c.blk ok.kind s H C' cl fp) h7) (fold_of h2)
    · cases h
theorem sEs : ∀ (es : CEs) {X : Cx} {W : WX} {sc : Scope} {cf : Str → Bool} (c : Cok X g W pr Gd C n N sc cf) {es' : List Expr}, ckEs pr sc cf N es es' = true → PA X es' (rdA g W (dEs Gd C es))
  | .nil, X, W, sc, cf, c, es', h => by
    unfold ckEs at h
    cases es' with
    | nil => exact pd_nil
    | cons e r => cases h
  | .cons a r, X, W, sc, cf, c, es', h => by
    unfold ckEs at h
    cases es' with
    | nil => cases h
    | cons e es =>
      dsimp only at h
      rw [Bool.and_eq_true] at h
      exact pd_cons (sE a c h.1) (sEs r c h.2) (ck_star a h.1)
theorem sF : ∀ (es : CEs) {X : Cx} {W : WX} {sc : Scope} {cf : Str → Bool} (c : Cok X g W pr Gd C n N sc cf) {es' : List Expr}, ckF pr sc cf N es es' = true →
    ∃ ts, PJ X es' ts ∧ ∀ acc σ H Q, rd g W (dF Gd C es acc) σ H Q → tJs ts acc σ H fun out H1 => Q (.str out) H1
  | .nil, X, W, sc, cf, c, es', h => by
    unfold ckF at h
    cases es' with
    | nil =>
      refine ⟨[], .nil, fun acc σ H Q ⟨F, f, R, ρ, S, s, e, z⟩ => ?_⟩
      unfold dF at z
      exact z.ok s (.str acc) (.str acc)
    | cons e r => cases h
  | .cons a r, X, W, sc, cf, c, es', h => by
    unfold ckF at h
    split at h
    · simp only [Bool.and_eq_true, decide_eq_true_eq] at h
      obtain ⟨⟨h1, h2⟩, h3⟩ := h
      subst h1
      obtain ⟨ts, q1, q2⟩ := sF r c (W := W) h3
      refine ⟨_, .cons (pe_fmt (sE a c (W := W) h2)) q1, fun acc σ H Q ⟨F, f, R, ρ, S, s, e, z⟩ => ?_⟩
      unfold dF at z
      exact fs_rd (k := dF Gd C r) (fun acc H1 y => q2 acc σ H1 Q y) s e z
    · rw [Bool.and_eq_true] at h
      obtain ⟨h1, h3⟩ := h
      obtain ⟨ts, q1, q2⟩ := sF r c (W := W) h3
      split at h1
      · cases of_decide_eq_true h1
        refine ⟨_, .cons (pd_cst (g := g) (W := W) pe_str fun _ => .str _) q1, fun acc σ H Q ⟨F, f, R, ρ, S, s, e, z⟩ => ?_⟩
        unfold dF dE at z
        exact fs_cst (ta := dCst .none) (k := dF Gd C r) (fun acc H1 y => q2 acc σ H1 Q y) s e z
      · cases h1
    · cases h
theorem sK : ∀ (es : CEs) {X : Cx} {W : WX} {sc : Scope} {cf : Str → Bool} (c : Cok X g W pr Gd C n N sc cf) {es' : List Keyword}, ckK pr sc cf N es es' = true → PK X es' (rdA g W (dEs Gd C es))
  | .nil, X, W, sc, cf, c, es', h => by
    unfold ckK at h
    cases es' with
    | nil => exact pk_nilD
    | cons e r => cases h
  | .cons a r, X, W, sc, cf, c, es', h => by
    unfold ckK at h
    cases es' with
    | nil => cases h
    | cons e es =>
      cases e with
      | mk nm v p =>
        dsimp only at h
        rw [Bool.and_eq_true] at h
        exact pk_consD (sE a c h.1) (sK r c h.2)
theorem sO : ∀ (o : CO) {X : Cx} {W : WX} {sc : Scope} {cf : Str → Bool} (c : Cok X g W pr Gd C n N sc cf) {e : Option Expr}, ckO pr sc cf N o e = true → PO X e (rdO g W (dO Gd C o))
  | .none, X, W, sc, cf, c, e, h => by
    unfold ckO at h
    cases e with
    | none => exact pd_none
    | some e => cases h
  | .some a, X, W, sc, cf, c, e, h => by
    unfold ckO at h
    cases e with
    | none => cases h
    | some e => exact pd_some (sE a c h)
theorem sC : ∀ (o : CO) {X : Cx} {W : WX} {sc : Scope} {cf : Str → Bool} (c : Cok X g W pr Gd C n N sc cf) {es : List Expr}, ckC pr sc cf N o es = true → PTs X es (rdT g W (dC Gd C o))
  | .none, X, W, sc, cf, c, es, h => by
    unfold ckC at h
    cases es with
    | nil => exact pts_nilD
    | cons e r => cases h
  | .some a, X, W, sc, cf, c, es, h => by
    unfold ckC at h
    split at h
    · exact pts_one (sT a c h)
    · cases h
theorem sI : ∀ (it : CI) {X : Cx} {W : WX} {sc : Scope} {cf : Str → Bool} (c : Cok X g W pr Gd C n N sc cf) {tg e : Expr}, ckI pr sc cf N (isTup tg) it e = true → PI X tg e (rdI g W (dI Gd C it))
  | .seq a, X, W, sc, cf, c, tg, e, h => by
    unfold ckI at h
    exact pi_seqD c.wo.hK (sE a c h)
  | .rng1 a, X, W, sc, cf, c, tg, e, h => by
    unfold ckI at h
    split at h
    · simp only [Bool.and_eq_true, decide_eq_true_eq] at h
      obtain ⟨⟨h1, h2⟩, h3⟩ := h
      subst h1
      obtain ⟨b1, b2, _⟩ := blt_of c h2
      exact pi_rng1 b1 b2 (sE a c h3) (ck_star a h3)
    · cases h
  | .rng2 a b, X, W, sc, cf, c, tg, e, h => by
    unfold ckI at h
    split at h
    · simp only [Bool.and_eq_true, decide_eq_true_eq] at h
      obtain ⟨⟨⟨h1, h2⟩, h3⟩, h4⟩ := h
      subst h1
      obtain ⟨b1, b2, _⟩ := blt_of c h2
      exact pi_rng2 b1 b2 (sE a c h3) (sE b c h4) (ck_star a h3) (ck_star b h4)
    · cases h
  | .rng3 a b d, X, W, sc, cf, c, tg, e, h => by
    unfold ckI at h
    split at h
    · simp only [Bool.and_eq_true, decide_eq_true_eq] at h
      obtain ⟨⟨⟨⟨h1, h2⟩, h3⟩, h4⟩, h5⟩ := h
      subst h1
      obtain ⟨b1, b2, _⟩ := blt_of c h2
      exact pi_rng3 b1 b2 (sE a c h3) (sE b c h4) (sE d c h5) (ck_star a h3) (ck_star b h4) (ck_star d h5)
    · cases h
  | .zip a b, X, W, sc, cf, c, tg, e, h => by
    unfold ckI at h
    split at h
    · simp only [Bool.and_eq_true, decide_eq_true_eq] at h
      obtain ⟨⟨⟨⟨h0, h1⟩, h2⟩, h3⟩, h4⟩ := h
      subst h1
      obtain ⟨b1, b2, _⟩ := blt_of c h2
      cases tg <;> first
        | exact (Bool.false_ne_true h0).elim
        | exact pi_zipD c.wo.hK b1 b2 (sE a c h3) (sE b c h4) (ck_star a h3) (ck_star b h4)
    · cases h
  | .enum a, X, W, sc, cf, c, tg, e, h => by
    unfold ckI at h
    split at h
    · simp only [Bool.and_eq_true, decide_eq_true_eq] at h
      obtain ⟨⟨⟨h0, h1⟩, h2⟩, h3⟩ := h
      subst h1
      obtain ⟨b1, b2, _⟩ := blt_of c h2
      cases tg <;> first
        | exact (Bool.false_ne_true h0).elim
        | exact pi_enumD c.wo.hK b1 b2 (sE a c h3) (ck_star a h3)
    · cases h
theorem sAnd : ∀ (es : CEs) {X : Cx} {W : WX} {sc : Scope} {cf : Str → Bool} (c : Cok X g W pr Gd C n N sc cf) {es' : List Expr} {pos : Pos}, (!nilEs es) = true → ckEs pr sc cf N es es' = true → PE X (.BoolOp .And es' pos) (rd g W (dAnd Gd C es))
  | .nil, X, W, sc, cf, c, es', pos, h0, h => (Bool.false_ne_true h0).elim
  | .cons a .nil, X, W, sc, cf, c, es', pos, h0, h => by
    unfold ckEs at h
    cases es' with
    | nil => cases h
    | cons e es =>
      dsimp only at h
      rw [Bool.and_eq_true] at h
      cases es with
      | nil => exact pe_one (sE a c h.1)
      | cons _ _ => exact absurd h.2 (by unfold ckEs; exact Bool.false_ne_true)
  | .cons a (.cons b r), X, W, sc, cf, c, es', pos, h0, h => by
    unfold ckEs at h
    cases es' with
    | nil => cases h
    | cons e es =>
      dsimp only at h
      rw [Bool.and_eq_true] at h
      cases es with
      | nil => exact absurd h.2 (by unfold ckEs; exact Bool.false_ne_true)
      | cons e2 es2 => exact pd_and (sE a c h.1) (sAnd (.cons b r) c rfl h.2)
theorem sOr : ∀ (es : CEs) {X : Cx} {W : WX} {sc : Scope} {cf : Str → Bool} (c : Cok X g W pr Gd C n N sc cf) {es' : List Expr} {pos : Pos}, (!nilEs es) = true → ckEs pr sc cf N es es' = true → PE X (.BoolOp .Or es' pos) (rd g W (dOr Gd C es))
  | .nil, X, W, sc, cf, c, es', pos, h0, h => (Bool.false_ne_true h0).elim
  | .cons a .nil, X, W, sc, cf, c, es', pos, h0, h => by
    unfold ckEs at h
    cases es' with
    | nil => cases h
    | cons e es =>
      dsimp only at h
      rw [Bool.and_eq_true] at h
      cases es with
      | nil => exact pe_one (sE a c h.1)
      | cons _ _ => exact absurd h.2 (by unfold ckEs; exact Bool.false_ne_true)
  | .cons a (.cons b r), X, W, sc, cf, c, es', pos, h0, h => by
    unfold ckEs at h
    cases es' with
    | nil => cases h
    | cons e es =>
      dsimp only at h
      rw [Bool.and_eq_true] at h
      cases es with
      | nil => exact absurd h.2 (by unfold ckEs; exact Bool.false_ne_true)
      | cons e2 es2 => exact pd_or (sE a c h.1) (sOr (.cons b r) c rfl h.2)
theorem sT : ∀ (ce : CE) {X : Cx} {W : WX} {sc : Scope} {cf : Str → Bool} (c : Cok X g W pr Gd C n N sc cf) {e : Expr}, ckT pr sc cf N ce e = true → PT X e (rdT g W (dT Gd C ce))
  | .and es, X, W, sc, cf, c, e, h => by
    unfold ckT at h
    split at h
    · rw [Bool.and_eq_true] at h
      exact (sTAnd es c h.1 h.2).pt
    · cases h
  | .or es, X, W, sc, cf, c, e, h => by
    unfold ckT at h
    split at h
    · rw [Bool.and_eq_true] at h
      exact (sTOr es c h.1 h.2).pt
    · cases h
  | .not a, X, W, sc, cf, c, e, h => by
    unfold ckT at h
    split at h
    · exact pt_notD (sT a c h)
    · cases h
  | .cmp op a b, X, W, sc, cf, c, e, h => by
    unfold ckT at h
    split at h
    · simp only [Bool.and_eq_true, decide_eq_true_eq] at h
      obtain ⟨⟨⟨h1, h2⟩, h3⟩, h4⟩ := h
      subst h1
      obtain ⟨r, ho, hr⟩ := cmp_real c.wo.hK (by have := c.units; omega) op
      exact pt_cmpD ho hr (sE a c h3) (sE b c h4) h2
    · cases h
  | .chn o1 o2 a b d, X, W, sc, cf, c, e, h => by
    unfold ckT at h
    split at h
    · simp only [Bool.and_eq_true, decide_eq_true_eq] at h
      obtain ⟨⟨⟨⟨⟨h1, h2⟩, h3⟩, h4⟩, h5⟩, h6⟩ := h
      subst h1 h2
      obtain ⟨r, ho, hr⟩ := cmp_real c.wo.hK (by have := c.units; omega) o1
      obtain ⟨r', ho', hr'⟩ := cmp_real c.wo.hK (by have := c.units; omega) o2
      exact pt_chnD ho ho' hr hr' (sE a c h4) (sE b c h5) (sE d c h6) h3
    · cases h
  | .var i, X, W, sc, cf, c, e, h => by
    unfold ckT at h
    split at h
    · exact pt_tru c.wo.hK (var_of c h) rfl
    · cases h
  | .idx a i, X, W, sc, cf, c, e, h => by
    unfold ckT at h
    split at h
    · simp only [Bool.and_eq_true] at h
      exact pt_tru c.wo.hK (pd_idx c.wo.hK (sE a c h.1.2) (sE i c h.2) h.1.1) rfl
    · cases h
  | .call k es, X, W, sc, cf, c, e, h => by
    unfold ckT at h
    split at h
    · rw [Bool.and_eq_true, Bool.and_eq_true, Bool.and_eq_true] at h
      exact pt_tru c.wo.hK (call_of c h.1.1.1 h.1.1.2 h.1.2 h.2 (sEs es c h.2)) rfl
    · cases h
  | .isi a t, X, W, sc, cf, c, e, h => by
    unfold ckT at h
    split at h
    · rw [Bool.and_eq_true, Bool.and_eq_true] at h
      exact pt_tru c.wo.hK (isi_of c h.1.1 h.1.2 (sE a c h.2) (ck_star a h.2)) rfl
    · cases h
  | .bi b es, X, W, sc, cf, c, e, h => by
    unfold ckT at h
    split at h
    · rw [Bool.and_eq_true, Bool.and_eq_true] at h
      exact pt_tru c.wo.hK (bi_of c h.1.1 h.1.2 h.2 (sEs es c h.2)) rfl
    · cases h
  | .cst d, X, W, sc, cf, c, e, h => by
    unfold ckT at h
    split at h
    · exact pt_tru c.wo.hK (cst_of c h) rfl
    · cases h
  | .isi2 a ts, X, W, sc, cf, c, e, h => by
    unfold ckT at h
    split at h
    · rw [Bool.and_eq_true, Bool.and_eq_true, Bool.and_eq_true] at h
      exact pt_tru c.wo.hK (isi2_of c h.1.1.1 h.1.1.2 (of_decide_eq_true h.1.2) (sE a c h.2) (ck_star a h.2)) rfl
    · cases h
  | .sme _ _ _, X, W, sc, cf, c, e, h => (Bool.false_ne_true h).elim
  | .fst _, X, W, sc, cf, c, e, h => (Bool.false_ne_true h).elim
  | .glb _, X, W, sc, cf, c, e, h => (Bool.false_ne_true h).elim
  | .fnv _, X, W, sc, cf, c, e, h => (Bool.false_ne_true h).elim
  | .bin _ _ _, X, W, sc, cf, c, e, h => (Bool.false_ne_true h).elim
  | .ife _ _ _, X, W, sc, cf, c, e, h => (Bool.false_ne_true h).elim
  | .tup _, X, W, sc, cf, c, e, h => (Bool.false_ne_true h).elim
  | .lst _ _, X, W, sc, cf, c, e, h => (Bool.false_ne_true h).elim
  | .sli _ _ _, X, W, sc, cf, c, e, h => (Bool.false_ne_true h).elim
  | .rev _ _, X, W, sc, cf, c, e, h => (Bool.false_ne_true h).elim
  | .kall _ _ _ _, X, W, sc, cf, c, e, h => (Bool.false_ne_true h).elim
  | .meth _ _ _, X, W, sc, cf, c, e, h => (Bool.false_ne_true h).elim
  | .lc _ _ _ _ _ _, X, W, sc, cf, c, e, h => (Bool.false_ne_true h).elim
theorem sTAnd : ∀ (es : CEs) {X : Cx} {W : WX} {sc : Scope} {cf : Str → Bool} (c : Cok X g W pr Gd C n N sc cf) {es' : List Expr} {pos : Pos}, (!nilEs es) = true → ckTs pr sc cf N es es' = true → PW X (.BoolOp .And es' pos) (rdT g W (tAnd Gd C es))
  | .nil, X, W, sc, cf, c, es', pos, h0, h => (Bool.false_ne_true h0).elim
  | .cons a .nil, X, W, sc, cf, c, es', pos, h0, h => by
    unfold ckTs at h
    cases es' with
    | nil => cases h
    | cons e es =>
      dsimp only at h
      rw [Bool.and_eq_true] at h
      cases es with
      | nil => exact pw_and1 (sT a c h.1)
      | cons _ _ => exact absurd h.2 (by unfold ckTs; exact Bool.false_ne_true)
  | .cons a (.cons b r), X, W, sc, cf, c, es', pos, h0, h => by
    unfold ckTs at h
    cases es' with
    | nil => cases h
    | cons e es =>
      dsimp only at h
      rw [Bool.and_eq_true] at h
      cases es with
      | nil => exact absurd h.2 (by unfold ckTs; exact Bool.false_ne_true)
      | cons e2 es2 => exact pt_and (sT a c h.1) (sTAnd (.cons b r) c rfl h.2)
theorem sTOr : ∀ (es : CEs) {X : Cx} {W : WX} {sc : Scope} {cf : Str → Bool} (c : Cok X g W pr Gd C n N sc cf) {es' : List Expr} {pos : Pos}, (!nilEs es) = true → ckTs pr sc cf N es es' = true → PW X (.BoolOp .Or es' pos) (rdT g W (tOr Gd C es))
  | .nil, X, W, sc, cf, c, es', pos, h0, h => (Bool.false_ne_true h0).elim
  | .cons a .nil, X, W, sc, cf, c, es', pos, h0, h => by
    unfold ckTs at h
    cases es' with
    | nil => cases h
    | cons e es =>
      dsimp only at h
      rw [Bool.and_eq_true] at h
      cases es with
      | nil => exact pw_or1 (sT a c h.1)
      | cons _ _ => exact absurd h.2 (by unfold ckTs; exact Bool.false_ne_true)
  | .cons a (.cons b r), X, W, sc, cf, c, es', pos, h0, h => by
    unfold ckTs at h
    cases es' with
    | nil => cases h
    | cons e es =>
      dsimp only at h
      rw [Bool.and_eq_true] at h
      cases es with
      | nil => exact absurd h.2 (by unfold ckTs; exact Bool.false_ne_true)
      | cons e2 es2 => exact pt_or (sT a c h.1) (sTOr (.cons b r) c rfl h.2)
end
end Ev
end

section
set_option Elab.async false
set_option linter.all false
set_option maxRecDepth 100000
set_option maxHeartbeats 16000000
/-! E13: statements: the checker, its soundness; the defs of a program -/
namespace Ev
open PySem PySem.Spec PyProof.Rows L2

theorem PGs.imp {X : Cx} {es : List Expr} {t u : TGs} (h : L2.PGs X es t) (i : ∀ vs σ H Q, u vs σ H Q → t vs σ H Q) : L2.PGs X es u := ⟨fun pins s σ H vs us Q I r q => h.run pins s σ H vs us Q I r (i vs σ H Q q)⟩
def nlc : Expr → Bool
  | .ListComp _ _ _ _ => false
  | .SetComp _ _ _ _ => false
  | .DictComp _ _ _ _ _ => false
  | _ => true
theorem sw_nlc {e : Expr} {t : Option Expr} {l : Nat} {env : Env} (h : nlc e = true) : swapsWith e t l env = pure false := by
  cases e <;> first | rfl | exact (Bool.false_ne_true h).elim
theorem sw_tup {e : Expr} {es : List Expr} {k : Nat} {p : Pos} {l : Nat} {env : Env} : swapsWithSole [.Tuple es k p] e l env = pure false := by
  show swapsWith e (some (.Tuple es k p)) l env = pure false
  cases e <;> rfl
theorem sw_sub {e a i : Expr} {p : Pos} {l : Nat} {env : Env} : swapsWithSole [.Subscript a i p] e l env = pure false := by
  show swapsWith e (some (.Subscript a i p)) l env = pure false
  cases e <;> rfl
theorem st_name {x : Str} {p : Pos} {e : Expr} {env : Env} : swappedStores [.Name x p] e env = pure none := by
  cases e <;> rfl
theorem st_sub {a i : Expr} {p : Pos} {e : Expr} {env : Env} : swappedStores [.Subscript a i p] e env = pure none := by
  cases e <;> rfl
def isTupE : Expr → Bool
  | .Tuple _ _ _ => true
  | _ => false
theorem st_ntup {ts : List Expr} {k : Nat} {p : Pos} {e : Expr} {env : Env} (h : isTupE e = false) : swappedStores [.Tuple ts k p] e env = pure none := by
  cases e <;> first | rfl | exact (Bool.false_ne_true h.symm).elim
def isStar : Expr → Bool
  | .Starred _ _ => true
  | _ => false
def swNm (sc : Scope) (line : Nat) : Expr → Option Str
  | .Name id pos => if sc.names.lookup id == some .local && pos.line == line then some id else none
  | _ => none
def swSt (sc : Scope) (ts vs : List Expr) : Option (Option (List Str)) :=
  if !(ts.length == 2 || ts.length == 3) || vs.length != ts.length then some none else
  if vs.any isStar then some none else
  let names := ts.filterMap (swNm sc ((ts.head?.map (·.pos.line)).getD 0))
  if names.length != ts.length || names.eraseDups.length != names.length then some none else
  if vs.all (foldedForSure 8) then some none else
  if vs.all (constantsAlone 8) then none else some (some names)
theorem swSt_of {sc : Scope} {ts vs : List Expr} {k k2 : Nat} {p p2 : Pos} {env : Env} {r : Option (List Str)} (hs : env.scope = sc) (hk : sc.kind = .function) (h : swSt sc ts vs = some r) : swappedStores [.Tuple ts k p] (.Tuple vs k2 p2) env = pure r := by
  subst hs
  have hb : env.blockKind = .function := by unfold Env.blockKind; rw [hk]; rfl
  unfold swappedStores
  rw [hb]
  have hz : (ScopeKind.function != ScopeKind.function) = false := by decide
  rw [hz]
  change (if (!(ts.length == 2 || ts.length == 3) || vs.length != ts.length || false) = true then (pure none : Sem (Option (List Str))) else
    if vs.any isStar = true then pure none else
    if ((ts.filterMap (swNm env.scope ((ts.head?.map (·.pos.line)).getD 0))).length != ts.length || (ts.filterMap (swNm env.scope ((ts.head?.map (·.pos.line)).getD 0))).eraseDups.length != (ts.filterMap (swNm env.scope ((ts.head?.map (·.pos.line)).getD 0))).length) = true then pure none else
    if vs.all (foldedForSure 8) = true then pure none else
    if vs.all (constantsAlone 8) = true then _ else pure (some (ts.filterMap (swNm env.scope ((ts.head?.map (·.pos.line)).getD 0))))) = _
  unfold swSt at h
  dsimp only at h
  rw [Bool.or_false]
  split
  · rename_i h1; rw [if_pos h1] at h; cases h; rfl
  · rename_i h1
    rw [if_neg h1] at h
    split
    · rename_i h2; rw [if_pos h2] at h; cases h; rfl
    · rename_i h2
      rw [if_neg h2] at h
      split
      · rename_i h3; rw [if_pos h3] at h; cases h; rfl
      · rename_i h3
        rw [if_neg h3] at h
        split
        · rename_i h4; rw [if_pos h4] at h; cases h; rfl
        · rename_i h4
          rw [if_neg h4] at h
          split
          · rename_i h5; rw [if_pos h5] at h; cases h
          · rename_i h5; rw [if_neg h5] at h; cases h; rfl
/-! ### unpacking onto names and places -/
def tU (g : Gc) (W : WX) (Gd : List PyData) (C : Calls) (ts : List CT) : TGs := fun xs σ H Q => ∃ F f R ρ S ds D, Sm g F f R S H ∧ En g F f ρ σ ∧ DaAll g.K F xs ds ∧ ds.length = ts.length ∧ (∀ σ' H', D.nx σ' H' → Q σ' H') ∧ SatS g F f R W (unpD Gd C ts ds ρ S) D
section
variable {X : Cx} {g : Gc} {W : WX} {Gd : List PyData} {C : Calls}
theorem pu_nil : PGs X [] (tU g W Gd C []) := PGs.imp pgs_nil fun xs σ H Q ⟨F, f, R, ρ, S, ds, D, s, e, t, hl, hq, h⟩ => by
  cases ds with
  | cons _ _ => cases hl
  | nil =>
    cases t
    exact ⟨rfl, hq _ _ (h.nx s e)⟩
theorem pu_nm {i : Nat} {ts : List CT} {e : Expr} {es : List Expr} (h1 : PG X e (gName i)) (hn : nstar e = true) (h2 : PGs X es (tU g W Gd C ts)) : PGs X (e :: es) (tU g W Gd C (.nm i :: ts)) :=
  PGs.imp (pgs_cons h1 h2 (by rw [asg_cons hn]; rfl)) fun xs σ H Q ⟨F, f, R, ρ, S, ds, D, s, e, t, hl, hq, h⟩ => by
    cases t with
    | nil => cases hl
    | cons t1 t2 => exact ⟨_, _, rfl, F, f, R, _, S, _, D, s, e.set i (v := .d _) t1, t2, by simpa using hl, hq, h⟩
theorem pu_sub {a i : CE} {ts : List CT} {o ix : Expr} {p : Pos} {es : List Expr} (ho : PE X o (rd g W (dE Gd C a))) (hi : PE X ix (rd g W (dE Gd C i))) (hn : nslice ix = true) (h2 : PGs X es (tU g W Gd C ts)) : PGs X (.Subscript o ix p :: es) (tU g W Gd C (.sub a i :: ts)) :=
  PGs.imp (pgs_cons (pg_sub ho hi set_list (by intro v; cases ix <;> first | rfl | exact (Bool.false_ne_true hn).elim)) h2 (by rw [asg_cons rfl]; rfl)) fun xs σ H Q ⟨F, f, R, ρ, S, ds, D, s, e, t, hl, hq, h⟩ => by
    cases t with
    | nil => cases hl
    | cons t1 t2 =>
      refine ⟨_, _, rfl, ?_⟩
      refine rS s e (Sat.sbind (S := S) h) fun v F1 f1 S1 H1 x e1 s1 en1 r1 h1 => ?_
      refine rS s1 en1 (Sat.sbind (S := S) h1) fun u F2 f2 S2 H2 y e2 s2 en2 r2 h2 => ?_
      exact real_set s2 (r1.sub e2) r2 (w := .d _) (Da.sub e2.le (Da.sub e1.le t1)) ((S_of h2 en2).imp fun _ F4 f4 S4 H4 e4 s4 _ h4 =>
        ⟨F4, f4, R, ρ, S4, _, D, s4, en2.sub e4, DaAll.sub e4.le (DaAll.sub e2.le (DaAll.sub e1.le t2)), by simpa using hl, hq, h4⟩)
theorem sd_unp {te : TD Val} {ts : List CT} {es : List Expr} {e : Expr} {k : Nat} {p pos : Pos} (hK : g.K = X.K) (hc : X.calm = true) (he : PE X e (rd g W te)) (hg : PGs X es (tU g W Gd C ts)) (hst : es.all nstar = true) (hl : es.length = ts.length) (hw : swappedStores [.Tuple es k p] e X.env = pure none) :
    PS X (.Assign [.Tuple es k p] e pos) (rdS g W fun ρ S => (te ρ S).s ρ fun v S1 => match v with
      | .d (.tuple xs) => if xs.length = ts.length then unpD Gd C ts xs ρ S1 else .stuck
      | _ => .stuck) := by
  obtain ⟨n1, n2⟩ := hn_names (env := X.env) hst
  refine (ps_asg he (pg_tup hc hg (n1.trans hl) n2) sw_tup hw rfl).imp fun D σ H ⟨F, f, R, ρ, S, s, e, h⟩ => ?_
  refine rS s e h fun v F1 f1 S1 H1 x e1 s1 en1 r1 h1 => ?_
  split at h1
  · split at h1
    · rename_i hlen
      cases r1 with
      | tup h2 t => exact ⟨_, _, rfl, hK ▸ SqT.sub s1.le h2, by rw [t.len]; exact hlen, F1, f1, R, ρ, S1, _, D, s1, en1, t, hlen, fun _ _ h => h, h1⟩
    · exact h1.elim
  · exact h1.elim
end
/-! ### the checker -/
section
variable (pr : Pg)
def ckUn (sc : Scope) (N : List Str) : List CT → List Expr → Bool
  | [], es => es.isEmpty
  | .nm i :: ts, es => match es with
    | e :: es => tgB sc (fun _ => true) N i e && ckUn sc N ts es
    | [] => false
  | .sub a i :: ts, es => match es with
    | .Subscript a' i' _ :: es => nslice i' && ckE pr sc (fun _ => true) N a a' && ckE pr sc (fun _ => true) N i i' && ckUn sc N ts es
    | _ => false
/-- a list comprehension goes to a local name of the same line -/
def ckLc (sc : Scope) (y : Str) (py : Pos) : Expr → Bool
  | .ListComp _ _ scope p => (py.line == p.line) && !(scope.names.any fun (n, k) => n == y && (k == .local || k == .cell))
  | _ => false
def isLc : CE → Bool
  | .lc _ _ _ _ _ _ => true
  | _ => false
def noneB : Option (Option (List Str)) → Bool
  | some none => true
  | _ => false
def ckAsg (sc : Scope) (N : List Str) (t : Tg) (e : CE) (tg e' : Expr) : Bool := match t, tg with
  | .nm i, .Name x p => tgB sc (fun _ => true) N i tg && ckE pr sc (fun _ => true) N e e' && (nlc e' || (decide (sc.names.lookup x = some .cell) && isLc e) || (decide (sc.names.lookup x = some .local) && ckLc sc x p e' && isLc e))
  | .tup is, .Tuple ts _ _ => tgsB sc (fun _ => true) N is ts && ckE pr sc (fun _ => true) N e e' && (match e' with
    | .Tuple vs _ _ => noneB (swSt sc ts vs)
    | _ => true)
  | _, _ => false
def ckPar (sc : Scope) (N : List Str) (is : List Nat) (es : CEs) (ts vs : List Expr) : Bool := match is, ts, vs with
  | [i, j], [.Name x _, .Name y _], [_, _] => decide (N[i]? = some x) && decide (N[j]? = some y) && decide (i ≠ j) && decide (sc.names.lookup x = some .local) && decide (sc.names.lookup y = some .local) && decide (swSt sc ts vs = some (some [x, y])) && ckEs pr sc (fun _ => true) N es vs
  | [i, j, l], [.Name x _, .Name y _, .Name z _], [_, _, _] => decide (N[i]? = some x) && decide (N[j]? = some y) && decide (N[l]? = some z) && decide (i ≠ j ∧ i ≠ l ∧ j ≠ l) && decide (sc.names.lookup x = some .local) && decide (sc.names.lookup y = some .local) && decide (sc.names.lookup z = some .local) &&
    decide (swSt sc ts vs = some (some [x, y, z])) && ckEs pr sc (fun _ => true) N es vs
  | _, _, _ => false
mutual
def ckS (sc : Scope) (N : List Str) : CS → Stmt → Bool
  | .ret a, s => match s with
    | .Return (some e) _ => ckE pr sc (fun _ => true) N a e
    | _ => false
  | .retN, s => match s with
    | .Return none _ => true
    | _ => false
  | .ife c a b, s => match s with
    | .If c' a' b' _ => ckT pr sc (fun _ => true) N c c' && ckSs sc N a a' && ckSs sc N b b'
    | _ => false
  | .asg t e, s => match s with
    | .Assign [tg] e' _ => ckAsg pr sc N t e tg e'
    | _ => false
  | .par is es, s => match s with
    | .Assign [.Tuple ts _ _] (.Tuple vs _ _) _ => ckPar pr sc N is es ts vs
    | _ => false
  | .seti a i e, s => match s with
    | .Assign [.Subscript a' i' _] e' _ => nslice i' && ckE pr sc (fun _ => true) N a a' && ckE pr sc (fun _ => true) N i i' && ckE pr sc (fun _ => true) N e e'
    | _ => false
  | .unp ts e, s => match s with
    | .Assign [.Tuple es' _ _] e' _ => ckUn pr sc N ts es' && es'.all nstar && decide (es'.length = ts.length) && !isTupE e' && ckE pr sc (fun _ => true) N e e'
    | _ => false
  | .for_ tg it b, s => match s with
    | .For tg' it' b' [] _ => nset it' && ckTg sc (fun _ => true) N tg tg' && ckI pr sc (fun _ => true) N (isTup tg') it it' && ckSs sc N b b'
    | _ => false
  | .whl _ c b, s => match s with
    | .While c' b' [] _ => ckT pr sc (fun _ => true) N c c' && ckSs sc N b b'
    | _ => false
  | .expr e, s => match s with
    | .Expr e' _ => nlc e' && ckE pr sc (fun _ => true) N e e'
    | _ => false
  | .pass, s => match s with
    | .Pass _ => true
    | .Expr (.Constant (.str _) _ _) _ => true
    | _ => false
  | .brk, s => match s with
    | .Break _ => true
    | _ => false
  | .cnt, s => match s with
    | .Continue _ => true
    | _ => false
  | .raise _ _, _ => false
  | .never, _ => true
def ckSs (sc : Scope) (N : List Str) : CSs → List Stmt → Bool
  | .nil, ss => ss.isEmpty
  | .cons a r, ss => match ss with
    | s :: ss => ckS sc N a s && ckSs sc N r ss
    | [] => false
end
end
end Ev
end

section
set_option Elab.async false
set_option linter.all false
set_option maxRecDepth 100000
set_option maxHeartbeats 16000000
/-! E14: statements and defs are sound -/
namespace Ev
open PySem PySem.Spec PyProof.Rows L2
section
variable {g : Gc} {pr : Pg} {Gd : List PyData} {C : Calls} {n : Nat} {N : List Str} {sc : Scope} {X : Cx} {W : WX}
theorem un_of (c : Cok X g W pr Gd C n N sc fun _ => true) : ∀ {ts : List CT} {es : List Expr}, ckUn pr sc N ts es = true → PGs X es (tU g W Gd C ts)
  | [], es, h => by
    cases es with
    | nil => exact pu_nil
    | cons _ _ => cases h
  | .nm i :: ts, es, h => by
    unfold ckUn at h
    cases es with
    | nil => cases h
    | cons e es =>
      dsimp only at h
      rw [Bool.and_eq_true] at h
      obtain ⟨h1, h2⟩ := tg_of c h.1
      exact pu_nm h1 h2 (un_of c h.2)
  | .sub a i :: ts, es, h => by
    unfold ckUn at h
    split at h
    · simp only [Bool.and_eq_true] at h
      exact pu_sub (sE a c h.1.1.2) (sE i c h.1.2) h.1.1.1 (un_of c h.2)
    · cases h
theorem lc_asg (c : Cok X g W pr Gd C n N sc fun _ => true) {m : Bool} {elt : CE} {own : List (Str × Nat)} {tg : Tg} {it : CI} {cond : CO} {i : Nat} {y : Str} {py spos : Pos} {e : Expr}
    (h : ckE pr sc (fun _ => true) N (.lc m elt own tg it cond) e = true) (hi : N[i]? = some y) (hy : sc.names.lookup y = some .local) (hl : ckLc sc y py e = true) : PS X (.Assign [.Name y py] e spos) (rdS g W (asgD (.nm i) (dE Gd C (.lc m elt own tg it cond)))) := by
  unfold ckE at h
  split at h
  · rename_i elt' tg' iter' ifs' scope p
    simp only [Bool.and_eq_true, List.all_eq_true, decide_eq_true_eq] at h
    obtain ⟨⟨⟨⟨⟨⟨h1, h2⟩, h3⟩, h4⟩, h5⟩, h6⟩, h7⟩ := h
    have ok := blkOk_by h1
    have nd : X.N.Nodup := by rw [c.hN]; exact c.nd
    have ok' : BlkOk X.N X.env.scope scope own := by rw [c.hN, c.hsc]; exact ok
    unfold ckLc at hl
    rw [Bool.and_eq_true, Bool.not_eq_true'] at hl
    have hk : X.env.scope.kind = .function := by rw [c.hsc]; exact c.kd
    have hy' : X.env.scope.names.lookup y = some .local := by rw [c.hsc]; exact hy
    exact sd_setLc c.calm nd (by rw [c.hN]; exact hi) hy' (sw_true hk hy' hl.1 hl.2) (sI it c h5) ok' (tgG_r g tg) h4 (fun s H C' cl fp => (ckTg_of (c.blk ok.kind s H C' cl fp) h3).1)
      (fun s H C' cl fp => sC cond (c.blk ok.kind s H C' cl fp) h6) (fun s H C' cl fp => sE elt (c.blk ok.kind s H C' cl fp) h7) (fold_of h2)
  · cases h
theorem sw_cell {e : Expr} {y : Str} {p : Pos} {l : Nat} {env : Env} (h : env.scope.names.lookup y = some .cell) : swapsWith e (some (.Name y p)) l env = pure false := by
  have hk : (env.kindOf y == some NameKind.local) = false := by
    show (env.scope.names.lookup y == some NameKind.local) = false
    rw [h]; rfl
  cases e <;> first
    | rfl
    | (unfold swapsWith; simp only [hk, Bool.and_false, Bool.false_and])
theorem asg_of (c : Cok X g W pr Gd C n N sc fun _ => true) {t : Tg} {e : CE} {tg e' : Expr} {pos : Pos} (h : ckAsg pr sc N t e tg e' = true) : PS X (.Assign [tg] e' pos) (rdS g W (asgD t (dE Gd C e))) := by
  unfold ckAsg at h
  split at h
  · rename_i i x p
    rw [Bool.and_eq_true, Bool.and_eq_true, Bool.or_eq_true, Bool.or_eq_true] at h
    obtain ⟨⟨h1, h2⟩, h3⟩ := h
    have q := h1
    unfold tgB at q
    simp only [Bool.and_eq_true, Bool.or_eq_true, decide_eq_true_eq, and_true] at q
    have hN : X.N[i]? = some x := by rw [c.hN]; exact q.1
    have nd : X.N.Nodup := by rw [c.hN]; exact c.nd
    have hloc : Loc X.env.scope x := by rw [c.hsc]; exact q.2
    rcases h3 with (h3 | h3) | h3
    · exact sd_set nd hN hloc (sE e c h2) (sw_nlc h3) (.inl (c.fn x rfl))
    · rw [Bool.and_eq_true] at h3
      exact sd_set nd hN hloc (sE e c h2) (sw_cell (by rw [c.hsc]; exact of_decide_eq_true h3.1)) (.inl (c.fn x rfl))
    · rw [Bool.and_eq_true, Bool.and_eq_true] at h3
      obtain ⟨⟨h4, h5⟩, h6⟩ := h3
      cases e <;> first
        | exact (Bool.false_ne_true h6).elim
        | exact lc_asg c h2 q.1 (of_decide_eq_true h4) h5
  · rename_i is ts k p
    rw [Bool.and_eq_true, Bool.and_eq_true] at h
    obtain ⟨⟨h1, h2⟩, h3⟩ := h
    obtain ⟨g1, g2⟩ := ckTg_of (t := .tup is) (e := .Tuple ts k p) c h1
    refine sd_asg (tgG_r g (.tup is)) (sE e c h2) g1 sw_tup ?_ rfl
    by_cases ht : isTupE e' = true
    · cases e' <;> first
        | exact (Bool.false_ne_true ht).elim
        | (dsimp only at h3
           unfold noneB at h3
           split at h3
           · rename_i hs
             exact swSt_of c.hsc c.kd hs
           · cases h3)
    · exact st_ntup (Bool.eq_false_iff.mpr ht)
  · cases h
theorem par_of (c : Cok X g W pr Gd C n N sc fun _ => true) {is : List Nat} {es : CEs} {ts vs : List Expr} {k k2 : Nat} {p p2 pos : Pos} (h : ckPar pr sc N is es ts vs = true) : PS X (.Assign [.Tuple ts k p] (.Tuple vs k2 p2) pos) (rdS g W (parS is (dEs Gd C es))) := by
  have nd : X.N.Nodup := by rw [c.hN]; exact c.nd
  unfold ckPar at h
  split at h
  · simp only [Bool.and_eq_true, decide_eq_true_eq] at h
    obtain ⟨⟨⟨⟨⟨⟨h1, h2⟩, h3⟩, h4⟩, h5⟩, h6⟩, h7⟩ := h
    exact sd_par c.calm nd (by rw [c.hN]; exact h1) (by rw [c.hN]; exact h2) h3 (by rw [c.hsc]; exact h4) (by rw [c.hsc]; exact h5) (sEs es c h7) (swSt_of c.hsc c.kd h6)
  · simp only [Bool.and_eq_true, decide_eq_true_eq] at h
    obtain ⟨⟨⟨⟨⟨⟨⟨⟨h1, h2⟩, h3⟩, ⟨h4, h5, h6⟩⟩, h7⟩, h8⟩, h9⟩, h10⟩, h11⟩ := h
    exact sd_par3 c.calm nd (by rw [c.hN]; exact h1) (by rw [c.hN]; exact h2) (by rw [c.hN]; exact h3) h4 h5 h6 (by rw [c.hsc]; exact h7) (by rw [c.hsc]; exact h8) (by rw [c.hsc]; exact h9) (sEs es c h11) (swSt_of c.hsc c.kd h10)
  · cases h
end
section
variable {g : Gc} {pr : Pg} {Gd : List PyData} {C : Calls} {n : Nat} {N : List Str} {sc : Scope} {X : Cx} {W : WX}
mutual
theorem sS (c : Cok X g W pr Gd C n N sc fun _ => true) (own : PassesOwn (model X.prog X.w) X.A X.env X.xe) : ∀ (cs : CS) {s : Stmt}, ckS pr sc N cs s = true → PS X s (rdS g W (dS Gd C cs))
  | .ret a, s, h => by
    unfold ckS at h
    split at h
    · exact sd_ret (sE a c h)
    · cases h
  | .retN, s, h => by
    unfold ckS at h
    split at h
    · exact sd_retN
    · cases h
  | .ife t a b, s, h => by
    unfold ckS at h
    split at h
    · simp only [Bool.and_eq_true] at h
      exact sd_if (sT t c h.1.1) (sSs c own a h.1.2) (sSs c own b h.2)
    · cases h
  | .asg t e, s, h => by
    unfold ckS at h
    split at h
    · exact asg_of c h
    · cases h
  | .par is es, s, h => by
    unfold ckS at h
    split at h
    · exact par_of c h
    · cases h
  | .seti a i e, s, h => by
    unfold ckS at h
    split at h
    · rename_i a' i' p e' q
      simp only [Bool.and_eq_true] at h
      exact sd_seti (sE a c h.1.1.2) (sE i c h.1.2) (sE e c h.2) sw_sub st_sub (by have hn := h.1.1.1; intro v; cases i' <;> first | rfl | exact (Bool.false_ne_true hn).elim)
    · cases h
  | .unp ts e, s, h => by
    unfold ckS at h
    split at h
    · simp only [Bool.and_eq_true, decide_eq_true_eq, Bool.not_eq_true'] at h
      obtain ⟨⟨⟨⟨h1, h2⟩, h3⟩, h4⟩, h5⟩ := h
      exact sd_unp c.wo.hK c.calm (sE e c h5) (un_of c h1) h2 h3 (st_ntup h4)
    · cases h
  | .for_ tg it b, s, h => by
    unfold ckS at h
    split at h
    · simp only [Bool.and_eq_true] at h
      obtain ⟨⟨⟨h1, h2⟩, h3⟩, h4⟩ := h
      exact sd_for own c.calm (tgG_r g tg) (sI it c h3) (ckTg_of c h2).1 (sSs c own b h4) (fold_of h1)
    · cases h
  | .whl k t b, s, h => by
    unfold ckS at h
    split at h
    · simp only [Bool.and_eq_true] at h
      exact sd_whl own (sT t c h.1) (sSs c own b h.2)
    · cases h
  | .expr e, s, h => by
    unfold ckS at h
    split at h
    · simp only [Bool.and_eq_true] at h
      exact sd_expr (sE e c h.2) (sw_nlc h.1)
    · cases h
  | .pass, s, h => by
    unfold ckS at h
    split at h
    · exact sd_pass
    · exact sd_doc
    · cases h
  | .brk, s, h => by
    unfold ckS at h
    split at h
    · exact sd_brk
    · cases h
  | .cnt, s, h => by
    unfold ckS at h
    split at h
    · exact sd_cnt
    · cases h
  | .raise k e, s, h => (Bool.false_ne_true h).elim
  | .never, s, h => sd_never
theorem sSs (c : Cok X g W pr Gd C n N sc fun _ => true) (own : PassesOwn (model X.prog X.w) X.A X.env X.xe) : ∀ (cs : CSs) {ss : List Stmt}, ckSs pr sc N cs ss = true → PSs X ss (rdS g W (dSs Gd C cs))
  | .nil, ss, h => by
    unfold ckSs at h
    cases ss with
    | nil => exact ss_nil
    | cons _ _ => cases h
  | .cons a r, ss, h => by
    unfold ckSs at h
    cases ss with
    | nil => cases h
    | cons s ss =>
      dsimp only at h
      rw [Bool.and_eq_true] at h
      exact ss_cons (sS c own a h.1) (sSs c own r h.2)
end
end
/-! ### all defs of a program -/
structure Tx (P : Program) (w : World) (K : PySem.W.Frag) (mg : Str → Option Value) (base : Heap) (g : Gc) (pr : Pg) (Gd : List PyData) (T : List Df) : Prop where
  hK : g.K = K
  sy : SysK K
  gl : ∀ (k : Nat) (x : Str), pr.gl[k]? = some x → ∃ d v u, Gd[k]? = some d ∧ mg x = some u ∧ RelV v u ∧ ∀ F, Da g.K F v d
  bl : ∀ x ∈ pr.bl, mg x = none
  fn : ∀ (k : Nat) (dd : Dd), pr.defs[k]? = some dd → mg dd.name = some (.ref (g.ad k)) ∧ PySem.W.keepIn K (.ref (g.ad k)) = true ∧
    ∃ (x qual : Str) (params : Arguments) (body : List Stmt) (scope : Scope) (dvs : List V) (kws : List (Str × V)) (fd : FuncData) (N : List Str) (df : Df), FunD K x qual params body scope dvs kws (g.ad k) fd ∧ FnScope N dd.ps scope ∧
      T[k]? = some df ∧ df.np = dd.ps.length ∧ df.nn = N.length ∧ ckSs pr scope N df.body body = true ∧ L2.Binds K fd dd.ps [] ∧ ∀ q ∈ pr.kws, q.1 = k → KwB K fd dd.ps q.2.1 q.2.2.1 q.2.2.2
section
variable {P : Program} {w : World} {K : PySem.W.Frag} {mg : Str → Option Value} {base : Heap} {g : Gc} {pr : Pg} {Gd : List PyData} {T : List Df}
/-- the defs at a depth -/
def FnA (P : Program) (w : World) (K : PySem.W.Frag) (mg : Str → Option Value) (base : Heap) (g : Gc) (pr : Pg) (Gd : List PyData) (T : List Df) (n : Nat) : Prop := ∀ (k : Nat) (dd : Dd), pr.defs[k]? = some dd → mg dd.name = some (.ref (g.ad k)) ∧ PySem.W.keepIn K (.ref (g.ad k)) = true ∧
    ∃ fd, (∃ oc od osl, K.lookup (g.ad k) = some ⟨oc, od, .func fd, osl⟩) ∧ FnG P w K mg base n (g.ad k) fd dd.ps (spD g (sem Gd T n) k dd.ps.length) ∧ L2.Binds K fd dd.ps [] ∧ ∀ q ∈ pr.kws, q.1 = k → KwB K fd dd.ps q.2.1 q.2.2.1 q.2.2.2
theorem FunD.at_ {x qual : Str} {params : Arguments} {body : List Stmt} {scope : Scope} {dvs : List V} {kws : List (Str × V)} {f : Addr} {fd : FuncData} (F : L2.FunD K x qual params body scope dvs kws f fd) : ∃ oc od osl, K.lookup f = some ⟨oc, od, .func fd, osl⟩ :=
  let ⟨oc, od, _, _, _, _, _, _, _, osl, _, lk, _⟩ := F.ex
  ⟨oc, od, osl, lk⟩
theorem fn_all (t : Tx P w K mg base g pr Gd T) : ∀ n, FnA P w K mg base g pr Gd T n
  | 0 => fun k dd hk => by
    obtain ⟨h1, h2, x, qual, params, body, scope, dvs, kws, fd, N, df, h3, h4, h5, h6, h7, h8, h9, h10⟩ := t.fn k dd hk
    refine ⟨h1, h2, fd, FunD.at_ h3, ⟨spD_len, fun A outer s H args us vs Q E hr hg e0 hb r hsp => ?_⟩, h9, h10⟩
    obtain ⟨F, f, R, S, as, _, _, _, z⟩ := hsp
    exact z.elim
  | n + 1 => fun k dd hk => by
    have ih := fn_all t n
    obtain ⟨h1, h2, x, qual, params, body, scope, dvs, kws, fd, N, df, h3, h4, h5, h6, h7, h8, h9, h10⟩ := t.fn k dd hk
    refine ⟨h1, h2, fd, FunD.at_ h3, fnG_of h3 h4 spD_len fun cdv A outer s H vs Q E hr hg hsp => ?_, h9, h10⟩
    obtain ⟨F, f, R, S, as, sm, rs, hl, z⟩ := hsp
    have c : Cok (cxOf (L2.CX P w) P w K mg base N qual scope (g.ad k) cdv A outer s H E) g (fun cls d _ H => E cls d H) pr Gd (sem Gd T n) n N scope fun _ => true :=
      ⟨⟨t.hK, t.sy, hr, hg, t.gl, t.bl, fun k dd h => let ⟨a, b, fd, _, c⟩ := ih k dd h; ⟨a, b, fd, c⟩⟩, rfl, h4.nd, rfl, h4.kind, rfl, takes_of rfl rfl rfl rfl, fun _ _ => rfl⟩
    refine ⟨_, sSs c (passes_of rfl) df.body h8, F, f, R, entry df.np df.nn as, S, sm, entry_en h7.symm rs, ?_⟩
    have z : Sat g F f R (fun C d H' => E C d H') (sem Gd T (n + 1) k as S) fun v F' f' S' H' => ∀ x, VR g F' f' x v → Q x H' := z
    unfold sem at z
    rw [h5] at z
    dsimp only at z
    rw [if_pos (hl.trans h6.symm)] at z
    exact body_of sm.len z
end
end Ev
end

section
set_option Elab.async false
set_option linter.all false
set_option maxRecDepth 100000
set_option maxHeartbeats 4000000
/-! E15: a law's end -/
namespace Ev
open PySem PySem.Spec PyProof.Rows L2

/-! ### the law's def is called with the script -/
theorem law_callG {P : Program} {w : World} {K : PySem.W.Frag} {mg mb : Str → Option Value} {k : Nat} {fa a : Addr} {fd : FuncData} {x : Str} {sp : Sp} {s₁ : Shared} {vs : List Value} {ns : List Int}
    (KX : K.In s₁.heap) (hns : s₁.heap.Ns mainGlobals mg) (hb : s₁.heap.Ns builtinsNs mb) (hbb : ∀ x : Str, x ≠ "__name__" → mb x = bootBuiltins x) (hlim : s₁.heap.NoLimit) (hg : s₁.gens = #[])
    (ha : s₁.heap.get? a = some { cls := .type "list", data := .seq vs.toArray }) (hi : IntsAre vs ns) (hl : ns.length ≤ sizeLine) (hr : Room k callerA) (nk : K.lookup a = none)
    (Fn : ∀ base : Heap, K.In base → base.Ns mainGlobals mg → FnG P w K mg base k fa fd [x] sp) (hbind : ∀ (s : Shared) (u : Value), BindsTo s fd ⟨[u], []⟩ [(x, u)])
    (hsp : ∀ H : Hp, Rd H a (.lst (ns.map V.int)) → sp [.ref a] H (fun v _ => v = .bl true) fun _ _ _ => False) :
    codeAny (model P w) callerA (.call (.ref fa) ⟨[.ref a], []⟩) (fun r s' => r = .ok (.ret (.bool true)) ∧ OldK s₁.heap s'.heap ∧ s'.os = s₁.os ∧ AllBare s'.gens) s₁ := by
  generalize hob : ({ cls := .type "list", data := .seq vs.toArray } : Obj) = ob at ha
  generalize hH : (fun b => if b = a then some (HO.frz ob (.lst (ns.map V.int))) else none : Hp) = H
  have at_a : H a = some (.frz ob (.lst (ns.map V.int))) := by subst hH; exact if_pos rfl
  have off : ∀ b, b ≠ a → H b = none := fun b hb => by subst hH; exact if_neg hb
  have only : ∀ {b : Addr} {o : Obj}, s₁.heap.get? b = some o → b ≠ a → (hidT s₁.heap H).get? b = some o := fun e n => hidT_get e (off _ n)
  have ns_off : ∀ {b : Addr} {m : Str → Option Value}, s₁.heap.Ns b m → (hidT s₁.heap H).Ns b m := fun {b m} ⟨o, es, ep, e, d, r⟩ => by
    refine ⟨o, es, ep, only e fun z => ?_, d, r⟩
    subst z
    rw [ha] at e; cases e
    rw [← hob] at d
    cases d
  have inK : K.In (hidT s₁.heap H) := fun b o e => only (KX b o e) fun z => by
    subst z
    rw [nk] at e; cases e
  have mod : Mod K mg (hidT s₁.heap H) := ⟨inK, ns_off hns, ⟨mb, ns_off hb, hbb⟩, let ⟨mc, h1, h2⟩ := hlim; ⟨mc, ns_off h1, h2⟩⟩
  have hok : HOk P w H s₁.heap := fun b u z => by
    by_cases e : b = a
    · subst e
      rw [at_a] at z; cases z
      exact ⟨ha, by rw [List.length_map]; exact hl, vs, _, vals_ints hi, by rw [ha, ← hob]⟩
    · rw [off b e] at z; cases z
  have env : Env0 P w K mg (hidT s₁.heap H) callerA [] s₁ H := ⟨rfl, mod, fun b o e => of_hidT e, Nat.le_of_eq (hidT_size _ _), trivial, fun b z => absurd (show b ∈ ([] : List Addr) from z) (by simp), hok, .of_eq hg⟩
  refine codeAny_mono ((Fn _ inK (ns_off hns)).run callerA [] s₁ H ⟨[.ref a], []⟩ [.ref a] [.ref a] _ _ hr rfl env (hbind s₁ (.ref a)) (.cons rfl .nil) (hsp H (.inr ⟨ob, at_a⟩))) fun r s' h => ?_
  cases r with
  | error e =>
    obtain ⟨_, _, _, _, _, _, _, _, _, _, _, _, z⟩ := (show L2.CX P w [] H s₁ (fun _ _ _ => False) e s' from h)
    exact z.elim
  | ok fl =>
    cases fl with
    | next => exact False.elim h
    | brk => exact False.elim h
    | cont => exact False.elim h
    | ret u =>
      obtain ⟨v, H', os, bare, un, hok', r', q⟩ := h
      have q' : v = .bl true := q
      subst q'
      obtain rfl : u = Value.bool true := r'
      refine ⟨rfl, OldK.of_keep fun b o e => ?_, os, bare⟩
      by_cases eb : b = a
      · subst eb
        have z2 := un.frzs b ob _ at_a
        obtain ⟨e1, _⟩ := hok b _ at_a
        obtain ⟨e2, _⟩ := hok' b _ z2
        rw [e] at e1; cases e1
        exact e2
      · exact un.keep b o e (off b eb) (by intro z; exact absurd (show b ∈ ([] : List Addr) from z) (by simp)) (by simp)
/-- the promise about the script -/
theorem spD_law {g : Gc} {K : PySem.W.Frag} {C : Calls} {k : Nat} {ns : List Int} {a : Addr} {H : Hp} (hK : g.K = K) (h : Rd H a (.lst (ns.map V.int))) (z : ∃ S', C k [.d (.list (ns.map .int))] [] = .ok (.d (.bool true)) S') :
    spD g C k 1 [.ref a] H (fun v _ => v = .bl true) fun _ _ _ => False := by
  obtain ⟨S', z⟩ := z
  have allI : ∀ ns : List Int, DaAll g.K H (ns.map V.int) (ns.map PyData.int) := by
    intro ns
    induction ns with
    | nil => exact .nil
    | cons n ns ih => exact .cons (.int n) ih
  refine ⟨H, [], [], [], [.d (.list (ns.map .int))], ⟨fun _ _ e => e, fun _ z => absurd z (by simp), List.nodup_nil, rfl, fun n ob a z => by simp at z, fun q z => absurd z (by simp)⟩, .cons (.lst h (allI ns)) .nil, rfl, ?_⟩
  rw [z]
  intro F' f' H' _ _ x r
  cases r
  rfl
theorem walkV {l : PySem.W.OpenLaw} {n m k : Nat} {q : Program} {loose : List Str} {XP : (Str → Option Value) → Heap → Prop} {YP : World → Heap → Prop} {d : DefRec} {x : Str}
    (hn : l.most = some n) (hn2 : n ≤ sizeLine) (hdf : d.params.defaults = []) (hr : Room m callerA) {Gd : List PyData} {T : List Df}
    (sound : ∀ ns : List Int, ns.length ≤ n → ∃ S', sem Gd T m k [.d (.list (ns.map .int))] [] = .ok (.d (.bool true)) S')
    (Fn : ∀ (w : World) (mg : Str → Option Value) (fa : Addr) (h : Heap), YP w h → h.Ns mainGlobals mg → mg d.name = some (.ref fa) →
      ∃ (K : PySem.W.Frag) (fd : FuncData) (g : Gc), K.In h ∧ g.K = K ∧ (∀ a o, K.lookup a = some o → o.cls ≠ .type "list") ∧ (∀ (s : Shared) (u : Value), BindsTo s fd ⟨[u], []⟩ [(x, u)]) ∧
        ∀ base : Heap, K.In base → base.Ns mainGlobals mg → FnG l.prog w K mg base m fa fd [x] (spD g (sem Gd T m) k 1)) :
    PySem.W.WalkO q loose XP YP l.row.toRowW d [] (fun f vs => PySem.call f vs) := by
  refine Att.attach_call hn hdf fun w s₀ s₁ mg mb fa o pm cd doc a vs ns G Y ho hd hcd hmg hobj hints hlen hg => ?_
  obtain ⟨K, fd, g, KX, hK, nl, hb, hF⟩ := Fn w mg fa _ Y G.T.g hmg
  have nk : K.lookup a = none := by
    cases e : K.lookup a with
    | none => rfl
    | some o =>
      have := KX a o e
      rw [hobj] at this
      cases this
      exact absurd rfl (nl a _ e)
  exact law_callG KX G.T.g G.T.b G.T.builtins G.T.nolimit hg hobj hints (Nat.le_trans hlen hn2) hr nk hF hb fun H hS => spD_law hK hS (sound ns hlen)

/-! ### what the run of the top tells -/
def kOf (n : Nat) (g : Addr → Option Obj) : PySem.W.Frag := He.frG g (sysModules :: He.asD g n)
abbrev AlV : Type := Bool × List He.FnW
def SaysV (fn : List He.DefD) (ex : PySem.W.Frag → Bool) (K : PySem.W.Frag) : Prop := ((fn.all fun d => d.ok K) && ex K, fn.map fun d => He.fnW K d.at_) = (true, fn.map He.DefD.val)
def obsV (n : Nat) (fn : List He.DefD) (ex : PySem.W.Frag → Bool) (g : Addr → Option Obj) : AlV := (fun K => ((fn.all fun d => d.ok K) && ex K, fn.map fun d => He.fnW K d.at_)) (kOf n g)
def hookV (n : Nat) (fn : List He.DefD) (ex : PySem.W.Frag → Bool) : PySem.W.Hook where
  α := AlV
  obs := fun s => obsV n fn ex s.heap.get?
  val := fun _ => (true, fn.map He.DefD.val)
  says := fun _ h => ∃ K : PySem.W.Frag, K.In h ∧ SaysV fn ex K
  of := fun _ _ e => ⟨_, He.frG_in, e⟩
  keeps := fun _ _ _ ⟨K, hK, c⟩ k => ⟨K, PySem.W.Frag.In.keeps hK k, c⟩
theorem obsV_eq {n : Nat} {fn : List He.DefD} {ex : PySem.W.Frag → Bool} {g : Addr → Option Obj} {s : Shared} (h : ∀ a, g a = s.heap.get? a) : obsV n fn ex g = (hookV n fn ex).obs s := by
  have e : g = s.heap.get? := funext h
  rw [e] <;> rfl
theorem SaysV.fun_ {fn : List He.DefD} {ex : PySem.W.Frag → Bool} {K : PySem.W.Frag} (c : SaysV fn ex K) {i : Nat} {d : He.DefD} (h : fn[i]? = some d) : ∃ fd, FunD K d.name d.qual d.params d.body d.scope (d.dvs K) (d.kws K) (He.fAd K d.at_) fd := by
  have c1 : ((fn.all fun d => d.ok K) && ex K) = true := congrArg (fun z : AlV => z.1) c
  have e : fn.map (fun d => He.fnW K d.at_) = fn.map He.DefD.val := congrArg (fun z : AlV => z.2) c
  rw [Bool.and_eq_true, List.all_eq_true] at c1
  have e2 : (fn.map fun d => He.fnW K d.at_)[i]? = (fn.map He.DefD.val)[i]? := by rw [e]
  rw [List.getElem?_map, List.getElem?_map, h] at e2
  exact He.DefD.funD (Option.some.inj e2) (c1.1 d (List.mem_of_getElem? h))
theorem SaysV.ex_ {fn : List He.DefD} {ex : PySem.W.Frag → Bool} {K : PySem.W.Frag} (c : SaysV fn ex K) : ex K = true := by
  have c1 : ((fn.all fun d => d.ok K) && ex K) = true := congrArg (fun z : AlV => z.1) c
  rw [Bool.and_eq_true] at c1
  exact c1.2

/-! ### constants of the module -/
mutual
/-- the value u is the data d, within K -/
def datB (K : PySem.W.Frag) : PyData → Value → Bool
  | .none, .none => true
  | .bool b, .bool c => b == c
  | .int i, .int j _ => decide (i = j)
  | .str x, .str y _ => decide (x = y)
  | .tuple ds, .ref a => match K.lookup a with
    | some ⟨.type c, _, .seq its _, _⟩ => decide (c = "tuple") && decide (its.size ≤ sizeLine) && datsB K ds its.toList
    | _ => false
  | _, _ => false
def datsB (K : PySem.W.Frag) : List PyData → List Value → Bool
  | [], [] => true
  | d :: ds, u :: us => datB K d u && datsB K ds us
  | _, _ => false
end
mutual
theorem datB_ok {K : PySem.W.Frag} : ∀ {d : PyData} {u : Value}, datB K d u = true → ∃ v, RelV v u ∧ ∀ F, Da K F v d
  | .none, u, h => by
    cases u with
    | none => exact ⟨.non, rfl, fun _ => .non⟩
    | _ => exact (Bool.false_ne_true h).elim
  | .bool b, u, h => by
    cases u with
    | bool c =>
      unfold datB at h
      cases (beq_iff_eq.mp h)
      exact ⟨.bl b, rfl, fun _ => .bl b⟩
    | _ => exact (Bool.false_ne_true h).elim
  | .int i, u, h => by
    cases u with
    | int j t =>
      unfold datB at h
      cases (of_decide_eq_true h)
      exact ⟨.int i, ⟨t, rfl⟩, fun _ => .int i⟩
    | _ => exact (Bool.false_ne_true h).elim
  | .str i, u, h => by
    cases u with
    | str j t =>
      unfold datB at h
      cases (of_decide_eq_true h)
      exact ⟨.str i, ⟨t, rfl⟩, fun _ => .str i⟩
    | _ => exact (Bool.false_ne_true h).elim
  | .tuple ds, u, h => by
    cases u with
    | ref a =>
      unfold datB at h
      split at h
      · rename_i c dd its n sl hk
        rw [Bool.and_eq_true, Bool.and_eq_true] at h
        obtain ⟨⟨h1, h2⟩, h3⟩ := h
        obtain ⟨vs, r, t⟩ := datsB_ok h3
        exact ⟨.ref a, rfl, fun F => .tup (.inr ⟨_, its, n, hk, congrArg Value.type (of_decide_eq_true h1), rfl, of_decide_eq_true h2, r⟩) (t F)⟩
      · cases h
    | _ => exact (Bool.false_ne_true h).elim
  | .list ds, u, h => by cases u <;> exact (Bool.false_ne_true h).elim
  | .dict ds, u, h => by cases u <;> exact (Bool.false_ne_true h).elim
theorem datsB_ok {K : PySem.W.Frag} : ∀ {ds : List PyData} {us : List Value}, datsB K ds us = true → ∃ vs, Vals vs us ∧ ∀ F, DaAll K F vs ds
  | [], us, h => by
    cases us with
    | nil => exact ⟨[], .nil, fun _ => .nil⟩
    | cons _ _ => exact (Bool.false_ne_true h).elim
  | d :: ds, us, h => by
    cases us with
    | nil => exact (Bool.false_ne_true h).elim
    | cons u us =>
      unfold datsB at h
      rw [Bool.and_eq_true] at h
      obtain ⟨v, r1, t1⟩ := datB_ok h.1
      obtain ⟨vs, r2, t2⟩ := datsB_ok h.2
      exact ⟨v :: vs, .cons r1 r2, fun F => .cons (t1 F) (t2 F)⟩
end
def gcB (K : PySem.W.Frag) (x : Str) (d : PyData) : Bool := match PySem.W.nsIn K mainGlobals x with
  | some (some u) => datB K d u
  | _ => false
def sysB (K : PySem.W.Frag) : Bool := match K.lookup sysModules with
  | some ⟨.type c, _, _, _⟩ => decide (c = "dict")
  | _ => false
theorem sysB_ok {K : PySem.W.Frag} (h : sysB K = true) : SysK K := by
  unfold sysB at h
  split at h
  · rename_i c _ _ _ e
    exact ⟨_, e, congrArg Value.type (of_decide_eq_true h)⟩
  · cases h
def nlB (K : PySem.W.Frag) : Bool := K.all fun p => !decide (p.2.cls = .type "list")
theorem lk_mem {α : Type} {a : Addr} {o : α} : ∀ {l : List (Addr × α)}, l.lookup a = some o → (a, o) ∈ l
  | [], h => by cases h
  | (b, u) :: r, h => by
    rw [List.lookup_cons] at h
    split at h
    · rename_i e
      cases h
      rw [beq_iff_eq.mp e]
      exact List.mem_cons_self
    · exact List.mem_cons_of_mem _ (lk_mem h)
theorem nlB_ok {K : PySem.W.Frag} (h : nlB K = true) : ∀ a o, K.lookup a = some o → o.cls ≠ .type "list" := by
  intro a o e
  have m : (a, o) ∈ K := lk_mem e
  have q := List.all_eq_true.mp h _ m
  simpa using q

/-! ### a program as data -/
/-- a def: what stands in the module, its parameters, its names, its form here -/
structure Dn where
  dd : He.DefD
  ps : List Str
  N : List Str
  df : Df
structure Pd where
  ds : List Dn
  gl : List (Str × PyData)
  bl : List Str
  kws : List (Nat × Nat × List Str × List Nat)
def Pd.pg (p : Pd) : Pg := ⟨p.ds.map fun d => ⟨d.dd.name, d.ps⟩, p.gl.map (·.1), p.bl, p.kws⟩
def Pd.T (p : Pd) : List Df := p.ds.map (·.df)
def Pd.Gd (p : Pd) : List PyData := p.gl.map (·.2)
def Pd.fn (p : Pd) : List He.DefD := p.ds.map (·.dd)
def Pd.ex (p : Pd) (K : PySem.W.Frag) : Bool := sysB K && nlB K && (p.ds.all fun d => (He.Fa.glo d.dd.name).ok K) && (p.gl.all fun q => gcB K q.1 q.2) && (p.bl.all fun x => (He.Fa.free x).ok K)
def Pd.okD (p : Pg) (d : Dn) : Bool := C8.scC d.N d.ps d.dd.scope && decide (d.df.np = d.ps.length) && decide (d.df.nn = d.N.length) && decide (d.dd.at_ = (d.dd.name, none)) && d.dd.dfl.isEmpty && d.dd.kwd.isEmpty && ckSs p d.dd.scope d.N d.df.body d.dd.body
def BnOk (d : Dn) : Prop := ∀ (kV doc pm : Value) (an : Option Addr) (cdv ct : Value) (us : List Value), us.length = d.ps.length → bindArgs (PySem.W.fnOf d.dd.name d.dd.qual d.dd.params d.dd.body d.dd.scope .none kV doc pm an cdv ct) ⟨us, []⟩ = pure (d.ps.zip us)
def KwOk (d : Dn) (n : Nat) (ks : List Str) (gs : List Nat) : Prop := ∀ (kV doc pm : Value) (an : Option Addr) (cdv ct : Value) (us ws : List Value), us.length = n → ws.length = ks.length →
  ∃ zs, pickG gs (us ++ ws) = some zs ∧ bindArgs (PySem.W.fnOf d.dd.name d.dd.qual d.dd.params d.dd.body d.dd.scope .none kV doc pm an cdv ct) ⟨us, ks.zip ws⟩ = pure (d.ps.zip zs)
def AllB : List Dn → Prop
  | [] => True
  | d :: r => BnOk d ∧ AllB r
def AllK (ds : List Dn) : List (Nat × Nat × List Str × List Nat) → Prop
  | [] => True
  | q :: r => (match ds[q.1]? with | some d => KwOk d q.2.1 q.2.2.1 q.2.2.2 | none => True) ∧ AllK ds r
theorem AllB.get : ∀ {ds : List Dn} {d : Dn}, AllB ds → d ∈ ds → BnOk d
  | _ :: _, _, ⟨h, t⟩, m => by
    rcases List.mem_cons.mp m with e | m
    · rw [e]; exact h
    · exact AllB.get t m
theorem AllK.get {ds : List Dn} : ∀ {l : List (Nat × Nat × List Str × List Nat)} {q : Nat × Nat × List Str × List Nat} {d : Dn}, AllK ds l → q ∈ l → ds[q.1]? = some d → KwOk d q.2.1 q.2.2.1 q.2.2.2
  | p :: _, q, d, ⟨h, t⟩, m, e => by
    rcases List.mem_cons.mp m with e2 | m
    · subst e2
      rw [e] at h
      exact h
    · exact AllK.get t m e
/-- the whole: a program's data, checked -/
structure Pd.Ok (p : Pd) : Prop where
  ok : ∀ d ∈ p.ds, Pd.okD p.pg d = true
  bn : AllB p.ds
  kw : AllK p.ds p.kws
theorem FunD.kwb {K : PySem.W.Frag} {d : Dn} {f : Addr} {fd : FuncData} {kws : List (Str × V)} (Fd : FunD K d.dd.name d.dd.qual d.dd.params d.dd.body d.dd.scope [] kws f fd) {n : Nat} {ks : List Str} {gs : List Nat} (h : KwOk d n ks gs) : KwB K fd d.ps n ks gs := by
  obtain ⟨oc, od, dV, kV, doc, pm, an, cdv, ct, osl, rfl, lk, hcd, hD, hK⟩ := Fd.ex
  rcases hD with ⟨_, rfl⟩ | ⟨e, _⟩
  · intro s us ws _ l1 l2
    obtain ⟨zs, z1, z2⟩ := h kV doc pm an cdv ct us ws l1 l2
    exact ⟨zs, z1, .of_eq z2⟩
  · exact absurd rfl e
theorem Pd.tx {p : Pd} (o : p.Ok) {P : Program} {w : World} {K : PySem.W.Frag} {mg : Str → Option Value} {base h : Heap} (X : K.In h) (G : h.Ns mainGlobals mg) (c : SaysV p.fn p.ex K) :
    Tx P w K mg base ⟨K, fun k => match p.ds[k]? with | some d => He.fAd K d.dd.at_ | none => 0, fun _ => 0⟩ p.pg p.Gd p.T := by
  have ex := c.ex_
  unfold Pd.ex at ex
  simp only [Bool.and_eq_true, List.all_eq_true] at ex
  obtain ⟨⟨⟨⟨e1, e2⟩, e3⟩, e4⟩, e5⟩ := ex
  refine ⟨rfl, sysB_ok e1, fun k x hx => ?_, fun x hx => He.free_ok X G (e5 x hx), fun k dd hk => ?_⟩
  · have hx : (p.gl.map (·.1))[k]? = some x := hx
    rw [List.getElem?_map] at hx
    cases q : p.gl[k]? with
    | none => rw [q] at hx; cases hx
    | some r =>
      rw [q] at hx
      cases hx
      have z := e4 r (List.mem_of_getElem? q)
      unfold gcB at z
      split at z
      · rename_i u hu
        obtain ⟨v, r1, t1⟩ := datB_ok z
        exact ⟨r.2, v, u, by show (p.gl.map (·.2))[k]? = _; rw [List.getElem?_map, q]; rfl, PySem.W.mg_of X G hu, r1, t1⟩
      · cases z
  · have hk : (p.ds.map fun d => (⟨d.dd.name, d.ps⟩ : Dd))[k]? = some dd := hk
    rw [List.getElem?_map] at hk
    cases q : p.ds[k]? with
    | none => rw [q] at hk; cases hk
    | some d =>
      rw [q] at hk
      cases hk
      have m := List.mem_of_getElem? q
      have z := o.ok d m
      unfold Pd.okD at z
      simp only [Bool.and_eq_true, decide_eq_true_eq, List.isEmpty_iff] at z
      obtain ⟨⟨⟨⟨⟨⟨z1, z2⟩, z3⟩, z4⟩, z5⟩, z6⟩, z7⟩ := z
      obtain ⟨fd, Fd⟩ := c.fun_ (i := k) (d := d.dd) (by show (p.ds.map (·.dd))[k]? = _; rw [List.getElem?_map, q]; rfl)
      have d0 : d.dd.dvs K = [] := by unfold He.DefD.dvs; rw [z5]; rfl
      rw [d0] at Fd
      have ga : He.fAd K d.dd.at_ = He.ga K d.dd.name := by rw [z4]; rfl
      refine ⟨?_, ?_, d.dd.name, d.dd.qual, d.dd.params, d.dd.body, d.dd.scope, [], d.dd.kws K, fd, d.N, d.df, ?_, C8.fnScope_by z1, ?_, z2, z3, z7, ?_, ?_⟩
      · show mg d.dd.name = some (.ref (match p.ds[k]? with | some d => He.fAd K d.dd.at_ | none => 0))
        rw [q]
        show mg d.dd.name = some (Value.ref (He.fAd K d.dd.at_))
        rw [ga]
        exact He.glo_ok X G (e3 d m)
      · show PySem.W.keepIn K (.ref (match p.ds[k]? with | some d => He.fAd K d.dd.at_ | none => 0)) = true
        rw [q]
        exact Fd.kp
      · show FunD K _ _ _ _ _ _ _ (match p.ds[k]? with | some d => He.fAd K d.dd.at_ | none => 0) fd
        rw [q]
        exact Fd
      · show (p.ds.map (·.df))[k]? = some d.df
        rw [List.getElem?_map, q]; rfl
      · exact Fd.bindsN (ps := d.ps) (o.bn.get m)
      · intro r hr e
        subst e
        exact FunD.kwb Fd (o.kw.get hr q)
/-- the end of a law -/
theorem Pd.walk {p : Pd} (o : p.Ok) {l : PySem.W.OpenLaw} {n m k hn0 : Nat} {q : Program} {loose : List Str} {XP : (Str → Option Value) → Heap → Prop} {d : DefRec} {x : Str} {dn : Dn}
    (hn : l.most = some n) (hn2 : n ≤ sizeLine) (hdf : d.params.defaults = []) (hr : Room m callerA) (hk : p.ds[k]? = some dn) (hx : dn.ps = [x]) (hname : dn.dd.name = d.name)
    (sound : ∀ ns : List Int, ns.length ≤ n → ∃ S', sem p.Gd p.T m k [.d (.list (ns.map .int))] [] = .ok (.d (.bool true)) S') :
    PySem.W.WalkO q loose XP (hookV hn0 p.fn p.ex).says l.row.toRowW d [] (fun f vs => PySem.call f vs) := by
  refine walkV (x := x) hn hn2 hdf hr sound fun w mg fa h Y G hmg => ?_
  obtain ⟨K, KX, c⟩ := Y
  have ex := c.ex_
  unfold Pd.ex at ex
  simp only [Bool.and_eq_true, List.all_eq_true] at ex
  have nl := nlB_ok ex.1.1.1.2
  have dd : p.pg.defs[k]? = some ⟨dn.dd.name, dn.ps⟩ := by
    show (p.ds.map fun d => (⟨d.dd.name, d.ps⟩ : Dd))[k]? = _
    rw [List.getElem?_map, hk]; rfl
  obtain ⟨fd, Fd⟩ := c.fun_ (i := k) (d := dn.dd) (by show (p.ds.map (·.dd))[k]? = _; rw [List.getElem?_map, hk]; rfl)
  -- the def's address, the same over every base
  obtain ⟨a1, _, fd0, _, _, b0, _⟩ := fn_all (P := l.prog) (w := w) (base := h) (Pd.tx o KX G c) m k _ dd
  have ea : fa = He.fAd K dn.dd.at_ := by
    have z : mg dn.dd.name = some (.ref (match p.ds[k]? with | some d => He.fAd K d.dd.at_ | none => 0)) := a1
    rw [hk, hname, hmg] at z
    cases z
    rfl
  have z0 := o.ok dn (List.mem_of_getElem? hk)
  unfold Pd.okD at z0
  simp only [Bool.and_eq_true, decide_eq_true_eq, List.isEmpty_iff] at z0
  have d0 : dn.dd.dvs K = [] := by unfold He.DefD.dvs; rw [z0.1.1.2]; rfl
  rw [d0] at Fd
  refine ⟨K, fd, ⟨K, fun k => match p.ds[k]? with | some d => He.fAd K d.dd.at_ | none => 0, fun _ => 0⟩, KX, rfl, nl, fun s u => ?_, fun base hB hG => ?_⟩
  · have b := Fd.bindsA (ps := dn.ps) (o.bn.get (List.mem_of_getElem? hk)) s [u] (by rw [hx]; rfl)
    rw [hx] at b
    exact b
  · obtain ⟨_, _, fd2, lk2, f2, _, _⟩ := fn_all (P := l.prog) (w := w) (base := base) (Pd.tx o (base := base) hB hG c) m k _ dd
    have f2 : FnG l.prog w K mg base m (match p.ds[k]? with | some d => He.fAd K d.dd.at_ | none => 0) fd2 dn.ps _ := f2
    have lk2 : ∃ oc od osl, K.lookup (match p.ds[k]? with | some d => He.fAd K d.dd.at_ | none => 0) = some ⟨oc, od, .func fd2, osl⟩ := lk2
    rw [hk] at f2 lk2
    have f2 : FnG l.prog w K mg base m (He.fAd K dn.dd.at_) fd2 dn.ps (spD ⟨K, fun k => match p.ds[k]? with | some d => He.fAd K d.dd.at_ | none => 0, fun _ => 0⟩ (sem p.Gd p.T m) k dn.ps.length) := f2
    obtain ⟨oc, od, osl, lk2⟩ := lk2
    obtain ⟨oc', od', osl', lk1⟩ := FunD.at_ Fd
    have lk2 : K.lookup (He.fAd K dn.dd.at_) = some ⟨oc, od, .func fd2, osl⟩ := lk2
    rw [lk1] at lk2
    cases lk2
    rw [← ea, hx] at f2
    exact f2
end Ev
end

section
set_option Elab.async false
set_option linter.all false
set_option maxRecDepth 100000
set_option maxHeartbeats 4000000
/-! Q1: the meaning, evaluated -/
namespace Ev
open PySem PySem.Spec L2

def Gets {α : Type} (o : Out α) (Q : α → Store → Prop) : Prop := ∃ a S, o = .ok a S ∧ Q a S
@[simp] theorem gets_ok {α : Type} {a : α} {S : Store} {Q : α → Store → Prop} : Gets (.ok a S) Q ↔ Q a S := ⟨(fun ⟨_, _, e, q⟩ => by cases e; exact q), fun q => ⟨_, _, rfl, q⟩⟩
@[simp] theorem gets_bind {α β : Type} {o : Out α} {φ : α → Store → Out β} {Q : β → Store → Prop} : Gets (o.bind φ) Q ↔ Gets o fun a S => Gets (φ a S) Q := by
  cases o with
  | ok a S => simp
  | err e S => exact ⟨(fun ⟨_, _, e, _⟩ => by cases e), (fun ⟨_, _, e, _⟩ => by cases e)⟩
  | stuck => exact ⟨(fun ⟨_, _, e, _⟩ => by cases e), (fun ⟨_, _, e, _⟩ => by cases e)⟩
theorem Gets.imp {α : Type} {o : Out α} {Q Q' : α → Store → Prop} (h : Gets o Q) (i : ∀ a S, Q a S → Q' a S) : Gets o Q' := let ⟨a, S, e, q⟩ := h; ⟨a, S, e, i a S q⟩
/-- a statement's end -/
def GS (o : SOut) (N : EnvD → Store → Prop) (R : Val → Store → Prop) (B C : EnvD → Store → Prop) : Prop := match o with
  | .next ρ S => N ρ S
  | .ret v S => R v S
  | .brk ρ S => B ρ S
  | .cont ρ S => C ρ S
  | _ => False
section
variable {N B C : EnvD → Store → Prop} {R : Val → Store → Prop} {ρ : EnvD} {S : Store} {v : Val}
@[simp] theorem gs_next : GS (.next ρ S) N R B C ↔ N ρ S := Iff.rfl
@[simp] theorem gs_ret : GS (.ret v S) N R B C ↔ R v S := Iff.rfl
@[simp] theorem gs_brk : GS (.brk ρ S) N R B C ↔ B ρ S := Iff.rfl
@[simp] theorem gs_cont : GS (.cont ρ S) N R B C ↔ C ρ S := Iff.rfl
@[simp] theorem gs_seq {o : SOut} {k : EnvD → Store → SOut} : GS (o.seq k) N R B C ↔ GS o (fun ρ S => GS (k ρ S) N R B C) R B C := by
  cases o <;> exact Iff.rfl
@[simp] theorem gs_s {α : Type} {o : Out α} {k : α → Store → SOut} : GS (o.s ρ k) N R B C ↔ Gets o fun a S => GS (k a S) N R B C := by
  cases o with
  | ok a S =>
    show GS (k a S) N R B C ↔ _
    rw [gets_ok]
  | err e S => exact ⟨(fun h => h.elim), (fun ⟨_, _, e, _⟩ => by cases e)⟩
  | stuck => exact ⟨(fun h => h.elim), (fun ⟨_, _, e, _⟩ => by cases e)⟩
end
theorem gets_sem {Gd : List PyData} {T : List Df} {n k : Nat} {vs : List Val} {S : Store} {d : Df} {Q : Val → Store → Prop} (h : T[k]? = some d) (hl : vs.length = d.np)
    (q : GS (dSs Gd (sem Gd T n) d.body (entry d.np d.nn vs) S) (fun _ S' => Q (.d .none) (S'.take S.length)) (fun v S' => Gets (back d.mu S.length v S') Q) (fun _ _ => False) fun _ _ => False) : Gets (sem Gd T (n + 1) k vs S) Q := by
  unfold sem
  rw [h]
  dsimp only
  rw [if_pos hl]
  generalize dSs Gd (sem Gd T n) d.body (entry d.np d.nn vs) S = o at q
  cases o with
  | next ρ S' => exact ⟨_, _, rfl, q⟩
  | ret v S' => exact q
  | brk ρ S' => exact q.elim
  | cont ρ S' => exact q.elim
  | err e ρ S' => exact q.elim
  | stuck => exact q.elim
theorem ok_of {α : Type} {o : Out α} {a : α} {S : Store} (h : Gets o fun v S' => v = a ∧ S' = S) : o = .ok a S := by
  obtain ⟨v, S', e, rfl, rfl⟩ := h
  exact e
@[simp] theorem gets_ite {α : Type} {c : Prop} [Decidable c] {x y : Out α} {Q : α → Store → Prop} : Gets (if c then x else y) Q ↔ (c → Gets x Q) ∧ (¬ c → Gets y Q) := by
  by_cases h : c
  · simp [h]
  · simp [h]
@[simp] theorem gs_ite {c : Prop} [Decidable c] {x y : SOut} {N B C : EnvD → Store → Prop} {R : Val → Store → Prop} : GS (if c then x else y) N R B C ↔ (c → GS x N R B C) ∧ (¬ c → GS y N R B C) := by
  by_cases h : c
  · simp [h]
  · simp [h]
@[simp] theorem gets_stuck {α : Type} {Q : α → Store → Prop} : Gets (.stuck : Out α) Q ↔ False := ⟨(fun ⟨_, _, e, _⟩ => by cases e), fun h => h.elim⟩
@[simp] theorem gs_stuck {N B C : EnvD → Store → Prop} {R : Val → Store → Prop} : GS .stuck N R B C ↔ False := Iff.rfl
@[simp] theorem back_d {mu : Bool} {n : Nat} {x : PyData} {S : Store} {Q : Val → Store → Prop} : Gets (back mu n (.d x) S) Q ↔ Q (.d x) (S.take n) := gets_ok
@[simp] theorem back_fn {mu : Bool} {n : Nat} {x : Nat} {S : Store} {Q : Val → Store → Prop} : Gets (back mu n (.fn x) S) Q ↔ Q (.fn x) (S.take n) := gets_ok
end Ev
end

section
set_option Elab.async false
set_option linter.all false
set_option maxRecDepth 100000
set_option maxHeartbeats 4000000
/-! Q2: lists, loops, texts shown -/
namespace Ev
open PySem PySem.Spec L2

theorem sem_eq {Gd : List PyData} {T : List Df} {n k : Nat} {vs : List Val} {S : Store} {d : Df} (h : T[k]? = some d) (hl : vs.length = d.np) :
    sem Gd T (n + 1) k vs S = ofS d.mu S.length (dSs Gd (sem Gd T n) d.body (entry d.np d.nn vs) S) := by
  show (match T[k]? with | some d => if vs.length = d.np then ofS d.mu S.length (dSs Gd (sem Gd T n) d.body (entry d.np d.nn vs) S) else .stuck | none => .stuck) = _
  rw [h]
  exact if_pos hl
/-! ### operations at known kinds -/
section
variable {S : Store} {i j : Int} {a b : Str} {xs ys : List PyData} {x y : PyData} {v : Val} {p : Nat}
@[simp] theorem add_ii : binV .Add (.d (.int i)) (.d (.int j)) S = .ok (.d (.int (i + j))) S := rfl
@[simp] theorem add_ss : binV .Add (.d (.str a)) (.d (.str b)) S = okIf (a.length + b.length ≤ sizeLine) (.str (a ++ b)) S := rfl
@[simp] theorem add_tt : binV .Add (.d (.tuple xs)) (.d (.tuple ys)) S = okIf (xs.length + ys.length ≤ sizeLine) (.tuple (xs ++ ys)) S := rfl
@[simp] theorem add_ll : binV .Add (.d (.list xs)) (.d (.list ys)) S = okIf (xs.length + ys.length ≤ sizeLine) (.list (xs ++ ys)) S := rfl
@[simp] theorem sub_ii : binV .Sub (.d (.int i)) (.d (.int j)) S = .ok (.d (.int (i - j))) S := rfl
@[simp] theorem mul_ii : binV .Mult (.d (.int i)) (.d (.int j)) S = okIf ((-(2 ^ 64) < i ∧ i < 2 ^ 64) ∨ (-(2 ^ 64) < j ∧ j < 2 ^ 64)) (.int (i * j)) S := rfl
@[simp] theorem mul_ti : binV .Mult (.d (.tuple xs)) (.d (.int j)) S = okIf (j = 1 ∨ (xs.isEmpty = false ∧ 2 ≤ j ∧ j ≤ 1000 ∧ xs.length ≤ 1000)) (.tuple (List.replicate j.toNat xs).flatten) S := rfl
@[simp] theorem mod_ii : binV .Mod (.d (.int i)) (.d (.int j)) S = okIf (j ≠ 0) (.int (i.fmod j)) S := rfl
@[simp] theorem div_ii : binV .FloorDiv (.d (.int i)) (.d (.int j)) S = okIf (j ≠ 0 ∧ j.natAbs < 1073741824) (.int (i.fdiv j)) S := rfl
@[simp] theorem pow_ii : binV .Pow (.d (.int i)) (.d (.int j)) S = okIf (0 ≤ j ∧ j ≤ 1000000 ∧ i.natAbs < 2 ^ 64) (.int (i ^ j.toNat)) S := rfl
@[simp] theorem eq_ss : cmpV .Eq (.d (.str a)) (.d (.str b)) S = .ok (.d (.bool (a == b))) S := rfl
@[simp] theorem ne_ss : cmpV .NotEq (.d (.str a)) (.d (.str b)) S = .ok (.d (.bool (!(a == b)))) S := rfl
theorem eq_dd (h : SeqAt.shaped x = true) (h2 : SeqAt.shaped y = true) : cmpV .Eq (.d x) (.d y) S = .ok (.d (.bool (PyData.eqv x y))) S := by
  cases x <;> cases y <;> first
    | (show okIf (SeqAt.shaped _ = true ∧ SeqAt.shaped _ = true) (.bool (PyData.eqv _ _)) S = _; unfold okIf; exact if_pos ⟨h, h2⟩)
    | (simp [cmpV, PyData.eqv]; done)
theorem ne_dd (h : SeqAt.shaped x = true) (h2 : SeqAt.shaped y = true) : cmpV .NotEq (.d x) (.d y) S = .ok (.d (.bool (!PyData.eqv x y))) S := by
  cases x <;> cases y <;> first
    | (show okIf (SeqAt.shaped _ = true ∧ SeqAt.shaped _ = true) (.bool (!PyData.eqv _ _)) S = _; unfold okIf; exact if_pos ⟨h, h2⟩)
    | (simp [cmpV, PyData.eqv]; done)
@[simp] theorem shaped_int (i : Int) : SeqAt.shaped (.int i) = true := rfl
@[simp] theorem shaped_bool (i : Bool) : SeqAt.shaped (.bool i) = true := rfl
@[simp] theorem shaped_none : SeqAt.shaped .none = true := rfl
@[simp] theorem eqv_int (i j : Int) : PyData.eqv (.int i) (.int j) = (i == j) := by simp [PyData.eqv]
@[simp] theorem eqv_bool (i j : Bool) : PyData.eqv (.bool i) (.bool j) = (i == j) := by simp [PyData.eqv]
@[simp] theorem eqv_str (i j : Str) : PyData.eqv (.str i) (.str j) = (i == j) := by simp [PyData.eqv]
@[simp] theorem eq_ii : cmpV .Eq (.d (.int i)) (.d (.int j)) S = .ok (.d (.bool (decide (i = j)))) S := by
  rw [eq_dd rfl rfl, eqv_int]
  rfl
@[simp] theorem ne_ii : cmpV .NotEq (.d (.int i)) (.d (.int j)) S = .ok (.d (.bool (decide (i ≠ j)))) S := by
  rw [ne_dd rfl rfl, eqv_int]
  congr 3
  rw [Bool.eq_iff_iff]
  simp
@[simp] theorem lt_ii : cmpV .Lt (.d (.int i)) (.d (.int j)) S = .ok (.d (.bool (decide (i < j)))) S := rfl
@[simp] theorem le_ii : cmpV .LtE (.d (.int i)) (.d (.int j)) S = .ok (.d (.bool (decide (i ≤ j)))) S := rfl
@[simp] theorem gt_ii : cmpV .Gt (.d (.int i)) (.d (.int j)) S = .ok (.d (.bool (decide (j < i)))) S := rfl
@[simp] theorem ge_ii : cmpV .GtE (.d (.int i)) (.d (.int j)) S = .ok (.d (.bool (decide (j ≤ i)))) S := rfl
@[simp] theorem lt_ss : cmpV .Lt (.d (.str a)) (.d (.str b)) S = .ok (.d (.bool (decide (a.cps.toList < b.cps.toList)))) S := rfl
@[simp] theorem le_ss : cmpV .LtE (.d (.str a)) (.d (.str b)) S = .ok (.d (.bool (!decide (b.cps.toList < a.cps.toList)))) S := rfl
@[simp] theorem is_nn : cmpV .Is (.d .none) (.d .none) S = .ok (.d (.bool true)) S := rfl
@[simp] theorem isnot_nn : cmpV .IsNot (.d .none) (.d .none) S = .ok (.d (.bool false)) S := rfl
@[simp] theorem is_tn : cmpV .Is (.d (.tuple xs)) (.d .none) S = .ok (.d (.bool false)) S := rfl
@[simp] theorem isnot_tn : cmpV .IsNot (.d (.tuple xs)) (.d .none) S = .ok (.d (.bool true)) S := rfl
@[simp] theorem is_in : cmpV .Is (.d (.int i)) (.d .none) S = .ok (.d (.bool false)) S := rfl
@[simp] theorem idx_li : idxV (.d (.list xs)) (.d (.int i)) S = (match atI xs i with | some x => .ok (.d x) S | none => .stuck) := rfl
@[simp] theorem idx_ti : idxV (.d (.tuple xs)) (.d (.int i)) S = (match atI xs i with | some x => .ok (.d x) S | none => .stuck) := rfl
theorem idx_loc (h : S[p]? = some (.lst xs)) : idxV (.loc p) (.d (.int i)) S = (match atI xs i with | some x => .ok (.d x) S | none => .stuck) := by
  simp [idxV, seqOf, h]
  all_goals (cases atI xs i <;> rfl)
theorem set_loc {w : PyData} (h : S[p]? = some (.lst xs)) : setV (.loc p) (.d (.int i)) (.d w) S = (match ixN xs.length i with | some j => .ok () (S.set p (.lst (xs.set j w))) | none => .stuck) := by
  simp [setV, h]
  all_goals (cases ixN xs.length i <;> rfl)
theorem app_loc {w : PyData} (h : S[p]? = some (.lst xs)) (hz : xs.length < sizeLine) : meV .append (.loc p) [.d w] S = .ok (.d .none) (S.set p (.lst (xs ++ [w]))) := by
  simp [meV, h, hz]
@[simp] theorem len_l : biV .len [.d (.list xs)] S = .ok (.d (.int xs.length)) S := rfl
@[simp] theorem len_t : biV .len [.d (.tuple xs)] S = .ok (.d (.int xs.length)) S := rfl
@[simp] theorem len_s : biV .len [.d (.str a)] S = okIf (a.length ≤ sizeLine) (.int a.length) S := rfl
theorem len_loc (h : S[p]? = some (.lst xs)) : biV .len [.loc p] S = .ok (.d (.int xs.length)) S := by
  simp [biV, seqOf, h]
@[simp] theorem all_v : biV .all [v] S = (match (lstOf S v).bind boolsOf with | some bs => .ok (.d (.bool (bs.all id))) S | none => .stuck) := by cases v <;> rfl
@[simp] theorem any_v : biV .any [v] S = (match (lstOf S v).bind boolsOf with | some bs => .ok (.d (.bool (bs.any id))) S | none => .stuck) := by cases v <;> rfl
@[simp] theorem sum_v : biV .sum [v] S = (match (lstOf S v).bind intsOf with | some ns => .ok (.d (.int ns.sum)) S | none => .stuck) := by cases v <;> rfl
@[simp] theorem tuple_l : biV .tuple [.d (.list xs)] S = .ok (.d (.tuple xs)) S := rfl
@[simp] theorem tuple_t : biV .tuple [.d (.tuple xs)] S = .ok (.d (.tuple xs)) S := rfl
theorem tuple_loc (h : S[p]? = some (.lst xs)) : biV .tuple [.loc p] S = .ok (.d (.tuple xs)) S := by
  simp [biV, seqOf, h]
@[simp] theorem list_l : biV .list [.d (.list xs)] S = .ok (.d (.list xs)) S := rfl
@[simp] theorem list_t : biV .list [.d (.tuple xs)] S = .ok (.d (.list xs)) S := rfl
@[simp] theorem listM_l : biV .listM [.d (.list xs)] S = .ok (.loc S.length) (S ++ [.lst xs]) := rfl
@[simp] theorem listM_t : biV .listM [.d (.tuple xs)] S = .ok (.loc S.length) (S ++ [.lst xs]) := rfl
@[simp] theorem abs_i : biV .abs [.d (.int i)] S = .ok (.d (.int (if i < 0 then -i else i))) S := rfl
@[simp] theorem max_i : biV .max2 [.d (.int i), .d (.int j)] S = .ok (.d (.int (if j > i then j else i))) S := rfl
@[simp] theorem min_i : biV .min2 [.d (.int i), .d (.int j)] S = .ok (.d (.int (if j < i then j else i))) S := rfl
@[simp] theorem int_i : biV .int [.d (.int i)] S = .ok (.d (.int i)) S := rfl
@[simp] theorem strI_i : biV .strI [.d (.int i)] S = okIf (i.natAbs.log2 < 1920) (.str (toString i)) S := rfl
@[simp] theorem divmod_i : biV .divmod [.d (.int i), .d (.int j)] S = okIf (0 < j ∧ j < 1073741824) (.tuple [.int (i / j), .int (i % j)]) S := rfl
@[simp] theorem lenSet_v : biV .lenSet [v] S = (match (seqOf S v).bind strsOf with | some ss => okIf (ss.length < 4000) (.int ((onceS ss).length : Nat)) S | none => .stuck) := by cases v <;> rfl
@[simp] theorem sli_s {lo hi : Option Int} : sliV (.d (.str a)) lo hi S = okIf (a.length ≤ sizeLine) (.str (cutS a lo hi)) S := rfl
@[simp] theorem sli_t {lo hi : Option Int} : sliV (.d (.tuple xs)) lo hi S = .ok (.d (.tuple (cutD xs lo hi))) S := rfl
@[simp] theorem sli_l {lo hi : Option Int} : sliV (.d (.list xs)) lo hi S = .ok (.d (.list (cutD xs lo hi))) S := rfl
@[simp] theorem rev_t : revV false (.d (.tuple xs)) S = .ok (.d (.tuple xs.reverse)) S := rfl
@[simp] theorem rev_t0 : revV true (.d (.tuple xs)) S = .ok (.d (.tuple (xs.drop 1).reverse)) S := rfl
@[simp] theorem rev_l : revV false (.d (.list xs)) S = .ok (.d (.list xs.reverse)) S := rfl
theorem rev_loc (h : S[p]? = some (.lst xs)) : revV false (.loc p) S = .ok (.d (.list xs.reverse)) S := by
  simp [revV, lstOf, h]
@[simp] theorem prt_i : prtV (.d (.int i)) S = .ok (some i) S := rfl
@[simp] theorem seqI_l : seqI (.d (.list xs)) S = .ok ⟨xs.map .d, none⟩ S := rfl
@[simp] theorem seqI_t : seqI (.d (.tuple xs)) S = .ok ⟨xs.map .d, none⟩ S := rfl
@[simp] theorem seqI_s : seqI (.d (.str a)) S = .ok ⟨a.cps.toList.map fun c => .d (.str ⟨#[c]⟩), none⟩ S := rfl
@[simp] theorem zip_l : zipI (.d (.list xs)) (.d (.list ys)) S = .ok ⟨(xs.zip ys).map fun p => .d (.tuple [p.1, p.2]), none⟩ S := rfl
@[simp] theorem zip_t : zipI (.d (.tuple xs)) (.d (.tuple ys)) S = .ok ⟨(xs.zip ys).map fun p => .d (.tuple [p.1, p.2]), none⟩ S := rfl
@[simp] theorem enum_l : enumI (.d (.list xs)) S = .ok ⟨xs.zipIdx.map fun p => .d (.tuple [.int (p.2 : Int), p.1]), none⟩ S := rfl
@[simp] theorem enum_t : enumI (.d (.tuple xs)) S = .ok ⟨xs.zipIdx.map fun p => .d (.tuple [.int (p.2 : Int), p.1]), none⟩ S := rfl
@[simp] theorem rng1_i : rng1I (.d (.int j)) S = (if -(2 ^ 62) ≤ j ∧ j < 2 ^ 62 then .ok (rngI 0 j.toNat) S else .stuck) := rfl
@[simp] theorem rng2_i : rng2I (.d (.int i)) (.d (.int j)) S = (if -(2 ^ 62) ≤ i ∧ i < 2 ^ 62 ∧ -(2 ^ 62) ≤ j ∧ j < 2 ^ 62 then .ok (rngI i (j - i).toNat) S else .stuck) := rfl
@[simp] theorem rng3_i {c : Int} : rng3I (.d (.int i)) (.d (.int j)) (.d (.int c)) S = (if c = -1 ∧ -(2 ^ 62) ≤ i ∧ i < 2 ^ 62 ∧ -(2 ^ 62) ≤ j ∧ j < 2 ^ 62 then .ok ⟨(List.range (i - j).toNat).map fun (k : Nat) => Val.d (.int (i - (k : Int))), none⟩ S else .stuck) := rfl
theorem atI_mid {α : Type} {l r : List α} {z : α} : atI (l ++ z :: r) (l.length : Int) = some z := by
  unfold atI ixN
  rw [if_pos (by omega), if_pos (by simp; omega)]
  simp
theorem ixN_mid {α : Type} {l r : List α} {z : α} : ixN (l ++ z :: r).length (l.length : Int) = some l.length := by
  unfold ixN
  rw [if_pos (by omega), if_pos (by simp; omega)]
  simp
@[simp] theorem take_set {o : Ob} : (S.set p o).take S.length = S.set p o := List.take_of_length_le (by simp)
@[simp] theorem take_app {T : Store} : (S ++ T).take S.length = S := by simp
@[simp] theorem ck_none {vs : List Val} : (⟨vs, none⟩ : Itm).ck S := True.intro
@[simp] theorem ck_rng {n : Nat} : (rngI i n).ck S := True.intro
end
/-! ### all of a kind -/
@[simp] theorem bools_map {α : Type} (f : α → Bool) (l : List α) : boolsOf (l.map fun x => .bool (f x)) = some (l.map f) := by
  induction l with
  | nil => rfl
  | cons x l ih => simp [boolsOf, ih]
@[simp] theorem bools_nil : boolsOf [] = some [] := rfl
@[simp] theorem bools_cons (b : Bool) (r : List PyData) : boolsOf (.bool b :: r) = (boolsOf r).map (b :: ·) := rfl
@[simp] theorem bools_rep (n : Nat) (b : Bool) : boolsOf (List.replicate n (.bool b)) = some (List.replicate n b) := by
  induction n with
  | zero => rfl
  | succ n ih => simp [List.replicate_succ, ih]
@[simp] theorem ints_nil : intsOf [] = some [] := rfl
@[simp] theorem ints_cons (b : Int) (r : List PyData) : intsOf (.int b :: r) = (intsOf r).map (b :: ·) := rfl
@[simp] theorem ints_map {α : Type} (f : α → Int) (l : List α) : intsOf (l.map fun x => .int (f x)) = some (l.map f) := by
  induction l with
  | nil => rfl
  | cons x l ih => simp [intsOf, ih]
@[simp] theorem ints_map' (l : List Int) : intsOf (l.map .int) = some l := by
  have := ints_map id l
  simpa using this
@[simp] theorem strs_map {α : Type} (f : α → Str) (l : List α) : strsOf (l.map fun x => .str (f x)) = some (l.map f) := by
  induction l with
  | nil => rfl
  | cons x l ih => simp [strsOf, ih]
@[simp] theorem strs_map' (l : List Str) : strsOf (l.map .str) = some l := by
  have := strs_map id l
  simpa using this
/-! ### cuts -/
def cutL {α : Type} (xs : List α) (lo hi : Option Int) : List α := (xs.drop (HT.sIx xs.length 0 lo)).take (HT.sIx xs.length xs.length hi - HT.sIx xs.length 0 lo)
@[simp] theorem cut_map {α : Type} (f : α → PyData) (xs : List α) (lo hi : Option Int) : cutD (xs.map f) lo hi = (cutL xs lo hi).map f := by
  simp [cutD, cutL, List.map_take, List.map_drop]
theorem cut_to {α : Type} (xs : List α) (k : Nat) : cutL xs none (some (k : Int)) = xs.take k := by
  unfold cutL
  rw [HT.sIx_none, HT.sIx_nat]
  simp [List.take_eq_take_iff]
theorem cut_from {α : Type} (xs : List α) (k : Nat) : cutL xs (some (k : Int)) none = xs.drop k := by
  unfold cutL
  rw [HT.sIx_none, HT.sIx_nat]
  by_cases h : k ≤ xs.length
  · rw [Nat.min_eq_left h, List.take_of_length_le (by simp)]
  · rw [Nat.min_eq_right (by omega)]
    simp [List.drop_eq_nil_of_le (show xs.length ≤ k by omega)]
theorem zw {α β γ : Type} (f : α → β → γ) : ∀ (xs : List α) (ys : List β), List.zipWith f xs ys = (xs.zip ys).map fun p => f p.1 p.2
  | [], _ => by simp
  | _ :: _, [] => by simp
  | x :: xs, y :: ys => by simp [zw f xs ys]
/-! ### comprehensions -/
theorem lc_map {w : Itm} {tg : Tg} {elt : TD Val} {ρ : EnvD} {α : Type} (g : α → Val) (f : α → PyData) (l : List α) (acc : List PyData) (S : Store) (hc : w.ck S)
    (he : ∀ x ∈ l, ∃ ρ1, tgt tg (g x) ρ = some ρ1 ∧ elt ρ1 S = .ok (.d (f x)) S) (hl : acc.length + l.length ≤ sizeLine) : lcD w tg (fun _ S => .ok true S) elt ρ (l.map g) acc S = .ok (acc ++ l.map f) S := by
  induction l generalizing acc with
  | nil => simp [lcD, hc]
  | cons x l ih =>
    obtain ⟨ρ1, h1, h2⟩ := he x List.mem_cons_self
    rw [List.length_cons] at hl
    have := ih (acc ++ [f x]) (fun y hy => he y (List.mem_cons_of_mem _ hy)) (by rw [List.length_append, List.length_singleton]; omega)
    show lcD w tg (fun _ S => .ok true S) elt ρ (g x :: l.map g) acc S = _
    unfold lcD
    rw [if_pos hc, h1]
    dsimp only
    rw [h2]
    dsimp only
    rw [if_pos (by omega), this]
    simp
/-- [f for x in xs], xs as data -/
theorem lc_each {tg : Tg} {elt : TD Val} {ρ : EnvD} {own : List Nat} {m : Bool} {it : TD Itm} {α : Type} (g : α → Val) (f : α → PyData) (l : List α) (S S0 : Store) (n : Option (Nat × List PyData)) (hi : it ρ S0 = .ok ⟨l.map g, n⟩ S) (hc : (⟨l.map g, n⟩ : Itm).ck S)
    (he : ∀ x ∈ l, ∃ ρ1, tgt tg (g x) (wipeD ρ own) = some ρ1 ∧ elt ρ1 S = .ok (.d (f x)) S) (hl : l.length ≤ sizeLine) : dLc m it own tg (fun _ S => .ok true S) elt ρ S0 = if m = true then .ok (.loc S.length) (S ++ [.lst (l.map f)]) else .ok (.d (.list (l.map f))) S := by
  unfold dLc
  rw [hi]
  dsimp only
  rw [lc_map g f l [] S hc he (by simpa using hl)]
  simp
theorem gets_each {tg : Tg} {elt : TD Val} {ρ : EnvD} {own : List Nat} {m : Bool} {it : TD Itm} {Q : Val → Store → Prop} {α : Type} (g : α → Val) (f : α → PyData) (l : List α) {S S0 : Store} {n : Option (Nat × List PyData)} (hi : it ρ S0 = .ok ⟨l.map g, n⟩ S) (hc : (⟨l.map g, n⟩ : Itm).ck S)
    (he : ∀ x ∈ l, ∃ ρ1, tgt tg (g x) (wipeD ρ own) = some ρ1 ∧ elt ρ1 S = .ok (.d (f x)) S) (hl : l.length ≤ sizeLine) (q : if m = true then Q (.loc S.length) (S ++ [.lst (l.map f)]) else Q (.d (.list (l.map f))) S) : Gets (dLc m it own tg (fun _ S => .ok true S) elt ρ S0) Q := by
  rw [lc_each g f l S S0 n hi hc he hl]
  split at q
  · rename_i h; rw [if_pos h]; exact ⟨_, _, rfl, q⟩
  · rename_i h; rw [if_neg h]; exact ⟨_, _, rfl, q⟩
/-- turns that write -/
theorem gets_lc {w : Itm} {tg : Tg} {cond : TD Bool} {elt : TD Val} {ρ : EnvD} {Q : List PyData → Store → Prop} (I : List Val → List PyData → Store → Prop)
    (step : ∀ v vs acc S, I (v :: vs) acc S → w.ck S ∧ acc.length < sizeLine ∧ ∃ ρ1, tgt tg v ρ = some ρ1 ∧ Gets (cond ρ1 S) fun b S1 => (b = true → Gets (elt ρ1 S1) fun x S2 => ∃ d, x = .d d ∧ I vs (acc ++ [d]) S2) ∧ (b = false → I vs acc S1))
    (last : ∀ acc S, I [] acc S → w.ck S ∧ Q acc S) : ∀ (vs : List Val) (acc : List PyData) (S : Store), I vs acc S → Gets (lcD w tg cond elt ρ vs acc S) Q
  | [], acc, S, h => by
    obtain ⟨h1, h2⟩ := last acc S h
    unfold lcD
    rw [if_pos h1]
    exact ⟨_, _, rfl, h2⟩
  | v :: vs, acc, S, h => by
    obtain ⟨h1, hz, ρ1, h2, b, S1, h3, h4, h5⟩ := step v vs acc S h
    unfold lcD
    rw [if_pos h1, h2]
    dsimp only
    rw [h3]
    cases b with
    | false => exact gets_lc I step last vs acc S1 (h5 rfl)
    | true =>
      obtain ⟨x, S2, h6, d, rfl, h7⟩ := h4 rfl
      dsimp only
      rw [h6]
      dsimp only
      rw [if_pos hz]
      exact gets_lc I step last vs _ S2 h7
theorem gets_dLc {m : Bool} {it : TD Itm} {own : List Nat} {tg : Tg} {cond : TD Bool} {elt : TD Val} {ρ : EnvD} {S : Store} {Q : Val → Store → Prop}
    (h : Gets (it ρ S) fun w S1 => Gets (lcD w tg cond elt (wipeD ρ own) w.vs [] S1) fun xs S2 => if m = true then Q (.loc S2.length) (S2 ++ [.lst xs]) else Q (.d (.list xs)) S2) : Gets (dLc m it own tg cond elt ρ S) Q := by
  obtain ⟨w, S1, h1, xs, S2, h2, h3⟩ := h
  unfold dLc
  rw [h1]
  dsimp only
  rw [h2]
  dsimp only
  split at h3
  · rename_i hm; rw [if_pos hm]; exact ⟨_, _, rfl, h3⟩
  · rename_i hm; rw [if_neg hm]; exact ⟨_, _, rfl, h3⟩
/-! ### loops -/
theorem gs_for {w : Itm} {tg : Tg} {body : SD} {N B C : EnvD → Store → Prop} {R : Val → Store → Prop} (I : List Val → EnvD → Store → Prop)
    (step : ∀ v vs ρ S, I (v :: vs) ρ S → w.ck S ∧ ∃ ρ1, tgt tg v ρ = some ρ1 ∧ GS (body ρ1 S) (I vs) R N (I vs)) (last : ∀ ρ S, I [] ρ S → w.ck S ∧ N ρ S) : ∀ (vs : List Val) (ρ : EnvD) (S : Store), I vs ρ S → GS (forD w tg body vs ρ S) N R B C
  | [], ρ, S, h => by
    obtain ⟨h1, h2⟩ := last ρ S h
    unfold forD
    rw [if_pos h1]
    exact h2
  | v :: vs, ρ, S, h => by
    obtain ⟨h1, ρ1, h2, h3⟩ := step v vs ρ S h
    unfold forD
    rw [if_pos h1, h2]
    dsimp only
    cases e : body ρ1 S with
    | next ρ2 S2 => rw [e] at h3; exact gs_for I step last vs ρ2 S2 h3
    | cont ρ2 S2 => rw [e] at h3; exact gs_for I step last vs ρ2 S2 h3
    | brk ρ2 S2 => rw [e] at h3; exact h3
    | ret u S2 => rw [e] at h3; exact h3
    | err x ρ2 S2 => rw [e] at h3; exact h3
    | stuck => rw [e] at h3; exact h3
/-! ### what is shown -/
mutual
def lf : PyData → Bool
  | .int i => decide (i.natAbs < 10 ^ 100)
  | .str x => x.cps.toList.all fun c => decide (c < 1114112)
  | .list xs => lfAll xs
  | .tuple xs => lfAll xs
  | .dict kvs => kvs.isEmpty
  | _ => true
def lfAll : List PyData → Bool
  | [] => true
  | x :: xs => lf x && lfAll xs
end
theorem lfAll_iff : ∀ {ds : List PyData}, lfAll ds = true ↔ ∀ d ∈ ds, lf d = true
  | [] => by simp [lfAll]
  | d :: ds => by simp [lfAll, lfAll_iff (ds := ds)]
theorem small_log {i : Int} (h : i.natAbs < 10 ^ 100) : i.natAbs.log2 < 1920 := by
  by_cases z : i.natAbs = 0
  · rw [z]; decide
  · have e : (10 : Nat) ^ 100 ≤ 2 ^ 400 := by
      have : (10 : Nat) ≤ 2 ^ 4 := by decide
      calc (10 : Nat) ^ 100 ≤ (2 ^ 4) ^ 100 := Nat.pow_le_pow_left this 100
        _ = 2 ^ 400 := (Nat.pow_mul 2 4 100).symm
    exact Nat.lt_trans ((Nat.log2_lt (k := 400) z).mpr (Nat.lt_of_lt_of_le h e)) (by decide)
mutual
theorem lf_show : ∀ {d : PyData}, lf d = true → d.showable = true ∧ d.leavesShort 101 = true
  | .none, _ => ⟨rfl, rfl⟩
  | .bool _, _ => ⟨rfl, rfl⟩
  | .int i, h => by
    have h : i.natAbs < 10 ^ 100 := of_decide_eq_true h
    refine ⟨decide_eq_true (small_log h), decide_eq_true ?_⟩
    have e := PySem.int_text_length_le10 (k := 100) (by decide) h
    show (PySem.Str.ofString (toString i)).length ≤ 101
    rw [PySem.ofString_length]
    exact e
  | .str x, h => by
    refine ⟨rfl, ?_⟩
    unfold lf at h
    unfold PyData.leavesShort
    rw [List.all_eq_true] at h ⊢
    intro c hc
    have := of_decide_eq_true (h c hc)
    exact decide_eq_true (Nat.lt_of_lt_of_le this (by decide))
  | .list xs, h => by
    unfold lf at h
    obtain ⟨h1, h2⟩ := lfs_show h
    exact ⟨by unfold PyData.showable; exact h1, by unfold PyData.leavesShort; exact h2⟩
  | .tuple xs, h => by
    unfold lf at h
    obtain ⟨h1, h2⟩ := lfs_show h
    exact ⟨by unfold PyData.showable; exact h1, by unfold PyData.leavesShort; exact h2⟩
  | .dict kvs, h => by
    unfold lf at h
    cases kvs with
    | nil => exact ⟨rfl, rfl⟩
    | cons _ _ => cases h
theorem lfs_show : ∀ {ds : List PyData}, lfAll ds = true → PyData.showableAll ds = true ∧ PyData.leavesShortAll 101 ds = true
  | [], _ => ⟨rfl, rfl⟩
  | d :: ds, h => by
    unfold lfAll at h
    rw [Bool.and_eq_true] at h
    obtain ⟨a1, a2⟩ := lf_show h.1
    obtain ⟨b1, b2⟩ := lfs_show h.2
    exact ⟨by unfold PyData.showableAll; rw [a1, b1] <;> rfl, by unfold PyData.leavesShortAll; rw [a2, b2] <;> rfl⟩
end
/-- small data: its leaves, its bulk, its depth -/
structure Tame (m k : Nat) (d : PyData) : Prop where
  lf : lf d = true
  bulk : d.bulk ≤ m
  dp : d.depth ≤ k
theorem Tame.imp {m k m' k' : Nat} {d : PyData} (h : Tame m k d) (h1 : m ≤ m') (h2 : k ≤ k') : Tame m' k' d := ⟨h.lf, Nat.le_trans h.bulk h1, Nat.le_trans h.dp h2⟩
theorem tame_none {m k : Nat} : Tame m k .none := ⟨rfl, Nat.zero_le _, Nat.zero_le _⟩
theorem tame_bool {m k : Nat} {b : Bool} : Tame m k (.bool b) := ⟨rfl, Nat.zero_le _, Nat.zero_le _⟩
theorem tame_int {m k : Nat} {i : Int} (h : i.natAbs < 10 ^ 100) : Tame m k (.int i) := ⟨decide_eq_true h, Nat.zero_le _, Nat.zero_le _⟩
theorem bulkAll_le {m : Nat} : ∀ {ds : List PyData}, (∀ d ∈ ds, d.bulk ≤ m) → PyData.bulkAll ds ≤ (m + 1) * ds.length
  | [], _ => Nat.zero_le _
  | d :: ds, h => by
    have h1 := h d List.mem_cons_self
    have h2 := bulkAll_le (ds := ds) fun x hx => h x (List.mem_cons_of_mem _ hx)
    unfold PyData.bulkAll
    rw [List.length_cons, Nat.mul_add]
    omega
theorem depthAll_le {k : Nat} : ∀ {ds : List PyData}, (∀ d ∈ ds, d.depth ≤ k) → PyData.depthAll ds ≤ k
  | [], _ => Nat.zero_le _
  | d :: ds, h => by
    unfold PyData.depthAll
    exact Nat.max_le.mpr ⟨h d List.mem_cons_self, depthAll_le fun x hx => h x (List.mem_cons_of_mem _ hx)⟩
theorem tame_list {m k n : Nat} {ds : List PyData} (h : ∀ d ∈ ds, Tame m k d) (hn : (m + 1) * ds.length ≤ n) : Tame n (k + 1) (.list ds) :=
  ⟨by unfold Ev.lf; exact lfAll_iff.mpr fun d hd => (h d hd).lf, by unfold PyData.bulk; exact Nat.le_trans (bulkAll_le fun d hd => (h d hd).bulk) hn, by unfold PyData.depth; exact Nat.succ_le_succ (depthAll_le fun d hd => (h d hd).dp)⟩
theorem tame_tuple {m k n : Nat} {ds : List PyData} (h : ∀ d ∈ ds, Tame m k d) (hn : (m + 1) * ds.length ≤ n) : Tame n (k + 1) (.tuple ds) :=
  ⟨by unfold Ev.lf; exact lfAll_iff.mpr fun d hd => (h d hd).lf, by unfold PyData.bulk; exact Nat.le_trans (bulkAll_le fun d hd => (h d hd).bulk) hn, by unfold PyData.depth; exact Nat.succ_le_succ (depthAll_le fun d hd => (h d hd).dp)⟩
/-- it can be shown -/
def Rp (d : PyData) : Prop := d.showable = true ∧ d.depth ≤ 60 ∧ d.shown.length ≤ sizeLine
theorem rp_of {m k : Nat} {d : PyData} (h : Tame m k d) (hm : m ≤ 160000) (hk : k ≤ 60) : Rp d := by
  obtain ⟨h1, h2⟩ := lf_show h.lf
  refine ⟨h1, Nat.le_trans h.dp hk, ?_⟩
  have h3 := PyData.shown_le_bulk 101 (by decide) d h2
  have h4 := h.bulk
  rw [sizeLine_eq]
  omega
theorem repr_ok {v : Val} {S : Store} {d : PyData} (h : datOf S v = some d) (r : Rp d) : biV .repr [v] S = .ok (.d (.str d.shown)) S := by
  have e : biV .repr [v] S = (match datOf S v with | some x => okIf (x.showable = true ∧ x.depth ≤ 60 ∧ x.shown.length ≤ sizeLine) (.str x.shown) S | none => .stuck) := by
    cases v <;> rfl
  rw [e, h]
  exact if_pos r
end Ev
end

section
set_option Elab.async false
set_option linter.all false
set_option maxRecDepth 100000
set_option maxHeartbeats 4000000
/-! Q3: comprehensions with a test, small data by sums, words -/
namespace Ev
open PySem PySem.Spec L2
theorem lc_filter {w : Itm} {tg : Tg} {cond : TD Bool} {elt : TD Val} {ρ : EnvD} {α : Type} (g : α → Val) (p : α → Bool) (f : α → PyData) (l : List α) (acc : List PyData) (S : Store) (hc : w.ck S)
    (he : ∀ x ∈ l, ∃ ρ1, tgt tg (g x) ρ = some ρ1 ∧ cond ρ1 S = .ok (p x) S ∧ (p x = true → elt ρ1 S = .ok (.d (f x)) S)) (hl : acc.length + l.length ≤ sizeLine) : lcD w tg cond elt ρ (l.map g) acc S = .ok (acc ++ (l.filter p).map f) S := by
  induction l generalizing acc with
  | nil => simp [lcD, hc]
  | cons x l ih =>
    obtain ⟨ρ1, h1, h2, h3⟩ := he x List.mem_cons_self
    rw [List.length_cons] at hl
    show lcD w tg cond elt ρ (g x :: l.map g) acc S = _
    unfold lcD
    rw [if_pos hc, h1]
    dsimp only
    rw [h2]
    cases hp : p x with
    | true =>
      have := ih (acc ++ [f x]) (fun y hy => he y (List.mem_cons_of_mem _ hy)) (by rw [List.length_append, List.length_singleton]; omega)
      dsimp only
      rw [h3 hp]
      dsimp only
      rw [if_pos (by omega), this]
      simp [hp]
    | false =>
      dsimp only
      rw [ih acc (fun y hy => he y (List.mem_cons_of_mem _ hy)) (by omega)]
      simp [hp]
theorem gets_filter {tg : Tg} {cond : TD Bool} {elt : TD Val} {ρ : EnvD} {own : List Nat} {m : Bool} {it : TD Itm} {Q : Val → Store → Prop} {α : Type} (g : α → Val) (p : α → Bool) (f : α → PyData) (l : List α) {S S0 : Store} {n : Option (Nat × List PyData)} (hi : it ρ S0 = .ok ⟨l.map g, n⟩ S) (hc : (⟨l.map g, n⟩ : Itm).ck S)
    (he : ∀ x ∈ l, ∃ ρ1, tgt tg (g x) (wipeD ρ own) = some ρ1 ∧ cond ρ1 S = .ok (p x) S ∧ (p x = true → elt ρ1 S = .ok (.d (f x)) S)) (hl : l.length ≤ sizeLine) (q : if m = true then Q (.loc S.length) (S ++ [.lst ((l.filter p).map f)]) else Q (.d (.list ((l.filter p).map f))) S) : Gets (dLc m it own tg cond elt ρ S0) Q := by
  unfold dLc
  rw [hi]
  dsimp only
  rw [lc_filter g p f l [] S hc he (by simpa using hl)]
  dsimp only
  rw [List.nil_append]
  split at q
  · rename_i h; rw [if_pos h]; exact ⟨_, _, rfl, q⟩
  · rename_i h; rw [if_neg h]; exact ⟨_, _, rfl, q⟩
/-! ### a long body, statement by statement -/
structure GSW (o : SOut) (N : EnvD → Store → Prop) (R : Val → Store → Prop) (B C : EnvD → Store → Prop) : Prop where
  h : GS o N R B C
def nthS : CSs → Nat → CS
  | .cons a _, 0 => a
  | .cons _ r, n + 1 => nthS r n
  | .nil, _ => .pass
def dropS : CSs → Nat → CSs
  | r, 0 => r
  | .cons _ r, n + 1 => dropS r n
  | .nil, _ => .nil
theorem gsw_at {Gl : List PyData} {K : Calls} {b : CSs} {i : Nat} {a : CS} {r : CSs} {ρ : EnvD} {S : Store} {N N' B C : EnvD → Store → Prop} {R : Val → Store → Prop} (e : dropS b i = .cons a r) (e2 : nthS b i = a) (e3 : dropS b (i + 1) = r)
    (h : GSW (dS Gl K (nthS b i) ρ S) N' R B C) (k : ∀ ρ S, N' ρ S → GSW (dSs Gl K (dropS b (i + 1)) ρ S) N R B C) : GSW (dSs Gl K (dropS b i) ρ S) N R B C := by
  obtain ⟨h⟩ := h
  rw [e]
  rw [e2] at h
  rw [e3] at k
  refine ⟨?_⟩
  show GS ((dS Gl K a ρ S).seq fun ρ1 S1 => dSs Gl K r ρ1 S1) N R B C
  rw [gs_seq]
  revert h
  generalize dS Gl K a ρ S = o
  cases o with
  | next ρ1 S1 => exact fun h => (k ρ1 S1 h).h
  | ret v S1 => exact fun h => h
  | brk ρ1 S1 => exact fun h => h
  | cont ρ1 S1 => exact fun h => h
  | err x ρ1 S1 => exact fun h => h
  | stuck => exact fun h => h
theorem gsw_end {Gl : List PyData} {K : Calls} {b : CSs} {i : Nat} {ρ : EnvD} {S : Store} {N B C : EnvD → Store → Prop} {R : Val → Store → Prop} (e : dropS b i = .nil) (h : N ρ S) : GSW (dSs Gl K (dropS b i) ρ S) N R B C := by
  rw [e]
  exact ⟨h⟩
theorem rng_ok {k : Nat} (h : k ≤ 100000) (S : Store) : rng1I (.d (.int (k : Int))) S = .ok (rngI 0 k) S := by
  rw [rng1_i, if_pos (by omega)]
  simp
theorem it_rng1 {Gl : List PyData} {K : Calls} {a : CE} {k : Nat} {ρ : EnvD} {S S1 : Store} (e : dE Gl K a ρ S = .ok (.d (.int (k : Int))) S1) (h : k ≤ 100000) : dI Gl K (.rng1 a) ρ S = .ok (rngI 0 k) S1 := by
  have d : dI Gl K (.rng1 a) ρ S = (dE Gl K a ρ S).bind rng1I := by simp only [dI]
  rw [d, e, Out.bind_ok, rng_ok h]
/-- a loop: its body is opened in its turns alone -/
theorem gsw_for {Gl : List PyData} {K : Calls} {c : CS} {tg : Tg} {it : CI} {b : CSs} {ρ : EnvD} {S S1 : Store} {w : Itm} {N B C : EnvD → Store → Prop} {R : Val → Store → Prop} (e : c = .for_ tg it b) (hi : dI Gl K it ρ S = .ok w S1)
    (I : List Val → EnvD → Store → Prop) (step : ∀ v vs ρ S, I (v :: vs) ρ S → w.ck S ∧ ∃ ρ1, tgt tg v ρ = some ρ1 ∧ GS (dSs Gl K b ρ1 S) (I vs) R N (I vs)) (last : ∀ ρ S, I [] ρ S → w.ck S ∧ N ρ S) (h : I w.vs ρ S1) : GSW (dS Gl K c ρ S) N R B C := by
  subst e
  refine ⟨?_⟩
  have d : dS Gl K (.for_ tg it b) ρ S = (dI Gl K it ρ S).s ρ fun w S1 => forD w tg (dSs Gl K b) w.vs ρ S1 := by
    simp [dS]
  rw [d, hi]
  exact gs_for I step last w.vs ρ S1 h
theorem drop0 (b : CSs) : dropS b 0 = b := by cases b <;> rfl
/-- a def by its statements -/
theorem gets_body {Gd : List PyData} {T : List Df} {n k : Nat} {vs : List Val} {S : Store} {d : Df} {Q : Val → Store → Prop} (h : T[k]? = some d) (hl : vs.length = d.np)
    (q : GSW (dSs Gd (sem Gd T n) (dropS d.body 0) (entry d.np d.nn vs) S) (fun _ S' => Q (.d .none) (S'.take S.length)) (fun v S' => Gets (back d.mu S.length v S') Q) (fun _ _ => False) fun _ _ => False) : Gets (sem Gd T (n + 1) k vs S) Q := by
  rw [drop0] at q
  exact gets_sem h hl q.h
/-! ### lists that are written, in tuples -/
section
variable {S : Store} {p n : Nat} {xs zs : List PyData} {x : PyData}
theorem ext_loc (h : S[p]? = some (.lst xs)) (hz : xs.length + zs.length ≤ sizeLine) : meV .extend (.loc p) [.d (.list zs)] S = .ok (.d .none) (S.set p (.lst (xs ++ zs))) := by
  simp [meV, lstOf, h, hz]
theorem add_loc_l (h : S[p]? = some (.lst xs)) : binV .Add (.loc p) (.d (.list zs)) S = okIf (xs.length + zs.length ≤ sizeLine) (.list (xs ++ zs)) S := by
  simp [binV, lstOf, h]
theorem back_tp (h : S[n]? = some (.lst xs)) : back false n (.tp [.d x, .loc n]) S = .ok (.d (.tuple [x, .list xs])) (S.take n) := by
  simp [back, newEl, elsD, h]
end
/-! ### items at written places -/
section
variable {α : Type} {a b c d e f : α} {l : List α}
@[simp] theorem at_0 : atI (a :: l) 0 = some a := by simp [atI, ixN]
@[simp] theorem at_1 : atI (a :: b :: l) 1 = some b := by
  unfold atI ixN
  rw [if_pos (by decide), if_pos (by simp; omega)]
  rfl
@[simp] theorem at_2 : atI (a :: b :: c :: l) 2 = some c := by
  unfold atI ixN
  rw [if_pos (by decide), if_pos (by simp; omega)]
  rfl
@[simp] theorem at_3 : atI (a :: b :: c :: d :: l) 3 = some d := by
  unfold atI ixN
  rw [if_pos (by decide), if_pos (by simp; omega)]
  rfl
@[simp] theorem at_4 : atI (a :: b :: c :: d :: e :: l) 4 = some e := by
  unfold atI ixN
  rw [if_pos (by decide), if_pos (by simp; omega)]
  rfl
@[simp] theorem at_5 : atI (a :: b :: c :: d :: e :: f :: l) 5 = some f := by
  unfold atI ixN
  rw [if_pos (by decide), if_pos (by simp; omega)]
  rfl
end
/-! ### membership among written texts, small sizes -/
section
variable {S : Store} {x a b c d e f : Str}
@[simp] theorem in_tuple1 (hx : PyData.strOk x = true) (ha : PyData.strOk a = true) : cmpV .In (.d (.str x)) (.d (.tuple [.str a])) S = .ok (.d (.bool ((a == x)))) S := by simp [hx, ha, cmpV, datOf, seqOf, okIf, SeqAt.shaped, PyData.canLay0, PyData.canLayAll0, PyData.depth, PyData.depthAll, PyData.eqv, Bool.or_assoc]
@[simp] theorem in_tuple2 (hx : PyData.strOk x = true) (ha : PyData.strOk a = true) (hb : PyData.strOk b = true) : cmpV .In (.d (.str x)) (.d (.tuple [.str a, .str b])) S = .ok (.d (.bool ((a == x || b == x)))) S := by simp [hx, ha, hb, cmpV, datOf, seqOf, okIf, SeqAt.shaped, PyData.canLay0, PyData.canLayAll0, PyData.depth, PyData.depthAll, PyData.eqv, Bool.or_assoc]
@[simp] theorem in_tuple3 (hx : PyData.strOk x = true) (ha : PyData.strOk a = true) (hb : PyData.strOk b = true) (hc : PyData.strOk c = true) : cmpV .In (.d (.str x)) (.d (.tuple [.str a, .str b, .str c])) S = .ok (.d (.bool ((a == x || b == x || c == x)))) S := by simp [hx, ha, hb, hc, cmpV, datOf, seqOf, okIf, SeqAt.shaped, PyData.canLay0, PyData.canLayAll0, PyData.depth, PyData.depthAll, PyData.eqv, Bool.or_assoc]
@[simp] theorem in_tuple4 (hx : PyData.strOk x = true) (ha : PyData.strOk a = true) (hb : PyData.strOk b = true) (hc : PyData.strOk c = true) (hd : PyData.strOk d = true) : cmpV .In (.d (.str x)) (.d (.tuple [.str a, .str b, .str c, .str d])) S = .ok (.d (.bool ((a == x || b == x || c == x || d == x)))) S := by simp [hx, ha, hb, hc, hd, cmpV, datOf, seqOf, okIf, SeqAt.shaped, PyData.canLay0, PyData.canLayAll0, PyData.depth, PyData.depthAll, PyData.eqv, Bool.or_assoc]
@[simp] theorem in_tuple5 (hx : PyData.strOk x = true) (ha : PyData.strOk a = true) (hb : PyData.strOk b = true) (hc : PyData.strOk c = true) (hd : PyData.strOk d = true) (he : PyData.strOk e = true) : cmpV .In (.d (.str x)) (.d (.tuple [.str a, .str b, .str c, .str d, .str e])) S = .ok (.d (.bool ((a == x || b == x || c == x || d == x || e == x)))) S := by simp [hx, ha, hb, hc, hd, he, cmpV, datOf, seqOf, okIf, SeqAt.shaped, PyData.canLay0, PyData.canLayAll0, PyData.depth, PyData.depthAll, PyData.eqv, Bool.or_assoc]
@[simp] theorem in_tuple6 (hx : PyData.strOk x = true) (ha : PyData.strOk a = true) (hb : PyData.strOk b = true) (hc : PyData.strOk c = true) (hd : PyData.strOk d = true) (he : PyData.strOk e = true) (hf : PyData.strOk f = true) : cmpV .In (.d (.str x)) (.d (.tuple [.str a, .str b, .str c, .str d, .str e, .str f])) S = .ok (.d (.bool ((a == x || b == x || c == x || d == x || e == x || f == x)))) S := by simp [hx, ha, hb, hc, hd, he, hf, cmpV, datOf, seqOf, okIf, SeqAt.shaped, PyData.canLay0, PyData.canLayAll0, PyData.depth, PyData.depthAll, PyData.eqv, Bool.or_assoc]
@[simp] theorem in_list1 (hx : PyData.strOk x = true) (ha : PyData.strOk a = true) : cmpV .In (.d (.str x)) (.d (.list [.str a])) S = .ok (.d (.bool ((a == x)))) S := by simp [hx, ha, cmpV, datOf, seqOf, okIf, SeqAt.shaped, PyData.canLay0, PyData.canLayAll0, PyData.depth, PyData.depthAll, PyData.eqv, Bool.or_assoc]
@[simp] theorem in_list2 (hx : PyData.strOk x = true) (ha : PyData.strOk a = true) (hb : PyData.strOk b = true) : cmpV .In (.d (.str x)) (.d (.list [.str a, .str b])) S = .ok (.d (.bool ((a == x || b == x)))) S := by simp [hx, ha, hb, cmpV, datOf, seqOf, okIf, SeqAt.shaped, PyData.canLay0, PyData.canLayAll0, PyData.depth, PyData.depthAll, PyData.eqv, Bool.or_assoc]
@[simp] theorem in_list3 (hx : PyData.strOk x = true) (ha : PyData.strOk a = true) (hb : PyData.strOk b = true) (hc : PyData.strOk c = true) : cmpV .In (.d (.str x)) (.d (.list [.str a, .str b, .str c])) S = .ok (.d (.bool ((a == x || b == x || c == x)))) S := by simp [hx, ha, hb, hc, cmpV, datOf, seqOf, okIf, SeqAt.shaped, PyData.canLay0, PyData.canLayAll0, PyData.depth, PyData.depthAll, PyData.eqv, Bool.or_assoc]
@[simp] theorem in_list4 (hx : PyData.strOk x = true) (ha : PyData.strOk a = true) (hb : PyData.strOk b = true) (hc : PyData.strOk c = true) (hd : PyData.strOk d = true) : cmpV .In (.d (.str x)) (.d (.list [.str a, .str b, .str c, .str d])) S = .ok (.d (.bool ((a == x || b == x || c == x || d == x)))) S := by simp [hx, ha, hb, hc, hd, cmpV, datOf, seqOf, okIf, SeqAt.shaped, PyData.canLay0, PyData.canLayAll0, PyData.depth, PyData.depthAll, PyData.eqv, Bool.or_assoc]
@[simp] theorem in_list5 (hx : PyData.strOk x = true) (ha : PyData.strOk a = true) (hb : PyData.strOk b = true) (hc : PyData.strOk c = true) (hd : PyData.strOk d = true) (he : PyData.strOk e = true) : cmpV .In (.d (.str x)) (.d (.list [.str a, .str b, .str c, .str d, .str e])) S = .ok (.d (.bool ((a == x || b == x || c == x || d == x || e == x)))) S := by simp [hx, ha, hb, hc, hd, he, cmpV, datOf, seqOf, okIf, SeqAt.shaped, PyData.canLay0, PyData.canLayAll0, PyData.depth, PyData.depthAll, PyData.eqv, Bool.or_assoc]
@[simp] theorem in_list6 (hx : PyData.strOk x = true) (ha : PyData.strOk a = true) (hb : PyData.strOk b = true) (hc : PyData.strOk c = true) (hd : PyData.strOk d = true) (he : PyData.strOk e = true) (hf : PyData.strOk f = true) : cmpV .In (.d (.str x)) (.d (.list [.str a, .str b, .str c, .str d, .str e, .str f])) S = .ok (.d (.bool ((a == x || b == x || c == x || d == x || e == x || f == x)))) S := by simp [hx, ha, hb, hc, hd, he, hf, cmpV, datOf, seqOf, okIf, SeqAt.shaped, PyData.canLay0, PyData.canLayAll0, PyData.depth, PyData.depthAll, PyData.eqv, Bool.or_assoc]
@[simp] theorem notin_tuple1 (hx : PyData.strOk x = true) (ha : PyData.strOk a = true) : cmpV .NotIn (.d (.str x)) (.d (.tuple [.str a])) S = .ok (.d (.bool (!(a == x)))) S := by simp [hx, ha, cmpV, datOf, seqOf, okIf, SeqAt.shaped, PyData.canLay0, PyData.canLayAll0, PyData.depth, PyData.depthAll, PyData.eqv, Bool.or_assoc]
@[simp] theorem notin_tuple2 (hx : PyData.strOk x = true) (ha : PyData.strOk a = true) (hb : PyData.strOk b = true) : cmpV .NotIn (.d (.str x)) (.d (.tuple [.str a, .str b])) S = .ok (.d (.bool (!(a == x || b == x)))) S := by simp [hx, ha, hb, cmpV, datOf, seqOf, okIf, SeqAt.shaped, PyData.canLay0, PyData.canLayAll0, PyData.depth, PyData.depthAll, PyData.eqv, Bool.or_assoc]
@[simp] theorem notin_tuple3 (hx : PyData.strOk x = true) (ha : PyData.strOk a = true) (hb : PyData.strOk b = true) (hc : PyData.strOk c = true) : cmpV .NotIn (.d (.str x)) (.d (.tuple [.str a, .str b, .str c])) S = .ok (.d (.bool (!(a == x || b == x || c == x)))) S := by simp [hx, ha, hb, hc, cmpV, datOf, seqOf, okIf, SeqAt.shaped, PyData.canLay0, PyData.canLayAll0, PyData.depth, PyData.depthAll, PyData.eqv, Bool.or_assoc]
@[simp] theorem notin_tuple4 (hx : PyData.strOk x = true) (ha : PyData.strOk a = true) (hb : PyData.strOk b = true) (hc : PyData.strOk c = true) (hd : PyData.strOk d = true) : cmpV .NotIn (.d (.str x)) (.d (.tuple [.str a, .str b, .str c, .str d])) S = .ok (.d (.bool (!(a == x || b == x || c == x || d == x)))) S := by simp [hx, ha, hb, hc, hd, cmpV, datOf, seqOf, okIf, SeqAt.shaped, PyData.canLay0, PyData.canLayAll0, PyData.depth, PyData.depthAll, PyData.eqv, Bool.or_assoc]
@[simp] theorem notin_tuple5 (hx : PyData.strOk x = true) (ha : PyData.strOk a = true) (hb : PyData.strOk b = true) (hc : PyData.strOk c = true) (hd : PyData.strOk d = true) (he : PyData.strOk e = true) : cmpV .NotIn (.d (.str x)) (.d (.tuple [.str a, .str b, .str c, .str d, .str e])) S = .ok (.d (.bool (!(a == x || b == x || c == x || d == x || e == x)))) S := by simp [hx, ha, hb, hc, hd, he, cmpV, datOf, seqOf, okIf, SeqAt.shaped, PyData.canLay0, PyData.canLayAll0, PyData.depth, PyData.depthAll, PyData.eqv, Bool.or_assoc]
@[simp] theorem notin_tuple6 (hx : PyData.strOk x = true) (ha : PyData.strOk a = true) (hb : PyData.strOk b = true) (hc : PyData.strOk c = true) (hd : PyData.strOk d = true) (he : PyData.strOk e = true) (hf : PyData.strOk f = true) : cmpV .NotIn (.d (.str x)) (.d (.tuple [.str a, .str b, .str c, .str d, .str e, .str f])) S = .ok (.d (.bool (!(a == x || b == x || c == x || d == x || e == x || f == x)))) S := by simp [hx, ha, hb, hc, hd, he, hf, cmpV, datOf, seqOf, okIf, SeqAt.shaped, PyData.canLay0, PyData.canLayAll0, PyData.depth, PyData.depthAll, PyData.eqv, Bool.or_assoc]
@[simp] theorem notin_list1 (hx : PyData.strOk x = true) (ha : PyData.strOk a = true) : cmpV .NotIn (.d (.str x)) (.d (.list [.str a])) S = .ok (.d (.bool (!(a == x)))) S := by simp [hx, ha, cmpV, datOf, seqOf, okIf, SeqAt.shaped, PyData.canLay0, PyData.canLayAll0, PyData.depth, PyData.depthAll, PyData.eqv, Bool.or_assoc]
@[simp] theorem notin_list2 (hx : PyData.strOk x = true) (ha : PyData.strOk a = true) (hb : PyData.strOk b = true) : cmpV .NotIn (.d (.str x)) (.d (.list [.str a, .str b])) S = .ok (.d (.bool (!(a == x || b == x)))) S := by simp [hx, ha, hb, cmpV, datOf, seqOf, okIf, SeqAt.shaped, PyData.canLay0, PyData.canLayAll0, PyData.depth, PyData.depthAll, PyData.eqv, Bool.or_assoc]
@[simp] theorem notin_list3 (hx : PyData.strOk x = true) (ha : PyData.strOk a = true) (hb : PyData.strOk b = true) (hc : PyData.strOk c = true) : cmpV .NotIn (.d (.str x)) (.d (.list [.str a, .str b, .str c])) S = .ok (.d (.bool (!(a == x || b == x || c == x)))) S := by simp [hx, ha, hb, hc, cmpV, datOf, seqOf, okIf, SeqAt.shaped, PyData.canLay0, PyData.canLayAll0, PyData.depth, PyData.depthAll, PyData.eqv, Bool.or_assoc]
@[simp] theorem notin_list4 (hx : PyData.strOk x = true) (ha : PyData.strOk a = true) (hb : PyData.strOk b = true) (hc : PyData.strOk c = true) (hd : PyData.strOk d = true) : cmpV .NotIn (.d (.str x)) (.d (.list [.str a, .str b, .str c, .str d])) S = .ok (.d (.bool (!(a == x || b == x || c == x || d == x)))) S := by simp [hx, ha, hb, hc, hd, cmpV, datOf, seqOf, okIf, SeqAt.shaped, PyData.canLay0, PyData.canLayAll0, PyData.depth, PyData.depthAll, PyData.eqv, Bool.or_assoc]
@[simp] theorem notin_list5 (hx : PyData.strOk x = true) (ha : PyData.strOk a = true) (hb : PyData.strOk b = true) (hc : PyData.strOk c = true) (hd : PyData.strOk d = true) (he : PyData.strOk e = true) : cmpV .NotIn (.d (.str x)) (.d (.list [.str a, .str b, .str c, .str d, .str e])) S = .ok (.d (.bool (!(a == x || b == x || c == x || d == x || e == x)))) S := by simp [hx, ha, hb, hc, hd, he, cmpV, datOf, seqOf, okIf, SeqAt.shaped, PyData.canLay0, PyData.canLayAll0, PyData.depth, PyData.depthAll, PyData.eqv, Bool.or_assoc]
@[simp] theorem notin_list6 (hx : PyData.strOk x = true) (ha : PyData.strOk a = true) (hb : PyData.strOk b = true) (hc : PyData.strOk c = true) (hd : PyData.strOk d = true) (he : PyData.strOk e = true) (hf : PyData.strOk f = true) : cmpV .NotIn (.d (.str x)) (.d (.list [.str a, .str b, .str c, .str d, .str e, .str f])) S = .ok (.d (.bool (!(a == x || b == x || c == x || d == x || e == x || f == x)))) S := by simp [hx, ha, hb, hc, hd, he, hf, cmpV, datOf, seqOf, okIf, SeqAt.shaped, PyData.canLay0, PyData.canLayAll0, PyData.depth, PyData.depthAll, PyData.eqv, Bool.or_assoc]
end
@[simp] theorem sl_0 : ((0 : Nat) ≤ sizeLine) = True := eq_true (by rw [sizeLine_eq]; decide)
@[simp] theorem sl_1 : ((1 : Nat) ≤ sizeLine) = True := eq_true (by rw [sizeLine_eq]; decide)
@[simp] theorem sl_2 : ((2 : Nat) ≤ sizeLine) = True := eq_true (by rw [sizeLine_eq]; decide)
@[simp] theorem sl_3 : ((3 : Nat) ≤ sizeLine) = True := eq_true (by rw [sizeLine_eq]; decide)
@[simp] theorem sl_4 : ((4 : Nat) ≤ sizeLine) = True := eq_true (by rw [sizeLine_eq]; decide)
@[simp] theorem sl_5 : ((5 : Nat) ≤ sizeLine) = True := eq_true (by rw [sizeLine_eq]; decide)
@[simp] theorem sl_6 : ((6 : Nat) ≤ sizeLine) = True := eq_true (by rw [sizeLine_eq]; decide)
@[simp] theorem sl_7 : ((7 : Nat) ≤ sizeLine) = True := eq_true (by rw [sizeLine_eq]; decide)
@[simp] theorem sl_8 : ((8 : Nat) ≤ sizeLine) = True := eq_true (by rw [sizeLine_eq]; decide)
@[simp] theorem sl_9 : ((9 : Nat) ≤ sizeLine) = True := eq_true (by rw [sizeLine_eq]; decide)
@[simp] theorem sl_10 : ((10 : Nat) ≤ sizeLine) = True := eq_true (by rw [sizeLine_eq]; decide)
@[simp] theorem sl_11 : ((11 : Nat) ≤ sizeLine) = True := eq_true (by rw [sizeLine_eq]; decide)
@[simp] theorem sl_12 : ((12 : Nat) ≤ sizeLine) = True := eq_true (by rw [sizeLine_eq]; decide)
@[simp] theorem sl_13 : ((13 : Nat) ≤ sizeLine) = True := eq_true (by rw [sizeLine_eq]; decide)
@[simp] theorem sl_14 : ((14 : Nat) ≤ sizeLine) = True := eq_true (by rw [sizeLine_eq]; decide)
@[simp] theorem sl_15 : ((15 : Nat) ≤ sizeLine) = True := eq_true (by rw [sizeLine_eq]; decide)
@[simp] theorem sl_16 : ((16 : Nat) ≤ sizeLine) = True := eq_true (by rw [sizeLine_eq]; decide)
@[simp] theorem sl_17 : ((17 : Nat) ≤ sizeLine) = True := eq_true (by rw [sizeLine_eq]; decide)
@[simp] theorem sl_18 : ((18 : Nat) ≤ sizeLine) = True := eq_true (by rw [sizeLine_eq]; decide)
@[simp] theorem sl_19 : ((19 : Nat) ≤ sizeLine) = True := eq_true (by rw [sizeLine_eq]; decide)
@[simp] theorem sl_20 : ((20 : Nat) ≤ sizeLine) = True := eq_true (by rw [sizeLine_eq]; decide)
@[simp] theorem sl_21 : ((21 : Nat) ≤ sizeLine) = True := eq_true (by rw [sizeLine_eq]; decide)
@[simp] theorem sl_22 : ((22 : Nat) ≤ sizeLine) = True := eq_true (by rw [sizeLine_eq]; decide)
@[simp] theorem sl_23 : ((23 : Nat) ≤ sizeLine) = True := eq_true (by rw [sizeLine_eq]; decide)
/-! ### small data, by sums -/
structure TameAll (m k : Nat) (ds : List PyData) : Prop where
  lf : lfAll ds = true
  bulk : PyData.bulkAll ds ≤ m
  dp : PyData.depthAll ds ≤ k
theorem TameAll.nil {m k : Nat} : TameAll m k [] := ⟨rfl, Nat.zero_le _, Nat.zero_le _⟩
theorem TameAll.cons {a b m k : Nat} {d : PyData} {ds : List PyData} (h : Tame a k d) (t : TameAll b k ds) (hm : a + 1 + b ≤ m := by decide) : TameAll m k (d :: ds) := by
  refine ⟨?_, ?_, ?_⟩
  · unfold lfAll
    rw [h.lf, t.lf] <;> rfl
  · have h1 := h.bulk
    have h2 := t.bulk
    unfold PyData.bulkAll
    omega
  · unfold PyData.depthAll
    exact Nat.max_le.mpr ⟨h.dp, t.dp⟩
theorem TameAll.all {a n m k : Nat} {ds : List PyData} (h : ∀ d ∈ ds, Tame a k d) (hl : ds.length ≤ n) (hm : (a + 1) * n ≤ m := by decide) : TameAll m k ds := by
  refine ⟨lfAll_iff.mpr fun d hd => (h d hd).lf, ?_, depthAll_le fun d hd => (h d hd).dp⟩
  refine Nat.le_trans (bulkAll_le fun d hd => (h d hd).bulk) (Nat.le_trans (Nat.mul_le_mul_left _ hl) hm)
theorem TameAll.app {a b m k : Nat} {ds es : List PyData} (h : TameAll a k ds) (g : TameAll b k es) (hm : a + b ≤ m := by decide) : TameAll m k (ds ++ es) := by
  induction ds generalizing a m with
  | nil => exact ⟨g.lf, by have := g.bulk; simp; omega, g.dp⟩
  | cons d ds ih =>
    have h1 := h.lf
    have h2 := h.bulk
    have h3 := h.dp
    unfold lfAll at h1
    unfold PyData.bulkAll at h2
    unfold PyData.depthAll at h3
    rw [Bool.and_eq_true] at h1
    rw [Nat.max_le] at h3
    have hb : PyData.bulkAll ds ≤ a := by omega
    have i := ih (a := PyData.bulkAll ds) (m := PyData.bulkAll ds + b) ⟨h1.2, Nat.le_refl _, h3.2⟩ (Nat.le_refl _)
    exact TameAll.cons (a := d.bulk) (b := PyData.bulkAll ds + b) ⟨h1.1, Nat.le_refl _, h3.1⟩ i (by omega)
theorem Tame.tup {m k : Nat} {ds : List PyData} (t : TameAll m k ds) : Tame m (k + 1) (.tuple ds) :=
  ⟨by unfold Ev.lf; exact t.lf, by unfold PyData.bulk; exact t.bulk, by unfold PyData.depth; exact Nat.succ_le_succ t.dp⟩
theorem Tame.list {m k : Nat} {ds : List PyData} (t : TameAll m k ds) : Tame m (k + 1) (.list ds) :=
  ⟨by unfold Ev.lf; exact t.lf, by unfold PyData.bulk; exact t.bulk, by unfold PyData.depth; exact Nat.succ_le_succ t.dp⟩
theorem TameAll.imp {m k m' k' : Nat} {ds : List PyData} (h : TameAll m k ds) (h1 : m ≤ m' := by decide) (h2 : k ≤ k' := by decide) : TameAll m' k' ds := ⟨h.lf, Nat.le_trans h.bulk h1, Nat.le_trans h.dp h2⟩
theorem tame_small {m k : Nat} {i : Int} (h0 : -1000 ≤ i) (h1 : i ≤ 1000000) : Tame m k (.int i) := tame_int (by
  have e : (1000000 : Nat) < 10 ^ 100 := by decide
  omega)
theorem tame_strB {x : Str} {n k : Nat} (h : x.length ≤ n) (hc : ∀ c ∈ x.cps.toList, c < 1114112) : Tame n k (.str x) := by
  refine ⟨?_, h, Nat.zero_le _⟩
  unfold Ev.lf
  rw [List.all_eq_true]
  exact fun c hc' => decide_eq_true (hc c hc')
/-- a written text, by looking -/
theorem tame_w {x : Str} {n k : Nat} (h : (decide (x.length ≤ n) && x.cps.toList.all fun c => decide (c < 1114112)) = true) : Tame n k (.str x) := by
  rw [Bool.and_eq_true, List.all_eq_true] at h
  exact tame_strB (of_decide_eq_true h.1) fun c hc => of_decide_eq_true (h.2 c hc)
/-- unequal by looking -/
theorem str_ne {a b : Str} (h : (a.cps.toList == b.cps.toList) = false) : (a == b) = false ∧ a ≠ b := by
  have ne : a ≠ b := fun e => by rw [e] at h; simp at h
  exact ⟨beq_eq_false_iff_ne.mpr ne, ne⟩
end Ev
end

section
set_option Elab.async false
set_option linter.all false
set_option maxRecDepth 100000
set_option maxHeartbeats 4000000
/-! T1: texts by their signs: find, split, slices -/
namespace Ev
open PySem PySem.Spec L2 PySem.Builtin PySem.Builtin.Str PySem.StrLaws

abbrev tx (l : List Nat) : Str := ⟨l.toArray⟩
theorem tx_tl (x : Str) : tx x.cps.toList = x := by cases x; simp
theorem tx_inj {a b : List Nat} (h : tx a = tx b) : a = b := congrArg (fun x : Str => x.cps.toList) h
@[simp] theorem tl_tx (a : List Nat) : (tx a).cps.toList = a := rfl
@[simp] theorem tx_len (a : List Nat) : (tx a).length = a.length := by simp [Str.length]
theorem tx_cat (a b : List Nat) : tx a ++ tx b = tx (a ++ b) := SX.S_cat a b
theorem len_tl (x : Str) : x.length = x.cps.toList.length := by simp [Str.length]
theorem tx_beq (a b : List Nat) : (tx a == tx b) = decide (a = b) := SX.S_beq_eq
theorem tx_eq {x : Str} {l : List Nat} (h : x.cps.toList = l) : x = tx l := by rw [← h, tx_tl]
/-- the first place of a sign -/
def fnd (c : Nat) : List Nat → Option Nat
  | [] => none
  | a :: r => if a = c then some 0 else (fnd c r).map (· + 1)
theorem fnd_none {c : Nat} : ∀ {l : List Nat}, fnd c l = none ↔ c ∉ l
  | [] => by simp [fnd]
  | a :: r => by
    unfold fnd
    by_cases h : a = c
    · simp [h]
    · simp [h, fnd_none (l := r), Ne.symm h]
theorem fnd_app {c : Nat} : ∀ {p : List Nat} (q : List Nat), c ∉ p → fnd c (p ++ c :: q) = some p.length
  | [], q, _ => by simp [fnd]
  | a :: p, q, h => by
    have h1 : a ≠ c := fun e => h (by simp [e])
    have h2 : c ∉ p := fun e => h (by simp [e])
    show (if a = c then some 0 else (fnd c (p ++ c :: q)).map (· + 1)) = _
    rw [if_neg h1, fnd_app q h2]
    rfl
theorem fnd_some {c : Nat} : ∀ {l : List Nat} {j : Nat}, fnd c l = some j → ∃ p q, l = p ++ c :: q ∧ c ∉ p ∧ p.length = j
  | [], j, h => by cases h
  | a :: r, j, h => by
    unfold fnd at h
    by_cases e : a = c
    · rw [if_pos e] at h
      cases h
      exact ⟨[], r, by simp [e], by simp, rfl⟩
    · rw [if_neg e] at h
      obtain ⟨k, hk, rfl⟩ := Option.map_eq_some_iff.mp h
      obtain ⟨p, q, rfl, h2, rfl⟩ := fnd_some hk
      exact ⟨a :: p, q, rfl, by simp [Ne.symm e, h2], rfl⟩
/-- the places of a sign, at most k of them -/
def pos (c : Nat) : Nat → Nat → List Nat → List Nat
  | _, _, [] => []
  | 0, _, _ :: _ => []
  | k + 1, i, a :: r => if a = c then i :: pos c k (i + 1) r else pos c (k + 1) (i + 1) r
theorem pos_0 (c i : Nat) (l : List Nat) : pos c 0 i l = [] := by cases l <;> rfl
theorem pos_nil (c k i : Nat) : pos c k i [] = [] := by cases k <;> rfl
theorem pos_1 (c : Nat) : ∀ (l : List Nat) (i : Nat), pos c 1 i l = match fnd c l with | none => [] | some j => [i + j]
  | [], i => rfl
  | a :: r, i => by
    by_cases h : a = c
    · simp [pos, fnd, h, pos_0]
    · simp only [pos, fnd, h, if_false]
      rw [pos_1 c r]
      cases fnd c r with
      | none => rfl
      | some j => simp; omega
theorem occ_go (x : Str) (c lim : Nat) : ∀ (n lo free : Nat) (found : Array Nat), n = x.length + 1 - lo → free ≤ lo →
    (forIn (List.range' lo n) (found, free) (occBody x ⟨#[c]⟩ x.length lim)).run.fst.toList = found.toList ++ pos c (lim - found.size) lo (x.cps.toList.drop lo)
  | 0, lo, free, found, hn, hf => by
    have e : x.cps.toList.drop lo = [] := List.drop_eq_nil_of_le (by rw [← len_tl]; omega)
    rw [e, pos_nil, List.append_nil]
    rfl
  | n + 1, lo, free, found, hn, hf => by
    rw [List.range'_succ, List.forIn_cons]
    have hsub : subAt x ⟨#[c]⟩ lo = ((x.cps.toList.drop lo).take 1 == [c]) := by rw [subAt_eq]; rfl
    by_cases hl : lo < x.length
    · have hl' : lo < x.cps.toList.length := by rw [← len_tl]; exact hl
      have ed : x.cps.toList.drop lo = x.cps.toList[lo] :: x.cps.toList.drop (lo + 1) := List.drop_eq_getElem_cons hl'
      by_cases hs : found.size < lim
      · obtain ⟨k, hk⟩ : ∃ k, lim - found.size = k + 1 := ⟨lim - found.size - 1, by omega⟩
        by_cases ha : x.cps.toList[lo] = c
        · unfold occBody
          rw [if_pos ⟨⟨⟨hs, hf⟩, by show lo + 1 ≤ _; omega⟩, by rw [hsub, ed]; simp [ha]⟩]
          have ih := occ_go x c lim n (lo + 1) (lo + 1) (found.push lo) (by omega) (Nat.le_refl _)
          rw [ed, hk]
          show (forIn (List.range' (lo + 1) n) (found.push lo, lo + 1) (occBody x ⟨#[c]⟩ x.length lim)).run.fst.toList = _
          rw [ih, Array.size_push, Array.toList_push, show lim - (found.size + 1) = k by omega]
          simp [pos, ha]
        · unfold occBody
          rw [if_neg (fun h => ha (by have := h.2; rw [hsub, ed] at this; simpa using this))]
          have ih := occ_go x c lim n (lo + 1) free found (by omega) (by omega)
          rw [ed, hk]
          show (forIn (List.range' (lo + 1) n) (found, free) (occBody x ⟨#[c]⟩ x.length lim)).run.fst.toList = _
          rw [ih, hk]
          have ha' : ¬ x.cps[lo] = c := ha
          simp [pos, ha']
      · unfold occBody
        rw [if_neg (fun h => hs h.1.1.1)]
        have ih := occ_go x c lim n (lo + 1) free found (by omega) (by omega)
        show (forIn (List.range' (lo + 1) n) (found, free) (occBody x ⟨#[c]⟩ x.length lim)).run.fst.toList = _
        rw [ih, show lim - found.size = 0 by omega, pos_0, pos_0]
    · unfold occBody
      rw [if_neg (fun h => by have := h.1.2; have e : (⟨#[c]⟩ : Str).length = 1 := rfl; omega)]
      have ih := occ_go x c lim n (lo + 1) free found (by omega) (by omega)
      show (forIn (List.range' (lo + 1) n) (found, free) (occBody x ⟨#[c]⟩ x.length lim)).run.fst.toList = _
      rw [ih, List.drop_eq_nil_of_le (by rw [← len_tl]; omega), List.drop_eq_nil_of_le (by rw [← len_tl]; omega), pos_nil, pos_nil]
theorem occ_pos (x : Str) (c lo lim : Nat) : occurrences x ⟨#[c]⟩ lo x.length lim = pos c lim lo (x.cps.toList.drop lo) := by
  rw [occ_eq, occ_go x c lim _ lo lo #[] rfl (Nat.le_refl _)]
  simp
theorem find_1 (l : List Nat) (c : Nat) : Txt.find (tx l) (tx [c]) = match fnd c l with | none => -1 | some j => (j : Int) := by
  show (match occurrences (tx l) ⟨#[c]⟩ 0 (tx l).length 1 with | i :: _ => (i : Int) | [] => -1) = _
  rw [occ_pos, pos_1]
  simp
  cases fnd c l <;> simp
theorem find3_1 (l : List Nat) (c k : Nat) : Txt.find3 (tx l) (tx [c]) (k : Int) = match fnd c (l.drop k) with | none => -1 | some j => ((k + j : Nat) : Int) := by
  show (match occurrences (tx l) ⟨#[c]⟩ (fromIndex (tx l).length k) (tx l).length 1 with | i :: _ => (i : Int) | [] => -1) = _
  have e : fromIndex (tx l).length k = k := by unfold fromIndex; omega
  rw [e, occ_pos, pos_1]
  simp only [tl_tx]
  cases fnd c (l.drop k) <;> rfl
theorem occ_1 (l : List Nat) (c : Nat) : occurrences (tx l) (tx [c]) 0 (tx l).length 1 = match fnd c l with | none => [] | some j => [j] := by
  have := occ_pos (tx l) c 0 1
  rw [pos_1] at this
  refine this.trans ?_
  simp
/-- split at a sign, at most k times -/
def spl (c : Nat) : Nat → List Nat → List Nat → List (List Nat)
  | _, acc, [] => [acc]
  | 0, acc, a :: r => [acc ++ a :: r]
  | k + 1, acc, a :: r => if a = c then acc :: spl c k [] r else spl c (k + 1) (acc ++ [a]) r
theorem spl_nil (c k : Nat) (acc : List Nat) : spl c k acc [] = [acc] := by cases k <;> rfl
theorem spl_0 (c : Nat) (acc l : List Nat) : spl c 0 acc l = [acc ++ l] := by cases l <;> simp [spl]
theorem parts_go (x : Str) (c : Nat) : ∀ (rest : List Nat) (lim i a : Nat), rest = x.cps.toList.drop i → a ≤ i → i ≤ x.length →
    partsFrom x 1 a (pos c lim i rest) = (spl c lim ((x.cps.toList.drop a).take (i - a)) rest).map tx
  | [], lim, i, a, hr, ha, hi => by
    rw [pos_nil, spl_nil]
    have h1 : x.cps.toList.length ≤ i := by
      have := congrArg List.length hr
      rw [List.length_drop] at this
      simp only [List.length_nil] at this
      omega
    show [strSub x a x.length] = [tx _]
    rw [tx_eq (strSub_toList x a x.length)]
    congr 2
    rw [List.take_of_length_le (by rw [List.length_drop, len_tl] <;> omega), List.take_of_length_le (by rw [List.length_drop] <;> omega)]
  | b :: r, 0, i, a, hr, ha, hi => by
    rw [pos_0, spl_0, hr]
    show [strSub x a x.length] = [tx _]
    rw [tx_eq (strSub_toList x a x.length)]
    congr 2
    rw [List.take_of_length_le (by rw [List.length_drop, len_tl] <;> omega)]
    have e : x.cps.toList.drop i = (x.cps.toList.drop a).drop (i - a) := by rw [List.drop_drop]; congr 1; omega
    rw [e, List.take_append_drop]
  | b :: r, k + 1, i, a, hr, ha, hi => by
    have hil : i < x.cps.toList.length := by
      have := congrArg List.length hr
      rw [List.length_drop] at this
      simp only [List.length_cons] at this
      omega
    have ed := List.drop_eq_getElem_cons hil
    rw [← hr] at ed
    injection ed with e1 e2
    have hi' : i + 1 ≤ x.length := by rw [len_tl]; omega
    by_cases h : b = c
    · simp only [pos, spl, h, if_true]
      show strSub x a i :: partsFrom x 1 (i + 1) (pos c k (i + 1) r) = _
      rw [parts_go x c r k (i + 1) (i + 1) e2 (Nat.le_refl _) hi', tx_eq (strSub_toList x a i)]
      simp
    · simp only [pos, spl, h, if_false]
      rw [parts_go x c r (k + 1) (i + 1) a e2 (by omega) hi']
      congr 2
      rw [show i + 1 - a = (i - a) + 1 by omega, List.take_succ]
      congr 1
      rw [List.getElem?_drop, show a + (i - a) = i by omega, List.getElem?_eq_getElem hil, e1]
      rfl
theorem parts_1 (l : List Nat) (c lim : Nat) : partsBetween (tx l) (occurrences (tx l) (tx [c]) 0 (tx l).length lim) 1 = (spl c lim [] l).map tx := by
  have h := parts_go (tx l) c l lim 0 0 rfl (Nat.le_refl _) (Nat.zero_le _)
  rw [partsBetween_eq, show occurrences (tx l) (tx [c]) 0 (tx l).length lim = pos c lim 0 l from occ_pos (tx l) c 0 lim]
  exact h
theorem kind_1 (x : Str) {c : Nat} (hc : c < 256) : ¬ Str.strKind x < Str.strKind (tx [c]) := by
  have e : Str.strKind (tx [c]) = 1 := by
    unfold Str.strKind
    rw [if_pos (by simp [hc])]
  rw [e]
  unfold Str.strKind
  split
  · omega
  · split <;> omega
theorem splitMax_1 (l : List Nat) {c : Nat} (hc : c < 256) (k : Nat) : Txt.splitMax (tx l) (tx [c]) (k : Int) = (spl c k [] l).map tx := by
  have hp := parts_1 l c k
  have e : limitOf (tx l) (k : Int) = k := by
    unfold limitOf
    rw [if_neg (by omega)]
    exact Int.toNat_natCast k
  unfold Txt.splitMax
  rw [e]
  split
  · rename_i h
    rw [Bool.or_eq_true, decide_eq_true_eq, decide_eq_true_eq] at h
    rcases h with h | h
    · have : l = [] := List.length_eq_zero_iff.mp (by simp [Str.length] at h; simpa using h)
      subst this
      rw [spl_nil]
      rfl
    · exact absurd h (kind_1 _ hc)
  · split
    · rename_i h
      have h' : occurrences (tx l) (tx [c]) 0 (tx l).length k = [] := by simpa using h
      rw [h'] at hp
      rw [← hp, partsBetween_eq]
      show _ = [strSub (tx l) 0 (tx l).length]
      congr 1
      rw [tx_eq (strSub_toList _ _ _)]
      simp
    · exact hp
theorem split_1 (l : List Nat) {c : Nat} (hc : c < 256) : Txt.split (tx l) (tx [c]) = (spl c (l.length + 1) [] l).map tx := by
  have hp := parts_1 l c (l.length + 1)
  unfold Txt.split
  rw [show (tx l).length + 1 = l.length + 1 by rw [tx_len]]
  split
  · rename_i h
    rw [Bool.or_eq_true, decide_eq_true_eq, decide_eq_true_eq] at h
    rcases h with h | h
    · have : l = [] := List.length_eq_zero_iff.mp (by simp [Str.length] at h; simpa using h)
      subst this
      rw [spl_nil]
      rfl
    · exact absurd h (kind_1 _ hc)
  · split
    · rename_i h
      have h' : occurrences (tx l) (tx [c]) 0 (tx l).length (l.length + 1) = [] := by simpa using h
      rw [h'] at hp
      rw [← hp, partsBetween_eq]
      show _ = [strSub (tx l) 0 (tx l).length]
      congr 1
      rw [tx_eq (strSub_toList _ _ _)]
      simp
    · exact hp
theorem spl_app {c : Nat} : ∀ {p : List Nat} (k : Nat) (acc q : List Nat), c ∉ p → spl c (k + 1) acc (p ++ c :: q) = (acc ++ p) :: spl c k [] q
  | [], k, acc, q, _ => by simp [spl]
  | a :: p, k, acc, q, h => by
    have h1 : a ≠ c := fun e => h (by simp [e])
    have h2 : c ∉ p := fun e => h (by simp [e])
    show (if a = c then acc :: spl c k [] (p ++ c :: q) else spl c (k + 1) (acc ++ [a]) (p ++ c :: q)) = _
    rw [if_neg h1, spl_app k (acc ++ [a]) q h2]
    simp
theorem spl_free {c : Nat} : ∀ {p : List Nat} (k : Nat) (acc : List Nat), c ∉ p → spl c k acc p = [acc ++ p]
  | p, 0, acc, _ => spl_0 c acc p
  | [], k + 1, acc, _ => by simp [spl]
  | a :: p, k + 1, acc, h => by
    have h1 : a ≠ c := fun e => h (by simp [e])
    have h2 : c ∉ p := fun e => h (by simp [e])
    show (if a = c then acc :: spl c k [] p else spl c (k + 1) (acc ++ [a]) p) = _
    rw [if_neg h1, spl_free (k + 1) (acc ++ [a]) h2]
    simp
/-- joined again -/
def jn (c : Nat) : List (List Nat) → List Nat
  | [] => []
  | [x] => x
  | x :: y :: r => x ++ c :: jn c (y :: r)
theorem spl_ne (c : Nat) : ∀ (l : List Nat) (k : Nat) (acc : List Nat), ∃ x r, spl c k acc l = x :: r
  | [], k, acc => ⟨acc, [], spl_nil c k acc⟩
  | a :: l, 0, acc => ⟨_, [], rfl⟩
  | a :: l, k + 1, acc => by
    unfold spl
    split
    · exact ⟨_, _, rfl⟩
    · exact spl_ne c l (k + 1) _
theorem jn_spl (c : Nat) : ∀ (l : List Nat) (k : Nat) (acc : List Nat), jn c (spl c k acc l) = acc ++ l
  | [], k, acc => by rw [spl_nil]; simp [jn]
  | a :: l, 0, acc => by simp [spl, jn]
  | a :: l, k + 1, acc => by
    unfold spl
    split
    · rename_i h
      obtain ⟨x, r, e⟩ := spl_ne c l k []
      have ih := jn_spl c l k []
      rw [e] at ih ⊢
      show acc ++ c :: jn c (x :: r) = _
      rw [ih, h]
      simp
    · rw [jn_spl c l (k + 1)]
      simp
theorem spl_len (c : Nat) : ∀ (l : List Nat) (k : Nat) (acc : List Nat), (spl c k acc l).length ≤ k + 1
  | [], k, acc => by rw [spl_nil]; simp
  | a :: l, 0, acc => by simp [spl]
  | a :: l, k + 1, acc => by
    unfold spl
    split
    · have := spl_len c l k []
      simp
      omega
    · exact spl_len c l (k + 1) _
theorem join_1 (c : Nat) (ys : List (List Nat)) : Txt.join (tx [c]) (ys.map tx) = tx (jn c ys) := by
  rw [show Txt.join (tx [c]) (ys.map tx) = SX.S (TL.joinL [c] ys) from SX.join_S [c] ys]
  congr 2
  induction ys with
  | nil => rfl
  | cons x r ih =>
    cases r with
    | nil => rfl
    | cons y r =>
      show x ++ ([c] ++ TL.joinL [c] (y :: r)) = x ++ c :: jn c (y :: r)
      rw [ih]
      simp
theorem join_0 (ys : List (List Nat)) : Txt.join (tx []) (ys.map tx) = tx ys.flatten := by
  rw [show Txt.join (tx []) (ys.map tx) = SX.S (TL.joinL [] ys) from SX.join_S [] ys]
  congr 2
  induction ys with
  | nil => rfl
  | cons x r ih =>
    cases r with
    | nil => simp [TL.joinL]
    | cons y r =>
      show x ++ ([] ++ TL.joinL [] (y :: r)) = _
      rw [ih]
      simp
/-! ### slices -/
theorem cut_tx (l : List Nat) (lo hi : Option Int) : cutS (tx l) lo hi = tx (cutL l lo hi) := by
  unfold cutS cutL
  simp [Str.length]
theorem cut_mid {α : Type} (l : List α) (i j : Nat) (hj : j ≤ l.length) : cutL l (some (i : Int)) (some (j : Int)) = (l.drop i).take (j - i) := by
  unfold cutL
  rw [HT.sIx_nat, HT.sIx_nat]
  by_cases h : i ≤ l.length
  · rw [Nat.min_eq_left h, Nat.min_eq_left hj]
  · rw [Nat.min_eq_right (by omega : l.length ≤ i), Nat.min_eq_left hj, show j - l.length = 0 by omega, show j - i = 0 by omega]
    simp
end Ev
end

section
set_option Elab.async false
set_option linter.all false
set_option maxRecDepth 100000
set_option maxHeartbeats 4000000
namespace HT
open PySem PySem.Spec L2 Ev
/-! ### the defs -/
def f_is_tuple : Df := ⟨2, 2, (.cons (.ret (.and (.cons (.isi (.var 0) .tuple) (.cons (.cmp .Eq (.bi .len (.cons (.var 0) .nil)) (.var 1)) .nil)))) .nil), false⟩
def f_is_name : Df := ⟨1, 2, (.cons (.ife (.or (.cons (.not (.isi (.var 0) .str)) (.cons (.not (.chn .LtE .LtE (.cst (.int 1)) (.bi .len (.cons (.var 0) .nil)) (.glb 2))) (.cons (.cmp .In (.var 0) (.glb 1)) .nil)))) (.cons (.ret (.cst (.bool false))) .nil) .nil) (.cons (.ret (.bi .all (.cons (.lc false (.cmp .In (.var 1) (.glb 0)) [("sign", 1)] (.nm 1) (.seq (.var 0)) .none) .nil))) .nil)), false⟩
def f_is_typed : Df := ⟨1, 2, (.cons (.ret (.and (.cons (.isi (.var 0) .str) (.cons (.cmp .LtE (.bi .len (.cons (.var 0) .nil)) (.glb 3)) (.cons (.bi .all (.cons (.lc false (.chn .LtE .LtE (.cst (.str " ")) (.var 1) (.cst (.str "~"))) [("sign", 1)] (.nm 1) (.seq (.var 0)) .none) .nil)) .nil))))) .nil), false⟩
def f_is_entry_any : Df := ⟨1, 1, (.cons (.ife (.or (.cons (.not (.isi (.var 0) .tuple)) (.cons (.cmp .Eq (.var 0) (.tup .nil)) (.cons (.not (.isi (.idx (.var 0) (.cst (.int 0))) .str)) .nil)))) (.cons (.ret (.cst (.bool false))) .nil) .nil) (.cons (.ife (.cmp .Eq (.idx (.var 0) (.cst (.int 0))) (.glb 6)) (.cons (.ret (.and (.cons (.call 0 (.cons (.var 0) (.cons (.cst (.int 2)) .nil))) (.cons (.call 1 (.cons (.idx (.var 0) (.cst (.int 1))) .nil)) .nil)))) .nil) .nil) (.cons (.ife (.or (.cons (.not (.call 0 (.cons (.var 0) (.cons (.cst (.int 3)) .nil)))) (.cons (.not (.call 1 (.cons (.idx (.var 0) (.cst (.int 1))) .nil))) .nil))) (.cons (.ret (.cst (.bool false))) .nil) .nil) (.cons (.ret (.ife (.cmp .Eq (.idx (.var 0) (.cst (.int 0))) (.glb 4)) (.call 1 (.cons (.idx (.var 0) (.cst (.int 2))) .nil)) (.and (.cons (.cmp .Eq (.idx (.var 0) (.cst (.int 0))) (.glb 5)) (.cons (.call 2 (.cons (.idx (.var 0) (.cst (.int 2))) .nil)) .nil))))) .nil)))), false⟩
def f_sum_told : Df := ⟨1, 4, (.cons (.asg (.nm 1) (.cst (.int 0))) (.cons (.for_ (.tup [2, 3]) (.enum (.var 0)) (.cons (.asg (.nm 1) (.bin .Mod (.bin .Add (.var 1) (.bin .Mult (.bin .Add (.var 2) (.cst (.int 1))) (.bi .ord (.cons (.var 3) .nil)))) (.glb 7))) .nil)) (.cons (.ret (.var 1)) .nil))), false⟩
def f_summed : Df := ⟨1, 1, (.cons (.ret (.fst (.cons (.call 4 (.cons (.var 0) .nil)) (.cons (.cst (.str " ")) (.cons (.var 0) (.cons (.cst (.str "\n")) .nil)))))) .nil), false⟩
def f_row_told : Df := ⟨1, 1, (.cons (.ret (.call 5 (.cons (.sme .join (.cst (.str " ")) (.cons (.var 0) .nil)) .nil))) .nil), false⟩
def f_body_told : Df := ⟨1, 2, (.cons (.asg (.nm 1) (.sme .find (.var 0) (.cons (.cst (.str " ")) .nil))) (.cons (.ife (.or (.cons (.cmp .Lt (.var 1) (.cst (.int 0))) (.cons (.cmp .NotEq (.call 5 (.cons (.sli (.var 0) (.some (.bin .Add (.var 1) (.cst (.int 1)))) .none) .nil)) (.bin .Add (.var 0) (.cst (.str "\n")))) .nil))) (.cons (.ret (.cst .none)) .nil) .nil) (.cons (.ret (.sli (.var 0) (.some (.bin .Add (.var 1) (.cst (.int 1)))) .none)) .nil))), false⟩
def f_entry_told : Df := ⟨1, 2, (.cons (.asg (.nm 1) (.bi .tuple (.cons (.sme .splitN (.var 0) (.cons (.cst (.str " ")) (.cons (.cst (.int 2)) .nil))) .nil))) (.cons (.ret (.ife (.call 3 (.cons (.var 1) .nil)) (.var 1) (.cst .none))) .nil)), false⟩
def f_rows_told : Df := ⟨1, 6, (.cons (.par [1, 2, 3] (.cons (.lst true .nil) (.cons (.cst (.int 0)) (.cons (.sme .find (.var 0) (.cons (.cst (.str "\n")) .nil)) .nil)))) (.cons (.whl 1000 (.cmp .GtE (.var 3) (.cst (.int 0))) (.cons (.asg (.nm 4) (.call 7 (.cons (.sli (.var 0) (.some (.var 2)) (.some (.var 3))) .nil))) (.cons (.asg (.nm 5) (.ife (.cmp .Is (.var 4) (.cst .none)) (.cst .none) (.call 8 (.cons (.var 4) .nil)))) (.cons (.ife (.cmp .Is (.var 5) (.cst .none)) (.cons (.ret (.tup (.cons (.var 1) (.cons (.var 2) .nil)))) .nil) .nil) (.cons (.expr (.meth .append (.var 1) (.cons (.var 5) .nil))) (.cons (.asg (.nm 2) (.bin .Add (.var 3) (.cst (.int 1)))) (.cons (.asg (.nm 3) (.sme .findN (.var 0) (.cons (.cst (.str "\n")) (.cons (.var 2) .nil)))) .nil))))))) (.cons (.ret (.tup (.cons (.var 1) (.cons (.var 2) .nil)))) .nil))), true⟩
def f_want_entry : Df := ⟨1, 1, (.cons (.ife (.not (.call 3 (.cons (.var 0) .nil))) (.cons .never .nil) .nil) .nil), false⟩
def f_want_string : Df := ⟨1, 1, (.cons (.ife (.not (.isi (.var 0) .str)) (.cons .never .nil) .nil) .nil), false⟩
def f_sum_of : Df := ⟨1, 1, (.cons (.expr (.call 11 (.cons (.var 0) .nil))) (.cons (.ret (.call 4 (.cons (.var 0) .nil))) .nil)), false⟩
def f_row_of : Df := ⟨1, 1, (.cons (.expr (.call 10 (.cons (.var 0) .nil))) (.cons (.ret (.call 6 (.cons (.var 0) .nil))) .nil)), false⟩
def f_rows_in : Df := ⟨1, 1, (.cons (.expr (.call 11 (.cons (.var 0) .nil))) (.cons (.ret (.call 9 (.cons (.var 0) .nil))) .nil)), true⟩
def f_law_pot : Df := ⟨2, 4, (.cons (.asg (.nm 2) (.ife (.cmp .Lt (.var 1) (.bi .len (.cons (.var 0) .nil))) (.bi .abs (.cons (.idx (.var 0) (.var 1)) .nil)) (.bin .Add (.bin .Add (.bin .Mult (.cst (.int 5009)) (.var 1)) (.cst (.int 839))) (.bi .int (.cons (.bin .Mod (.bi .sum (.cons (.lc false (.bi .abs (.cons (.var 3) .nil)) [("one", 3)] (.nm 3) (.seq (.var 0)) .none) .nil)) (.cst (.int 1000003))) .nil))))) (.cons (.ret (.lst true (.cons (.bi .max2 (.cons (.cst (.int 0)) (.cons (.bin .Sub (.var 2) (.bin .Pow (.cst (.int 10)) (.cst (.int 18)))) .nil))) (.cons (.bin .Add (.bin .Mod (.bi .int (.cons (.bin .Add (.bin .Add (.bin .Mult (.bin .Mod (.bi .int (.cons (.var 2) .nil)) (.cst (.int 2147483549))) (.cst (.int 41863))) (.bin .Mult (.cst (.int 10463)) (.var 1))) (.cst (.int 103))) .nil)) (.cst (.int 2147483563))) (.cst (.int 1))) .nil)))) .nil)), true⟩
def f_law_draw : Df := ⟨2, 3, (.cons (.ife (.cmp .Gt (.idx (.var 0) (.cst (.int 0))) (.cst (.int 0))) (.cons (.unp [.sub (.var 0) (.cst (.int 0)), .nm 2] (.bi .divmod (.cons (.idx (.var 0) (.cst (.int 0))) (.cons (.var 1) .nil)))) (.cons (.ret (.var 2)) .nil)) .nil) (.cons (.seti (.var 0) (.cst (.int 1)) (.bin .Mod (.bi .int (.cons (.bin .Add (.bin .Mult (.idx (.var 0) (.cst (.int 1))) (.cst (.int 39373))) (.cst (.int 10477))) .nil)) (.cst (.int 2147483587)))) (.cons (.ret (.bin .Mod (.bi .int (.cons (.bin .FloorDiv (.bin .Mod (.bi .int (.cons (.bin .Mult (.idx (.var 0) (.cst (.int 1))) (.idx (.var 0) (.cst (.int 1)))) .nil)) (.cst (.int 2147483549))) (.cst (.int 19))) .nil)) (.var 1))) .nil))), false⟩
def f_law_pick : Df := ⟨2, 2, (.cons (.ret (.idx (.var 1) (.call 16 (.cons (.var 0) (.cons (.bi .len (.cons (.var 1) .nil)) .nil))))) .nil), false⟩
def f_law_sum : Df := ⟨1, 3, (.cons (.ret (.bin .Mod (.bi .int (.cons (.bi .sum (.cons (.lc false (.bin .Mult (.bin .Add (.var 1) (.cst (.int 1))) (.bi .ord (.cons (.var 2) .nil))) [("at", 1), ("sign", 2)] (.tup [1, 2]) (.enum (.var 0)) .none) .nil)) .nil)) (.cst (.int 65521)))) .nil), false⟩
def f_law_row : Df := ⟨1, 2, (.cons (.asg (.nm 1) (.sme .join (.cst (.str " ")) (.cons (.var 0) .nil))) (.cons (.ret (.bin .Add (.bin .Add (.bin .Add (.bi .strI (.cons (.call 18 (.cons (.var 1) .nil)) .nil)) (.cst (.str " "))) (.var 1)) (.cst (.str "\n")))) .nil)), false⟩
def f_law_is_small_name : Df := ⟨1, 3, (.cons (.asg (.nm 1) (.cst (.str "north south east west up down n s e w u d go walk take get drop put open shut close wait z look l list inventory i undo save"))) (.cons (.asg (.nm 1) (.bin .Add (.var 1) (.cst (.str " restore again held nowhere here in into with to on at all it and the a an not or true inside gone opened when do say set")))) (.cons (.asg (.nm 1) (.sme .split (.bin .Add (.var 1) (.cst (.str " clear move by off"))) (.cons (.cst (.str " ")) .nil))) (.cons (.ife (.or (.cons (.not (.isi (.var 0) .str)) (.cons (.not (.chn .LtE .LtE (.cst (.int 1)) (.bi .len (.cons (.var 0) .nil)) (.cst (.int 12)))) (.cons (.cmp .In (.var 0) (.var 1)) .nil)))) (.cons (.ret (.cst (.bool false))) .nil) .nil) (.cons (.ret (.bi .all (.cons (.lc false (.chn .LtE .LtE (.cst (.str "a")) (.var 2) (.cst (.str "z"))) [("sign", 2)] (.nm 2) (.seq (.var 0)) .none) .nil))) .nil))))), false⟩
def f_law_is_entry : Df := ⟨1, 2, (.cons (.ife (.or (.cons (.not (.isi (.var 0) .tuple)) (.cons (.cmp .NotIn (.bi .len (.cons (.var 0) .nil)) (.tup (.cons (.cst (.int 2)) (.cons (.cst (.int 3)) .nil)))) (.cons (.not (.isi (.idx (.var 0) (.cst (.int 0))) .str)) (.cons (.not (.call 20 (.cons (.idx (.var 0) (.cst (.int 1))) .nil))) .nil))))) (.cons (.ret (.cst (.bool false))) .nil) .nil) (.cons (.ife (.cmp .Eq (.idx (.var 0) (.cst (.int 0))) (.cst (.str "drop"))) (.cons (.ret (.cmp .Eq (.bi .len (.cons (.var 0) .nil)) (.cst (.int 2)))) .nil) .nil) (.cons (.ife (.or (.cons (.cmp .NotEq (.bi .len (.cons (.var 0) .nil)) (.cst (.int 3))) (.cons (.cmp .NotIn (.idx (.var 0) (.cst (.int 0))) (.tup (.cons (.cst (.str "begin")) (.cons (.cst (.str "line")) .nil)))) .nil))) (.cons (.ret (.cst (.bool false))) .nil) .nil) (.cons (.ife (.cmp .Eq (.idx (.var 0) (.cst (.int 0))) (.cst (.str "begin"))) (.cons (.ret (.call 20 (.cons (.idx (.var 0) (.cst (.int 2))) .nil))) .nil) .nil) (.cons (.ret (.and (.cons (.isi (.idx (.var 0) (.cst (.int 2))) .str) (.cons (.cmp .LtE (.bi .len (.cons (.idx (.var 0) (.cst (.int 2))) .nil)) (.cst (.int 60))) (.cons (.bi .all (.cons (.lc false (.chn .LtE .LtE (.cst (.str " ")) (.var 1) (.cst (.str "~"))) [("sign", 1)] (.nm 1) (.seq (.idx (.var 0) (.cst (.int 2)))) .none) .nil)) .nil))))) .nil))))), false⟩
def f_law_read : Df := ⟨1, 6, (.cons (.par [1, 2] (.cons (.lst true .nil) (.cons (.cst (.int 0)) .nil))) (.cons (.for_ (.nm 3) (.seq (.sli (.sme .split (.var 0) (.cons (.cst (.str "\n")) .nil)) .none (.some (.cst (.int (-1)))))) (.cons (.asg (.nm 4) (.sme .splitN (.var 3) (.cons (.cst (.str " ")) (.cons (.cst (.int 3)) .nil)))) (.cons (.asg (.nm 5) (.bi .tuple (.cons (.sli (.var 4) (.some (.cst (.int 1))) .none) .nil))) (.cons (.ife (.or (.cons (.not (.call 21 (.cons (.var 5) .nil))) (.cons (.cmp .NotEq (.call 19 (.cons (.var 5) .nil)) (.bin .Add (.var 3) (.cst (.str "\n")))) .nil))) (.cons (.ret (.tup (.cons (.var 1) (.cons (.var 2) .nil)))) .nil) .nil) (.cons (.expr (.meth .append (.var 1) (.cons (.var 5) .nil))) (.cons (.asg (.nm 2) (.bin .Add (.bin .Add (.var 2) (.bi .len (.cons (.var 3) .nil))) (.cst (.int 1)))) .nil)))))) (.cons (.ret (.tup (.cons (.var 1) (.cons (.var 2) .nil)))) .nil))), false⟩
def f_law_typed : Df := ⟨1, 1, (.cons (.ret (.call 17 (.cons (.var 0) (.cons (.lst false (.cons (.cst (.str "")) (.cons (.cst (.str "n")) (.cons (.cst (.str "take key")) (.cons (.cst (.str "  x ")) (.cons (.cst (.str "2984 line b x")) (.cons (.cst (.str "~~~")) (.cons (.bin .Mult (.cst (.str "z")) (.cst (.int 60))) (.cons (.cst (.str "head 9 1")) (.cons (.bin .Mult (.cst (.str "a")) (.cst (.int 33))) (.cons (.cst (.str "!")) .nil))))))))))) .nil)))) .nil), false⟩
def f_law_entry : Df := ⟨1, 2, (.cons (.asg (.nm 1) (.call 17 (.cons (.var 0) (.cons (.lst false (.cons (.cst (.str "ann")) (.cons (.cst (.str "b")) (.cons (.cst (.str "cleo")) (.cons (.cst (.str "twelveletter")) .nil))))) .nil)))) (.cons (.ret (.call 17 (.cons (.var 0) (.cons (.lst false (.cons (.tup (.cons (.cst (.str "begin")) (.cons (.var 1) (.cons (.cst (.str "cave")) .nil)))) (.cons (.tup (.cons (.cst (.str "drop")) (.cons (.var 1) .nil))) (.cons (.tup (.cons (.cst (.str "line")) (.cons (.var 1) (.cons (.call 23 (.cons (.var 0) .nil)) .nil)))) (.cons (.tup (.cons (.cst (.str "line")) (.cons (.var 1) (.cons (.call 23 (.cons (.var 0) .nil)) .nil)))) .nil))))) .nil)))) .nil)), false⟩
def f_law_read_right : Df := ⟨1, 4, (.cons (.asg (.nm 1) (.call 22 (.cons (.var 0) .nil))) (.cons (.for_ (.nm 2) (.rng1 (.cst (.int 2))) (.cons (.asg (.nm 3) (.call 14 (.cons (.var 0) .nil))) (.cons (.ife (.cmp .NotEq (.bi .repr (.cons (.var 3) .nil)) (.bi .repr (.cons (.var 1) .nil))) (.cons (.ret (.cst (.bool false))) .nil) .nil) (.cons (.expr (.meth .append (.idx (.var 3) (.cst (.int 0))) (.cons (.cst .none) .nil))) .nil)))) (.cons (.ret (.cmp .Eq (.bi .repr (.cons (.kall 14 [0] .nil (.cons (.var 0) .nil)) .nil)) (.bi .repr (.cons (.var 1) .nil)))) .nil))), false⟩
def f_law_right : Df := ⟨1, 13, (.cons (.asg (.nm 1) (.lc false (.call 24 (.cons (.var 0) .nil)) [("turn", 2)] (.nm 2) (.rng1 (.bin .Add (.cst (.int 1)) (.call 16 (.cons (.var 0) (.cons (.cst (.int 5)) .nil))))) .none)) (.cons (.asg (.nm 3) (.lc false (.call 19 (.cons (.var 4) .nil)) [("entry", 4)] (.nm 4) (.seq (.var 1)) .none)) (.cons (.for_ (.tup [4, 5]) (.zip (.var 1) (.var 3)) (.cons (.ife (.or (.cons (.cmp .NotEq (.bi .repr (.cons (.lst false (.cons (.call 13 (.cons (.var 4) .nil)) (.cons (.kall 13 [0] .nil (.cons (.var 4) .nil)) .nil))) .nil)) (.bi .repr (.cons (.lst false (.cons (.var 5) (.cons (.var 5) .nil))) .nil))) (.cons (.cmp .NotEq (.call 12 (.cons (.sme .join (.cst (.str " ")) (.cons (.var 4) .nil)) .nil)) (.call 18 (.cons (.sme .join (.cst (.str " ")) (.cons (.var 4) .nil)) .nil))) .nil))) (.cons (.ret (.cst (.bool false))) .nil) .nil) .nil)) (.cons (.asg (.nm 6) (.sme .join (.cst (.str "")) (.cons (.var 3) .nil))) (.cons (.ife (.or (.cons (.cmp .NotEq (.call 14 (.cons (.var 6) .nil)) (.tup (.cons (.var 1) (.cons (.bi .len (.cons (.var 6) .nil)) .nil)))) (.cons (.not (.call 25 (.cons (.bin .Add (.var 6) (.call 17 (.cons (.var 0) (.cons (.lst false (.cons (.cst (.str "")) (.cons (.bin .Mult (.cst (.str "~")) (.cst (.int 9))) (.cons (.cst (.str "x")) (.cons (.cst (.str "\n")) (.cons (.cst (.str "12")) (.cons (.cst (.str " \n")) (.cons (.sli (.idx (.var 3) (.cst (.int 0))) (.some (.cst (.int 1))) .none) .nil)))))))) .nil)))) .nil))) .nil))) (.cons (.ret (.cst (.bool false))) .nil) .nil) (.cons (.for_ (.nm 2) (.rng1 (.cst (.int 5))) (.cons (.ife (.not (.call 25 (.cons (.sli (.var 6) .none (.some (.call 16 (.cons (.var 0) (.cons (.bi .len (.cons (.var 6) .nil)) .nil))))) .nil))) (.cons (.ret (.cst (.bool false))) .nil) .nil) .nil)) (.cons (.asg (.nm 7) (.call 16 (.cons (.var 0) (.cons (.bi .len (.cons (.var 3) .nil)) .nil)))) (.cons (.par [8, 5] (.cons (.sme .join (.cst (.str "")) (.cons (.sli (.var 3) .none (.some (.var 7))) .nil)) (.cons (.idx (.var 3) (.var 7)) .nil))) (.cons (.for_ (.nm 2) (.rng1 (.cst (.int 8))) (.cons (.par [9, 10] (.cons (.call 16 (.cons (.var 0) (.cons (.bin .Sub (.bi .len (.cons (.var 5) .nil)) (.cst (.int 1))) .nil))) (.cons (.call 17 (.cons (.var 0) (.cons (.bi .list (.cons (.cst (.str "0123456789 abz~ABline")) .nil)) .nil))) .nil))) (.cons (.ife (.and (.cons (.cmp .NotEq (.idx (.var 5) (.var 9)) (.var 10)) (.cons (.cmp .NotEq (.call 14 (.cons (.bin .Add (.bin .Add (.bin .Add (.bin .Add (.var 8) (.sli (.var 5) .none (.some (.var 9)))) (.var 10)) (.sli (.var 5) (.some (.bin .Add (.var 9) (.cst (.int 1)))) .none)) (.sme .join (.cst (.str "")) (.cons (.sli (.var 3) (.some (.bin .Add (.var 7) (.cst (.int 1)))) .none) .nil))) .nil)) (.tup (.cons (.sli (.var 1) .none (.some (.var 7))) (.cons (.bi .len (.cons (.var 8) .nil)) .nil)))) .nil))) (.cons (.ret (.cst (.bool false))) .nil) .nil) (.cons (.asg (.nm 11) (.bin .Add (.sme .index (.var 5) (.cons (.cst (.str " ")) .nil)) (.cst (.int 1)))) (.cons (.asg (.nm 9) (.bin .Add (.var 11) (.call 16 (.cons (.var 0) (.cons (.bin .Sub (.bin .Sub (.bi .len (.cons (.var 5) .nil)) (.cst (.int 2))) (.var 11)) .nil))))) (.cons (.asg (.nm 12) (.bin .Add (.bin .Add (.bin .Add (.sli (.var 5) .none (.some (.var 9))) (.idx (.var 5) (.bin .Add (.var 9) (.cst (.int 1))))) (.idx (.var 5) (.var 9))) (.sli (.var 5) (.some (.bin .Add (.var 9) (.cst (.int 2)))) .none))) (.cons (.ife (.and (.cons (.cmp .NotEq (.idx (.var 5) (.var 9)) (.idx (.var 5) (.bin .Add (.var 9) (.cst (.int 1))))) (.cons (.cmp .NotEq (.call 14 (.cons (.bin .Add (.var 8) (.var 12)) .nil)) (.tup (.cons (.sli (.var 1) .none (.some (.var 7))) (.cons (.bi .len (.cons (.var 8) .nil)) .nil)))) .nil))) (.cons (.ret (.cst (.bool false))) .nil) .nil) .nil))))))) (.cons (.ret (.cmp .Eq (.call 14 (.cons (.bin .Add (.var 8) (.sli (.var 5) .none (.some (.cst (.int (-1)))))) .nil)) (.tup (.cons (.sli (.var 1) .none (.some (.var 7))) (.cons (.bi .len (.cons (.var 8) .nil)) .nil))))) .nil)))))))))), false⟩
def f_law_sums_right : Df := ⟨1, 4, (.cons (.asg (.nm 1) (.lst false (.cons (.cst (.str "")) (.cons (.cst (.str "a")) (.cons (.cst (.str " ")) (.cons (.bin .Mult (.cst (.str "~")) (.cst (.int 400))) (.cons (.cst (.str "line b x")) (.cons (.sme .join (.cst (.str "")) (.cons (.lc false (.call 17 (.cons (.var 0) (.cons (.bi .list (.cons (.cst (.str "ab ~\n0")) .nil)) .nil))) [("turn", 2)] (.nm 2) (.rng1 (.cst (.int 30))) .none) .nil)) .nil)))))))) (.cons (.ret (.cmp .Eq (.bi .repr (.cons (.bin .Add (.lc false (.call 12 (.cons (.var 3) .nil)) [("text", 3)] (.nm 3) (.seq (.var 1)) .none) (.lst false (.cons (.kall 12 [0] .nil (.cons (.idx (.var 1) (.cst (.int (-1)))) .nil)) .nil))) .nil)) (.bi .repr (.cons (.bin .Add (.lc false (.call 18 (.cons (.var 3) .nil)) [("text", 3)] (.nm 3) (.seq (.var 1)) .none) (.lst false (.cons (.call 18 (.cons (.idx (.var 1) (.cst (.int (-1)))) .nil)) .nil))) .nil)))) .nil)), false⟩
def f_law_odd_right : Df := ⟨1, 6, (.cons (.asg (.nm 1) (.lst false (.cons (.cst (.str "line b x")) (.cons (.cst (.str "line b")) (.cons (.cst (.str "line  b x")) (.cons (.cst (.str "begin b cave")) (.cons (.cst (.str "begin b cave x")) (.cons (.cst (.str "begin b")) (.cons (.cst (.str "drop b")) (.cons (.cst (.str "drop b x")) (.cons (.cst (.str "drop a")) (.cons (.cst (.str "head 1 0")) (.cons (.cst (.str "line north x")) (.cons (.cst (.str "Line b x")) (.cons (.cst (.str " drop b")) (.cons (.cst (.str "drop b ")) (.cons (.cst (.str "")) .nil))))))))))))))))) (.cons (.asg (.nm 2) (.call 17 (.cons (.var 0) (.cons (.var 1) .nil)))) (.cons (.asg (.nm 3) (.bi .strI (.cons (.call 18 (.cons (.var 2) .nil)) .nil))) (.cons (.asg (.nm 4) (.lst false (.cons (.bin .Add (.bin .Add (.var 3) (.cst (.str " "))) (.var 2)) (.cons (.bin .Add (.bin .Add (.bin .Add (.cst (.str "0")) (.var 3)) (.cst (.str " "))) (.var 2)) (.cons (.bin .Add (.bin .Add (.bin .Add (.cst (.str " ")) (.var 3)) (.cst (.str " "))) (.var 2)) (.cons (.bin .Add (.bin .Add (.var 3) (.cst (.str "  "))) (.var 2)) (.cons (.bin .Add (.bin .Add (.bin .Add (.cst (.str "+")) (.var 3)) (.cst (.str " "))) (.var 2)) (.cons (.bin .Add (.var 3) (.var 2)) (.cons (.bin .Add (.bin .Add (.bin .Add (.var 3) (.cst (.str " "))) (.var 2)) (.cst (.str " "))) .nil))))))))) (.cons (.ret (.bi .all (.cons (.lc false (.call 25 (.cons (.bin .Add (.bin .Add (.var 5) (.cst (.str "\n"))) (.call 19 (.cons (.tup (.cons (.cst (.str "drop")) (.cons (.cst (.str "b")) .nil))) .nil))) .nil)) [("row", 5)] (.nm 5) (.seq (.var 4)) .none) .nil))) .nil))))), false⟩
def f_law : Df := ⟨1, 3, (.cons (.for_ (.nm 1) (.rng1 (.bi .max2 (.cons (.cst (.int 1)) (.cons (.bi .min2 (.cons (.cst (.int 2)) (.cons (.bi .len (.cons (.var 0) .nil)) .nil))) .nil)))) (.cons (.asg (.nm 2) (.call 15 (.cons (.var 0) (.cons (.var 1) .nil)))) (.cons (.ife (.or (.cons (.not (.call 26 (.cons (.var 2) .nil))) (.cons (.not (.call 27 (.cons (.var 2) .nil))) (.cons (.not (.call 28 (.cons (.var 2) .nil))) .nil)))) (.cons (.ret (.cst (.bool false))) .nil) .nil) .nil))) (.cons (.ret (.cst (.bool true))) .nil)), false⟩
def T : List Df := [f_is_tuple, f_is_name, f_is_typed, f_is_entry_any, f_sum_told, f_summed, f_row_told, f_body_told, f_entry_told, f_rows_told, f_want_entry, f_want_string, f_sum_of, f_row_of, f_rows_in, f_law_pot, f_law_draw, f_law_pick, f_law_sum, f_law_row, f_law_is_small_name, f_law_is_entry, f_law_read, f_law_typed, f_law_entry, f_law_read_right, f_law_right, f_law_sums_right, f_law_odd_right, f_law]
def G : List PyData := [(.str "abcdefghijklmnopqrstuvwxyz"), (.tuple [(.str "north"), (.str "south"), (.str "east"), (.str "west"), (.str "up"), (.str "down"), (.str "n"), (.str "s"), (.str "e"), (.str "w"), (.str "u"), (.str "d"), (.str "go"), (.str "walk"), (.str "take"), (.str "get"), (.str "drop"), (.str "put"), (.str "open"), (.str "shut"), (.str "close"), (.str "wait"), (.str "z"), (.str "look"), (.str "l"), (.str "list"), (.str "inventory"), (.str "i"), (.str "undo"), (.str "save"), (.str "restore"), (.str "again"), (.str "held"), (.str "nowhere"), (.str "here"), (.str "in"), (.str "into"), (.str "with"), (.str "to"), (.str "on"), (.str "at"), (.str "all"), (.str "it"), (.str "and"), (.str "the"), (.str "a"), (.str "an"), (.str "not"), (.str "or"), (.str "true"), (.str "inside"), (.str "gone"), (.str "opened"), (.str "when"), (.str "do"), (.str "say"), (.str "set"), (.str "clear"), (.str "move"), (.str "by"), (.str "off")]), (.int 12), (.int 60), (.str "begin"), (.str "line"), (.str "drop"), (.int 65521)]
theorem t_is_tuple : T[0]? = some f_is_tuple := rfl
theorem t_is_name : T[1]? = some f_is_name := rfl
theorem t_is_typed : T[2]? = some f_is_typed := rfl
theorem t_is_entry_any : T[3]? = some f_is_entry_any := rfl
theorem t_sum_told : T[4]? = some f_sum_told := rfl
theorem t_summed : T[5]? = some f_summed := rfl
theorem t_row_told : T[6]? = some f_row_told := rfl
theorem t_body_told : T[7]? = some f_body_told := rfl
theorem t_entry_told : T[8]? = some f_entry_told := rfl
theorem t_rows_told : T[9]? = some f_rows_told := rfl
theorem t_want_entry : T[10]? = some f_want_entry := rfl
theorem t_want_string : T[11]? = some f_want_string := rfl
theorem t_sum_of : T[12]? = some f_sum_of := rfl
theorem t_row_of : T[13]? = some f_row_of := rfl
theorem t_rows_in : T[14]? = some f_rows_in := rfl
theorem t_law_pot : T[15]? = some f_law_pot := rfl
theorem t_law_draw : T[16]? = some f_law_draw := rfl
theorem t_law_pick : T[17]? = some f_law_pick := rfl
theorem t_law_sum : T[18]? = some f_law_sum := rfl
theorem t_law_row : T[19]? = some f_law_row := rfl
theorem t_law_is_small_name : T[20]? = some f_law_is_small_name := rfl
theorem t_law_is_entry : T[21]? = some f_law_is_entry := rfl
theorem t_law_read : T[22]? = some f_law_read := rfl
theorem t_law_typed : T[23]? = some f_law_typed := rfl
theorem t_law_entry : T[24]? = some f_law_entry := rfl
theorem t_law_read_right : T[25]? = some f_law_read_right := rfl
theorem t_law_right : T[26]? = some f_law_right := rfl
theorem t_law_sums_right : T[27]? = some f_law_sums_right := rfl
theorem t_law_odd_right : T[28]? = some f_law_odd_right := rfl
theorem t_law : T[29]? = some f_law := rfl
end HT
end

section
set_option Elab.async false
set_option linter.all false
set_option maxRecDepth 100000
set_option maxHeartbeats 4000000
/-! T2: sums, rows -/
namespace HT
open PySem PySem.Spec L2 Ev
theorem line_of {n : Nat} (h : n ≤ 160000) : n ≤ sizeLine := by rw [sizeLine_eq]; omega
/-- signs of a plain text -/
structure Asc (k : Nat) (l : List Nat) : Prop where
  len : l.length ≤ k
  cs : ∀ c ∈ l, c < 128
theorem Asc.up {j k : Nat} {l : List Nat} (h : Asc j l) (hk : j ≤ k) : Asc k l := ⟨Nat.le_trans h.len hk, h.cs⟩
theorem Asc.app {j k n : Nat} {l m : List Nat} (h : Asc j l) (g : Asc k m) (hn : j + k ≤ n) : Asc n (l ++ m) := ⟨by rw [List.length_append]; have := h.len; have := g.len; omega, fun c hc => (List.mem_append.mp hc).elim (h.cs c) (g.cs c)⟩
theorem Asc.nil {k : Nat} : Asc k [] := ⟨Nat.zero_le _, fun c hc => by cases hc⟩
theorem Asc.cons {k n : Nat} {c : Nat} {l : List Nat} (hc : c < 128) (h : Asc k l) (hn : k + 1 ≤ n) : Asc n (c :: l) := ⟨by rw [List.length_cons]; have := h.len; omega, fun d hd => (List.mem_cons.mp hd).elim (fun e => e ▸ hc) (h.cs d)⟩
theorem Asc.take {k : Nat} {l : List Nat} (h : Asc k l) (n : Nat) : Asc k (l.take n) := ⟨by rw [List.length_take]; have := h.len; omega, fun c hc => h.cs c (List.mem_of_mem_take hc)⟩
theorem Asc.drop {k : Nat} {l : List Nat} (h : Asc k l) (n : Nat) : Asc k (l.drop n) := ⟨by rw [List.length_drop]; have := h.len; omega, fun c hc => h.cs c (List.mem_of_mem_drop hc)⟩
theorem asc_w {k : Nat} {x : Str} (h : (decide (x.cps.toList.length ≤ k) && x.cps.toList.all fun c => decide (c < 128)) = true) : Asc k x.cps.toList := by
  rw [Bool.and_eq_true, List.all_eq_true] at h
  exact ⟨of_decide_eq_true h.1, fun c hc => of_decide_eq_true (h.2 c hc)⟩
theorem Asc.ok {k : Nat} {l : List Nat} (h : Asc k l) : PyData.strOk (tx l) = true := by
  unfold PyData.strOk
  rw [Array.all_eq_true_iff_forall_mem]
  intro c hc
  have := h.cs c (by simpa using hc)
  simp
  omega
theorem Asc.tame {k n : Nat} {l : List Nat} (h : Asc k l) : Tame k n (.str (tx l)) := tame_strB (by rw [tx_len]; exact h.len) fun c hc => Nat.lt_trans (h.cs c hc) (by decide)
/-! ### sums -/
def smN : Nat → List Nat → Nat
  | _, [] => 0
  | k, c :: r => (k + 1) * c + smN (k + 1) r
def sumN (l : List Nat) : Nat := smN 0 l % 65521
theorem smN_app : ∀ (p q : List Nat) (k : Nat), smN k (p ++ q) = smN k p + smN (k + p.length) q
  | [], q, k => by simp [smN]
  | a :: p, q, k => by
    simp only [List.cons_append, smN, smN_app p q (k + 1), List.length_cons]
    rw [show k + 1 + p.length = k + (p.length + 1) by omega]
    omega
theorem sumN_lt (l : List Nat) : sumN l < 65521 := Nat.mod_lt _ (by decide)
abbrev num (n : Nat) : List Nat := TL.numL n
theorem num_str (n : Nat) : Str.ofString (toString ((n : Nat) : Int)) = tx (num n) := SX.num_S n
theorem num_asc {n : Nat} (h : n < 10 ^ 9) : Asc 9 (num n) := ⟨TL.numL_len (by decide) h, fun c hc => by
  have := (TL.numL_digits n) c hc
  omega⟩
theorem sum_asc (l : List Nat) : Asc 5 (num (sumN l)) := ⟨TL.numL_len (by decide) (Nat.lt_trans (sumN_lt l) (by decide)), (num_asc (Nat.lt_trans (sumN_lt l) (by decide))).cs⟩
/-- a row without its line feed -/
def rowL (b : List Nat) : List Nat := num (sumN b) ++ 32 :: b
theorem rowL_asc {k : Nat} {b : List Nat} (h : Asc k b) : Asc (k + 6) (rowL b) := (sum_asc b).app (Asc.cons (by decide) h (Nat.le_refl _)) (by omega)
theorem zipI_map (l : List Nat) : (l.map fun c => PyData.str ⟨#[c]⟩).zipIdx.map (fun p => Val.d (.tuple [.int (p.2 : Int), p.1])) = l.zipIdx.map fun p => Val.d (.tuple [.int (p.2 : Int), .str ⟨#[p.1]⟩]) := by
  rw [List.zipIdx_map, List.map_map]
  rfl
@[simp] theorem enum_s {S : Store} {z : Str} : enumI (.d (.str z)) S = .ok ⟨(z.cps.toList.map fun c => PyData.str ⟨#[c]⟩).zipIdx.map fun p => .d (.tuple [.int (p.2 : Int), p.1]), none⟩ S := rfl
@[simp] theorem ord_1 {S : Store} {c : Nat} : biV .ord [.d (.str ⟨#[c]⟩)] S = .ok (.d (.int (c : Int))) S := by
  simp [biV, okIf, Str.length]
theorem mul_ok {i j : Int} (h0 : 0 ≤ i) (h : i < 18446744073709551616) (S : Store) : binV .Mult (.d (.int i)) (.d (.int j)) S = .ok (.d (.int (i * j))) S := by
  rw [mul_ii]
  exact if_pos (.inl ⟨by omega, h⟩)
theorem num_repr (n : Nat) : Str.ofString ((n : Int).repr) = tx (num n) := num_str n
theorem emp_tx : Str.empty = tx [] := rfl
theorem blank_tx : Str.ofString " " = tx [32] := rfl
theorem feed_tx : Str.ofString "\n" = tx [10] := rfl
theorem lg {n : Nat} (h : n < 10 ^ 9) : n.log2 < 1920 := by
  have := small_log (i := (n : Int)) (by
    have e : (10 : Nat) ^ 9 < 10 ^ 100 := by decide
    show n < _
    omega)
  simpa using this
theorem gs_cons {Gl : List PyData} {K : Calls} {a : CS} {r : CSs} {ρ : EnvD} {S : Store} {N B C : EnvD → Store → Prop} {R : Val → Store → Prop} : GS (dSs Gl K (.cons a r) ρ S) N R B C ↔ GS (dS Gl K a ρ S) (fun ρ S => GS (dSs Gl K r ρ S) N R B C) R B C := by
  simp only [dSs]
  exact gs_seq
theorem gs_nil {Gl : List PyData} {K : Calls} {ρ : EnvD} {S : Store} {N B C : EnvD → Store → Prop} {R : Val → Store → Prop} : GS (dSs Gl K .nil ρ S) N R B C ↔ N ρ S := by
  simp only [dSs]
  exact gs_next
theorem gs_forS {Gl : List PyData} {K : Calls} {tg : Tg} {it : CI} {b : CSs} {ρ : EnvD} {S : Store} {N B C : EnvD → Store → Prop} {R : Val → Store → Prop} : GS (dS Gl K (.for_ tg it b) ρ S) N R B C ↔ Gets (dI Gl K it ρ S) fun w S1 => GS (forD w tg (dSs Gl K b) w.vs ρ S1) N R B C := by
  simp only [dS]
  exact gs_s
theorem gs_ifeS {Gl : List PyData} {K : Calls} {c : CE} {a b : CSs} {ρ : EnvD} {S : Store} {N B C : EnvD → Store → Prop} {R : Val → Store → Prop} : GS (dS Gl K (.ife c a b) ρ S) N R B C ↔ Gets (dT Gl K c ρ S) fun k S1 => GS (if k = true then dSs Gl K a ρ S1 else dSs Gl K b ρ S1) N R B C := by
  simp only [dS]
  exact gs_s
theorem gets_def {Gd : List PyData} {T : List Df} {n k : Nat} {vs : List Val} {S : Store} {d : Df} {Q : Val → Store → Prop} (h : T[k]? = some d) (ρ0 : EnvD) (hl : vs.length = d.np) (hρ : entry d.np d.nn vs = ρ0)
    (q : GS (dSs Gd (sem Gd T n) d.body ρ0 S) (fun _ S' => Q (.d .none) (S'.take S.length)) (fun v S' => Gets (back d.mu S.length v S') Q) (fun _ _ => False) fun _ _ => False) : Gets (sem Gd T (n + 1) k vs S) Q := by
  subst hρ
  exact gets_sem h hl q
theorem gs_of_nextS {o : SOut} {ρ : EnvD} {S : Store} {N B C : EnvD → Store → Prop} {R : Val → Store → Prop} (h : o = .next ρ S) (k : N ρ S) : GS o N R B C := by rw [h]; exact k
theorem sum_turn {m z y : Int} {c : Nat} (n : Nat) (S : Store) (r0 : Option Val) (ho0 : ∀ S, biV .ord [.d (.str ⟨#[c]⟩)] S = .ok (.d (.int y)) S) (h0 : 0 ≤ z) (hc : z + 1 < 18446744073709551616) :
    dSs G (sem G T n) (.cons (.asg (.nm 1) (.bin .Mod (.bin .Add (.var 1) (.bin .Mult (.bin .Add (.var 2) (.cst (.int 1))) (.bi .ord (.cons (.var 3) .nil)))) (.glb 7))) .nil)
     [r0, some (.d (.int m)), some (.d (.int z)), some (.d (.str ⟨#[c]⟩))] S = .next [r0, some (.d (.int ((m + (z + 1) * y).fmod 65521))), some (.d (.int z)), some (.d (.str ⟨#[c]⟩))] S := by
  have hm := mul_ok (i := z + 1) (j := y) (by omega) hc
  simp [-mul_ii, -ord_1, ho0, hm, dSs, dS, dE, dEs, dAnd, dOr, dT, Ev.tAnd, Ev.tOr, dU, dN, dB2, dIf, dVar, dCst, dO, dC, dI, dCall, dKall, pick, entry, isiV, isiV2, isTys, isTy, tobV, truO, truV, okIf, datOf, seqOf, lstOf, datas, lstV, tupV, elsOf, Out.bind_ok, tgt, G, setAll, Ev.Out.s, Ev.SOut.seq]
theorem modc (m i c : Nat) : ((m : Int) + ((i : Int) + 1) * (c : Int)).fmod 65521 = (((m + (i + 1) * c) % 65521 : Nat) : Int) := by
  have e2 : (m : Int) + ((i : Int) + 1) * (c : Int) = ((m + (i + 1) * c : Nat) : Int) := by simp
  rw [Int.fmod_eq_emod_of_nonneg _ (by decide), e2]
  exact (Int.natCast_emod _ _).symm
theorem r_sum_told {n : Nat} (hn : 0 < n) {k : Nat} {l : List Nat} (h : Asc k l) (hk : k ≤ 100000) (S : Store) : sem G T n 4 [.d (.str (tx l))] S = .ok (.d (.int (sumN l))) S := by
  obtain ⟨n', rfl⟩ : ∃ m, n = m + 1 := ⟨n - 1, by omega⟩
  refine ok_of (gets_sem t_sum_told rfl ?_)
  unfold f_sum_told
  rw [gs_cons]
  refine gs_of_nextS (ρ := [some (.d (.str (tx l))), some (.d (.int 0)), none, none]) (S := S) (by simp [dSs, dS, dE, dEs, dAnd, dOr, dT, Ev.tAnd, Ev.tOr, dU, dN, dB2, dIf, dVar, dCst, dO, dC, dI, dCall, dKall, pick, entry, isiV, isiV2, isTys, isTy, tobV, truO, truV, okIf, datOf, seqOf, lstOf, datas, lstV, tupV, elsOf, Out.bind_ok, tgt, Ev.Out.s, List.replicate_succ]) ?_
  rw [gs_cons, gs_forS]
  refine ⟨⟨l.zipIdx.map fun p => Val.d (.tuple [.int (p.2 : Int), .str ⟨#[p.1]⟩]), none⟩, S, by simp [dSs, dS, dE, dEs, dAnd, dOr, dT, Ev.tAnd, Ev.tOr, dU, dN, dB2, dIf, dVar, dCst, dO, dC, dI, dCall, dKall, pick, entry, isiV, isiV2, isTys, isTy, tobV, truO, truV, okIf, datOf, seqOf, lstOf, datas, lstV, tupV, elsOf, Out.bind_ok, zipI_map], ?_⟩
  refine gs_for (fun vs ρ S' => ∃ (q : List Nat) (i m : Nat) (r2 r3 : Option Val), i + q.length ≤ 100000 ∧ vs = (q.zipIdx i).map (fun p => Val.d (.tuple [.int (p.2 : Int), .str ⟨#[p.1]⟩])) ∧ S' = S ∧ ρ = [some (.d (.str (tx l))), some (.d (.int (m : Int))), r2, r3] ∧ (m + smN i q) % 65521 = sumN l ∧ m < 65521) ?_ ?_ _ _ S ⟨l, 0, 0, none, none, ?_, rfl, rfl, rfl, ?_, by decide⟩
  · rintro v vs ρ S' ⟨q, i, m, r2, r3, hi, e, rfl, rfl, h3, h4⟩
    cases q with
    | nil => cases e
    | cons c q =>
      rw [List.zipIdx_cons, List.map_cons] at e
      injection e with e1 e2
      subst e1 e2
      rw [List.length_cons] at hi
      have ht := sum_turn (m := (m : Int)) (z := (i : Int)) (y := (c : Int)) (c := c) n' S' (some (.d (.str (tx l)))) (fun S => ord_1) (by omega) (by omega)
      rw [modc] at ht
      refine ⟨trivial, [some (.d (.str (tx l))), some (.d (.int (m : Int))), some (.d (.int (i : Int))), some (.d (.str ⟨#[c]⟩))], by simp [tgt, setAll], ?_⟩
      rw [ht]
      refine ⟨q, i + 1, (m + (i + 1) * c) % 65521, some (.d (.int (i : Int))), some (.d (.str ⟨#[c]⟩)), ?_, ?_, ?_, ?_, ?_, ?_⟩
      · omega
      · rfl
      · rfl
      · rfl
      · simp only [smN] at h3
        rw [← h3, Nat.mod_add_mod, Nat.add_assoc]
      · exact Nat.mod_lt _ (by decide)
  · rintro ρ S' ⟨q, i, m, r2, r3, hi, e, rfl, rfl, h3, h4⟩
    cases q with
    | cons c q => cases e
    | nil =>
      refine ⟨trivial, ?_⟩
      simp only [smN, Nat.add_zero] at h3
      rw [Nat.mod_eq_of_lt h4] at h3
      simp [dSs, dS, dE, dEs, dAnd, dOr, dT, Ev.tAnd, Ev.tOr, dU, dN, dB2, dIf, dVar, dCst, dO, dC, dI, dCall, dKall, pick, entry, isiV, isiV2, isTys, isTy, tobV, truO, truV, okIf, datOf, seqOf, lstOf, datas, lstV, tupV, elsOf, Out.bind_ok, h3]
  · have := h.len; omega
  · simp [sumN]
theorem sum_zip : ∀ (l : List Nat) (i : Nat), ((l.zipIdx i).map fun p => ((p.2 : Int) + 1) * (p.1 : Int)).sum = (smN i l : Int)
  | [], i => rfl
  | c :: l, i => by
    rw [List.zipIdx_cons, List.map_cons, List.sum_cons, sum_zip l (i + 1)]
    simp [smN]
theorem r_law_sum {n : Nat} (hn : 0 < n) {k : Nat} {l : List Nat} (h : Asc k l) (hk : k ≤ 100000) (S : Store) : sem G T n 18 [.d (.str (tx l))] S = .ok (.d (.int (sumN l))) S := by
  obtain ⟨n', rfl⟩ : ∃ m, n = m + 1 := ⟨n - 1, by omega⟩
  refine ok_of (gets_sem t_law_sum rfl ?_)
  simp [dSs, dS, dE, dEs, dAnd, dOr, dT, Ev.tAnd, Ev.tOr, dU, dN, dB2, dIf, dVar, dCst, dO, dC, dCall, dKall, pick, entry, isiV, isiV2, isTys, isTy, tobV, truO, truV, okIf, datOf, seqOf, lstOf, datas, lstV, tupV, elsOf, Out.bind_ok, f_law_sum]
  refine gets_each (fun p : Nat × Nat => Val.d (.tuple [.int (p.2 : Int), .str ⟨#[p.1]⟩])) (fun p => .int (((p.2 : Int) + 1) * (p.1 : Int))) l.zipIdx (n := none) (S := S) (by simp [dSs, dS, dE, dEs, dAnd, dOr, dT, Ev.tAnd, Ev.tOr, dU, dN, dB2, dIf, dVar, dCst, dO, dC, dI, dCall, dKall, pick, entry, isiV, isiV2, isTys, isTy, tobV, truO, truV, okIf, datOf, seqOf, lstOf, datas, lstV, tupV, elsOf, Out.bind_ok, zipI_map]) trivial (fun p hp => ⟨_, by simp [tgt, wipeD]; rfl, ?_⟩) (by rw [List.length_zipIdx]; exact line_of (by have := h.len; omega)) ?_
  · have hi : p.2 < l.length := by
      have := List.snd_lt_of_mem_zipIdx hp
      simpa using this
    have := h.len
    obtain ⟨z, hz⟩ : ∃ z : Int, z = (p.2 : Int) := ⟨_, rfl⟩
    obtain ⟨y, hy⟩ : ∃ y : Int, y = (p.1 : Int) := ⟨_, rfl⟩
    have hm := mul_ok (i := z + 1) (j := y) (by omega) (by omega)
    have ho : ∀ S, biV .ord [.d (.str ⟨#[p.1]⟩)] S = .ok (.d (.int y)) S := fun S => by rw [hy]; exact ord_1
    rw [← hz, ← hy]
    simp [-mul_ii, -ord_1, ho, hm, dSs, dS, dE, dEs, dAnd, dOr, dT, Ev.tAnd, Ev.tOr, dU, dN, dB2, dIf, dVar, dCst, dO, dC, dI, dCall, dKall, pick, entry, isiV, isiV2, isTys, isTy, tobV, truO, truV, okIf, datOf, seqOf, lstOf, datas, lstV, tupV, elsOf, Out.bind_ok, wipeD, setAll]
  · have e : intsOf (l.zipIdx.map fun p : Nat × Nat => PyData.int (((p.2 : Int) + 1) * (p.1 : Int))) = some (l.zipIdx.map fun p => ((p.2 : Int) + 1) * (p.1 : Int)) := ints_map (fun p : Nat × Nat => ((p.2 : Int) + 1) * (p.1 : Int)) _
    simp [dSs, dS, dE, dEs, dAnd, dOr, dT, Ev.tAnd, Ev.tOr, dU, dN, dB2, dIf, dVar, dCst, dO, dC, dI, dCall, dKall, pick, entry, isiV, isiV2, isTys, isTy, tobV, truO, truV, okIf, datOf, seqOf, lstOf, datas, lstV, tupV, elsOf, Out.bind_ok, lstOf, e, sum_zip]
    rw [Int.fmod_eq_emod_of_nonneg _ (by decide)]
    exact (Int.natCast_emod _ _).symm
theorem r_summed {n : Nat} (hn : 1 < n) {k : Nat} {l : List Nat} (h : Asc k l) (hk : k ≤ 100000) (S : Store) : sem G T n 5 [.d (.str (tx l))] S = .ok (.d (.str (tx (rowL l ++ [10])))) S := by
  obtain ⟨n', rfl⟩ : ∃ m, n = m + 1 := ⟨n - 1, by omega⟩
  refine ok_of (gets_sem t_summed rfl ?_)
  have e := r_sum_told (n := n') (by omega) h hk S
  have hl := (rowL_asc h).len
  have hs := (sum_asc l).len
  have hg := lg (n := sumN l) (Nat.lt_trans (sumN_lt l) (by decide))
  simp only [rowL, List.length_append, List.length_cons] at hl
  have z : ∀ m, m ≤ 160000 → m ≤ sizeLine := fun m => line_of
  simp [dSs, dS, dE, dEs, dAnd, dOr, dT, Ev.tAnd, Ev.tOr, dU, dN, dB2, dIf, dVar, dCst, dO, dC, dI, dCall, dKall, pick, entry, isiV, isiV2, isTys, isTy, tobV, truO, truV, okIf, datOf, seqOf, lstOf, datas, lstV, tupV, elsOf, Out.bind_ok, f_summed, e, fmtO, dF, num_repr, emp_tx, blank_tx, feed_tx, tx_cat, hg, rowL]
  have := h.len
  repeat' first | exact z _ (by omega) | intro _ | constructor
end HT
end

section
set_option Elab.async false
set_option linter.all false
set_option maxRecDepth 100000
set_option maxHeartbeats 4000000
/-! T3: names, entries -/
namespace HT
open PySem PySem.Spec L2 Ev
def resS : List String := ["north", "south", "east", "west", "up", "down", "n", "s", "e", "w", "u", "d", "go", "walk", "take", "get", "drop", "put", "open", "shut", "close", "wait", "z", "look", "l", "list", "inventory", "i", "undo", "save", "restore", "again", "held", "nowhere", "here", "in", "into", "with", "to", "on", "at", "all", "it", "and", "the", "a", "an", "not", "or", "true", "inside", "gone", "opened", "when", "do", "say", "set", "clear", "move", "by", "off"]
def res : List Str := resS.map Str.ofString
def nameB (w : List Nat) : Bool := decide (1 ≤ w.length) && (decide (w.length ≤ 12) && (!(res.any fun z => z == tx w) && w.all fun c => decide (97 ≤ c) && decide (c ≤ 122)))
theorem g_res : G[1]? = some (.tuple (res.map .str)) := rfl
theorem g_let : G[0]? = some (.str "abcdefghijklmnopqrstuvwxyz") := rfl
theorem g_most : G[2]? = some (.int 12) := rfl
theorem g_typ : G[3]? = some (.int 60) := rfl
theorem g_begin : G[4]? = some (.str "begin") := rfl
theorem g_line : G[5]? = some (.str "line") := rfl
theorem g_drop : G[6]? = some (.str "drop") := rfl
theorem res_in {k : Nat} {w : List Nat} (h : Asc k w) (S : Store) (u : Val) (hu : u = .d (.tuple (res.map .str)) ∨ u = .d (.list (res.map .str))) : cmpV .In (.d (.str (tx w))) u S = .ok (.d (.bool (res.any fun z => z == tx w))) S := by
  have h1 : SeqAt.shaped (.str (tx w)) = true := by
    unfold SeqAt.shaped PyData.canLay0
    rw [h.ok]
    rfl
  have h2 : SeqAt.shaped (.list (res.map .str)) = true := by decide +kernel
  have e : ((res.map PyData.str).any fun z => PyData.eqv z (.str (tx w))) = res.any fun z => z == tx w := by
    rw [List.any_map]
    have : (fun z : Str => PyData.eqv (.str z) (.str (tx w))) = fun z => z == tx w := by funext z; simp
    exact congrArg (fun f => res.any f) this
  rcases hu with rfl | rfl
  · show okIf (SeqAt.shaped (.str (tx w)) = true ∧ SeqAt.shaped (.list (res.map .str)) = true) (.bool ((res.map PyData.str).any fun z => PyData.eqv z (.str (tx w)))) S = _
    rw [e, h1, h2]
    try rfl
  · show okIf (SeqAt.shaped (.str (tx w)) = true ∧ SeqAt.shaped (.list (res.map .str)) = true) (.bool ((res.map PyData.str).any fun z => PyData.eqv z (.str (tx w)))) S = _
    rw [e, h1, h2]
    try rfl
theorem letters_mem (c : Nat) : decide (c ∈ ("abcdefghijklmnopqrstuvwxyz" : Str).cps.toList) = (decide (97 ≤ c) && decide (c ≤ 122)) := by
  have e : ("abcdefghijklmnopqrstuvwxyz" : Str).cps.toList = (List.range 26).map (· + 97) := by decide +kernel
  rw [e, Bool.eq_iff_iff]
  simp
  constructor
  · rintro ⟨a, h, rfl⟩; omega
  · intro h; exact ⟨c - 97, by omega, by omega⟩
theorem in_let (c : Nat) (S : Store) : cmpV .In (.d (.str ⟨#[c]⟩)) (.d (.str "abcdefghijklmnopqrstuvwxyz")) S = .ok (.d (.bool (decide (97 ≤ c) && decide (c ≤ 122)))) S := by
  rw [← letters_mem]
  show okIf ((⟨#[c]⟩ : Str).length = 1) _ S = _
  exact if_pos rfl
theorem lt1 (a b : Nat) : decide ([a] < [b]) = decide (a < b) := by
  rw [Bool.eq_iff_iff]
  simp [List.cons_lt_cons_iff]
theorem bools_tl {l : List Nat} (f : Nat → Bool) : boolsOf (l.map fun c => PyData.bool (f c)) = some (l.map f) := bools_map f l
theorem r_is_name {n : Nat} (hn : 0 < n) {k : Nat} {w : List Nat} (h : Asc k w) (hk : k ≤ 100000) (S : Store) : sem G T n 1 [.d (.str (tx w))] S = .ok (.d (.bool (nameB w))) S := by
  obtain ⟨n', rfl⟩ : ∃ m, n = m + 1 := ⟨n - 1, by omega⟩
  have hr := fun S => res_in h S _ (.inl rfl)
  have hl : w.length ≤ sizeLine := line_of (by have := h.len; omega)
  have hlc : ∀ N : Prop, (N ↔ N) := fun _ => Iff.rfl
  have hcond : Gets (dT G (sem G T n') (.or (.cons (.not (.isi (.var 0) .str)) (.cons (.not (.chn .LtE .LtE (.cst (.int 1)) (.bi .len (.cons (.var 0) .nil)) (.glb 2))) (.cons (.cmp .In (.var 0) (.glb 1)) .nil)))) [some (.d (.str (tx w))), none] S) fun b S' => b = !(decide (1 ≤ w.length) && (decide (w.length ≤ 12) && !(res.any fun z => z == tx w))) ∧ S' = S := by
    have e1 : ((1 : Int) ≤ (w.length : Int)) = (1 ≤ w.length) := by simp; omega
    have e2 : ((w.length : Int) ≤ 12) = (w.length ≤ 12) := by simp; omega
    by_cases h1 : 1 ≤ w.length <;> by_cases h2 : w.length ≤ 12 <;> simp [dSs, dS, dE, dEs, dAnd, dOr, dT, Ev.tAnd, Ev.tOr, dU, dN, dB2, dIf, dVar, dCst, dO, dC, dI, dCall, dKall, pick, entry, isiV, isiV2, isTys, isTy, tobV, truO, truV, okIf, datOf, seqOf, lstOf, datas, lstV, tupV, elsOf, Out.bind_ok, g_res, g_let, g_most, hr, hl, e1, e2, h1, h2]
  obtain ⟨b, S', e, hb, rfl⟩ := hcond
  refine ok_of (gets_def t_is_name [some (.d (.str (tx w))), none] rfl rfl ?_)
  dsimp only [f_is_name]
  rw [gs_cons, gs_ifeS]
  refine ⟨b, _, e, ?_⟩
  dsimp only
  by_cases hq : b = true
  · rw [if_pos hq]
    have : nameB w = false := by
      rw [hq] at hb
      have hb := hb.symm
      rw [Bool.not_eq_true'] at hb
      unfold nameB
      rw [← Bool.and_assoc, ← Bool.and_assoc]
      rw [← Bool.and_assoc] at hb
      rw [hb, Bool.false_and]
    simp [dSs, dS, dE, dEs, dAnd, dOr, dT, Ev.tAnd, Ev.tOr, dU, dN, dB2, dIf, dVar, dCst, dO, dC, dI, dCall, dKall, pick, entry, isiV, isiV2, isTys, isTy, tobV, truO, truV, okIf, datOf, seqOf, lstOf, datas, lstV, tupV, elsOf, Out.bind_ok, this]
  · rw [if_neg hq, gs_nil]
    have hw : nameB w = w.all fun c => decide (97 ≤ c) && decide (c ≤ 122) := by
      have hq' : b = false := by simpa using hq
      rw [hq'] at hb
      have hb := hb.symm
      rw [Bool.not_eq_false'] at hb
      unfold nameB
      rw [← Bool.and_assoc, ← Bool.and_assoc]
      rw [← Bool.and_assoc] at hb
      rw [hb, Bool.true_and]
    simp [dSs, dS, dE, dEs, dAnd, dOr, dT, Ev.tAnd, Ev.tOr, dU, dN, dB2, dIf, dVar, dCst, dO, dC, dCall, dKall, pick, entry, isiV, isiV2, isTys, isTy, tobV, truO, truV, okIf, datOf, seqOf, lstOf, datas, lstV, tupV, elsOf, Out.bind_ok]
    refine gets_each (fun c : Nat => Val.d (.str ⟨#[c]⟩)) (fun c => .bool (decide (97 ≤ c) && decide (c ≤ 122))) w (n := none) (S := S') (by simp [dSs, dS, dE, dEs, dAnd, dOr, dT, Ev.tAnd, Ev.tOr, dU, dN, dB2, dIf, dVar, dCst, dO, dC, dI, dCall, dKall, pick, entry, isiV, isiV2, isTys, isTy, tobV, truO, truV, okIf, datOf, seqOf, lstOf, datas, lstV, tupV, elsOf, Out.bind_ok]) trivial (fun c hc => ⟨_, rfl, by simp [dSs, dS, dE, dEs, dAnd, dOr, dT, Ev.tAnd, Ev.tOr, dU, dN, dB2, dIf, dVar, dCst, dO, dC, dI, dCall, dKall, pick, entry, isiV, isiV2, isTys, isTy, tobV, truO, truV, okIf, datOf, seqOf, lstOf, datas, lstV, tupV, elsOf, Out.bind_ok, wipeD, g_let, in_let]⟩) hl ?_
    simp [dSs, dS, dE, dEs, dAnd, dOr, dT, Ev.tAnd, Ev.tOr, dU, dN, dB2, dIf, dVar, dCst, dO, dC, dI, dCall, dKall, pick, entry, isiV, isiV2, isTys, isTy, tobV, truO, truV, okIf, datOf, seqOf, lstOf, datas, lstV, tupV, elsOf, Out.bind_ok, hw, bools_map (fun c => decide (97 ≤ c) && decide (c ≤ 122)), List.all_map]
    try rfl
theorem lawres : (Txt.split (("north south east west up down n s e w u d go walk take get drop put open shut close wait z look l list inventory i undo save" : Str) ++ (" restore again held nowhere here in into with to on at all it and the a an not or true inside gone opened when do say set" : Str) ++ (" clear move by off" : Str)) (" " : Str)).map PyData.str = res.map PyData.str := by
  have e : (("north south east west up down n s e w u d go walk take get drop put open shut close wait z look l list inventory i undo save" : Str) ++ (" restore again held nowhere here in into with to on at all it and the a an not or true inside gone opened when do say set" : Str) ++ (" clear move by off" : Str)) = tx (jn 32 (res.map fun x => x.cps.toList)) := by decide +kernel
  rw [e, show ((" " : Str)) = tx [32] from rfl, split_1 _ (by decide)]
  have e2 : spl 32 ((jn 32 (res.map fun x => x.cps.toList)).length + 1) [] (jn 32 (res.map fun x => x.cps.toList)) = res.map fun x => x.cps.toList := by decide +kernel
  rw [e2, List.map_map, List.map_map]
  try (exact List.map_congr_left fun x _ => by simp [tx_tl])
theorem tl_a : ("a" : Str).cps.toList = [97] := by decide +kernel
theorem tl_z : ("z" : Str).cps.toList = [122] := by decide +kernel
theorem tl_sp : (" " : Str).cps.toList = [32] := by decide +kernel
theorem tl_ti : ("~" : Str).cps.toList = [126] := by decide +kernel
theorem r_small_name {n : Nat} (hn : 0 < n) {k : Nat} {w : List Nat} (h : Asc k w) (hk : k ≤ 100000) (S : Store) : sem G T n 20 [.d (.str (tx w))] S = .ok (.d (.bool (nameB w))) S := by
  obtain ⟨n', rfl⟩ : ∃ m, n = m + 1 := ⟨n - 1, by omega⟩
  have hr := fun S => res_in h S _ (.inr rfl)
  have hl : w.length ≤ sizeLine := line_of (by have := h.len; omega)
  have e1 : ((1 : Int) ≤ (w.length : Int)) = (1 ≤ w.length) := by simp; omega
  have e2 : ((w.length : Int) ≤ 12) = (w.length ≤ 12) := by simp; omega
  refine ok_of (gets_def t_law_is_small_name [some (.d (.str (tx w))), none, none] rfl rfl ?_)
  dsimp only [f_law_is_small_name]
  have s1 : ("north south east west up down n s e w u d go walk take get drop put open shut close wait z look l list inventory i undo save" : Str).length = 124 := by decide +kernel
  have s2 : (" restore again held nowhere here in into with to on at all it and the a an not or true inside gone opened when do say set" : Str).length = 121 := by decide +kernel
  have s3 : (" clear move by off" : Str).length = 18 := by decide +kernel
  have s4 : ((" " : Str).length = 0) = False := eq_false (by decide +kernel)
  have z : ∀ m, m ≤ 160000 → m ≤ sizeLine := fun m => line_of
  rw [gs_cons]
  refine gs_of_nextS (ρ := [some (.d (.str (tx w))), some (.d (.str "north south east west up down n s e w u d go walk take get drop put open shut close wait z look l list inventory i undo save")), none]) (S := S) (by simp [dSs, dS, dE, dEs, dAnd, dOr, dT, Ev.tAnd, Ev.tOr, dU, dN, dB2, dIf, dVar, dCst, dO, dC, dI, dCall, dKall, pick, entry, isiV, isiV2, isTys, isTy, tobV, truO, truV, okIf, datOf, seqOf, lstOf, datas, lstV, tupV, elsOf, Out.bind_ok, tgt, Ev.Out.s]) ?_
  rw [gs_cons]
  refine gs_of_nextS (ρ := [some (.d (.str (tx w))), some (.d (.str ("north south east west up down n s e w u d go walk take get drop put open shut close wait z look l list inventory i undo save" ++ (" restore again held nowhere here in into with to on at all it and the a an not or true inside gone opened when do say set" : Str)))), none]) (S := S) (by
    have := z 245 (by decide)
    simp [dSs, dS, dE, dEs, dAnd, dOr, dT, Ev.tAnd, Ev.tOr, dU, dN, dB2, dIf, dVar, dCst, dO, dC, dI, dCall, dKall, pick, entry, isiV, isiV2, isTys, isTy, tobV, truO, truV, okIf, datOf, seqOf, lstOf, datas, lstV, tupV, elsOf, Out.bind_ok, tgt, Ev.Out.s, s1, s2, this]) ?_
  rw [gs_cons]
  refine gs_of_nextS (ρ := [some (.d (.str (tx w))), some (.d (.list (res.map .str))), none]) (S := S) (by
    have := z 263 (by decide)
    have t2 := z 265 (by decide)
    simp [dSs, dS, dE, dEs, dAnd, dOr, dT, Ev.tAnd, Ev.tOr, dU, dN, dB2, dIf, dVar, dCst, dO, dC, dI, dCall, dKall, pick, entry, isiV, isiV2, isTys, isTy, tobV, truO, truV, okIf, datOf, seqOf, lstOf, datas, lstV, tupV, elsOf, Out.bind_ok, tgt, Ev.Out.s, smV, strO, s1, s2, s3, s4, this, t2, Str.length_append]
    rw [lawres]) ?_
  rw [gs_cons, gs_ifeS]
  have hcond : Gets (dT G (sem G T n') (.or (.cons (.not (.isi (.var 0) .str)) (.cons (.not (.chn .LtE .LtE (.cst (.int 1)) (.bi .len (.cons (.var 0) .nil)) (.cst (.int 12)))) (.cons (.cmp .In (.var 0) (.var 1)) .nil)))) [some (.d (.str (tx w))), some (.d (.list (res.map .str))), none] S) fun b S' => b = !(decide (1 ≤ w.length) && (decide (w.length ≤ 12) && !(res.any fun z => z == tx w))) ∧ S' = S := by
    by_cases h1 : 1 ≤ w.length <;> by_cases h2 : w.length ≤ 12 <;> simp [dSs, dS, dE, dEs, dAnd, dOr, dT, Ev.tAnd, Ev.tOr, dU, dN, dB2, dIf, dVar, dCst, dO, dC, dI, dCall, dKall, pick, entry, isiV, isiV2, isTys, isTy, tobV, truO, truV, okIf, datOf, seqOf, lstOf, datas, lstV, tupV, elsOf, Out.bind_ok, hr, hl, e1, e2, h1, h2]
  obtain ⟨b, S', e, hb, rfl⟩ := hcond
  refine ⟨b, _, e, ?_⟩
  dsimp only
  by_cases hq : b = true
  · rw [if_pos hq]
    have : nameB w = false := by
      rw [hq] at hb
      have hb := hb.symm
      rw [Bool.not_eq_true'] at hb
      unfold nameB
      rw [← Bool.and_assoc, ← Bool.and_assoc]
      rw [← Bool.and_assoc] at hb
      rw [hb, Bool.false_and]
    simp [dSs, dS, dE, dEs, dAnd, dOr, dT, Ev.tAnd, Ev.tOr, dU, dN, dB2, dIf, dVar, dCst, dO, dC, dI, dCall, dKall, pick, entry, isiV, isiV2, isTys, isTy, tobV, truO, truV, okIf, datOf, seqOf, lstOf, datas, lstV, tupV, elsOf, Out.bind_ok, this]
  · rw [if_neg hq, gs_nil]
    have hw : nameB w = w.all fun c => decide (97 ≤ c) && decide (c ≤ 122) := by
      have hq' : b = false := by simpa using hq
      rw [hq'] at hb
      have hb := hb.symm
      rw [Bool.not_eq_false'] at hb
      unfold nameB
      rw [← Bool.and_assoc, ← Bool.and_assoc]
      rw [← Bool.and_assoc] at hb
      rw [hb, Bool.true_and]
    simp [dSs, dS, dE, dEs, dAnd, dOr, dT, Ev.tAnd, Ev.tOr, dU, dN, dB2, dIf, dVar, dCst, dO, dC, dCall, dKall, pick, entry, isiV, isiV2, isTys, isTy, tobV, truO, truV, okIf, datOf, seqOf, lstOf, datas, lstV, tupV, elsOf, Out.bind_ok]
    refine gets_each (fun c : Nat => Val.d (.str ⟨#[c]⟩)) (fun c => .bool (decide (97 ≤ c) && decide (c ≤ 122))) w (n := none) (S := S') (by simp [dSs, dS, dE, dEs, dAnd, dOr, dT, Ev.tAnd, Ev.tOr, dU, dN, dB2, dIf, dVar, dCst, dO, dC, dI, dCall, dKall, pick, entry, isiV, isiV2, isTys, isTy, tobV, truO, truV, okIf, datOf, seqOf, lstOf, datas, lstV, tupV, elsOf, Out.bind_ok]) trivial (fun c hc => ⟨_, rfl, by by_cases h1 : 97 ≤ c <;> by_cases h2 : c ≤ 122 <;> simp [dSs, dS, dE, dEs, dAnd, dOr, dT, Ev.tAnd, Ev.tOr, dU, dN, dB2, dIf, dVar, dCst, dO, dC, dI, dCall, dKall, pick, entry, isiV, isiV2, isTys, isTy, tobV, truO, truV, okIf, datOf, seqOf, lstOf, datas, lstV, tupV, elsOf, Out.bind_ok, wipeD, tl_a, tl_z, List.cons_lt_cons_iff, h1, h2] <;> omega⟩) hl ?_
    simp [dSs, dS, dE, dEs, dAnd, dOr, dT, Ev.tAnd, Ev.tOr, dU, dN, dB2, dIf, dVar, dCst, dO, dC, dI, dCall, dKall, pick, entry, isiV, isiV2, isTys, isTy, tobV, truO, truV, okIf, datOf, seqOf, lstOf, datas, lstV, tupV, elsOf, Out.bind_ok, hw, bools_map (fun c => decide (97 ≤ c) && decide (c ≤ 122)), List.all_map]
    try rfl
def typB (w : List Nat) : Bool := decide (w.length ≤ 60) && w.all fun c => decide (32 ≤ c) && decide (c ≤ 126)
theorem r_is_typed {n : Nat} (hn : 0 < n) {k : Nat} {w : List Nat} (h : Asc k w) (hk : k ≤ 100000) (S : Store) : sem G T n 2 [.d (.str (tx w))] S = .ok (.d (.bool (typB w))) S := by
  obtain ⟨n', rfl⟩ : ∃ m, n = m + 1 := ⟨n - 1, by omega⟩
  have hl : w.length ≤ sizeLine := line_of (by have := h.len; omega)
  have e2 : ((w.length : Int) ≤ 60) = (w.length ≤ 60) := by simp; omega
  refine ok_of (gets_def t_is_typed [some (.d (.str (tx w))), none] rfl rfl ?_)
  dsimp only [f_is_typed]
  by_cases h1 : w.length ≤ 60
  · have hw : typB w = w.all fun c => decide (32 ≤ c) && decide (c ≤ 126) := by simp [typB, h1]
    simp [dSs, dS, dE, dEs, dAnd, dOr, dT, Ev.tAnd, Ev.tOr, dU, dN, dB2, dIf, dVar, dCst, dO, dC, dCall, dKall, pick, entry, isiV, isiV2, isTys, isTy, tobV, truO, truV, okIf, datOf, seqOf, lstOf, datas, lstV, tupV, elsOf, Out.bind_ok, g_typ, hl, e2, h1]
    refine gets_each (fun c : Nat => Val.d (.str ⟨#[c]⟩)) (fun c => .bool (decide (32 ≤ c) && decide (c ≤ 126))) w (n := none) (S := S) (by simp [dSs, dS, dE, dEs, dAnd, dOr, dT, Ev.tAnd, Ev.tOr, dU, dN, dB2, dIf, dVar, dCst, dO, dC, dI, dCall, dKall, pick, entry, isiV, isiV2, isTys, isTy, tobV, truO, truV, okIf, datOf, seqOf, lstOf, datas, lstV, tupV, elsOf, Out.bind_ok]) trivial (fun c hc => ⟨_, rfl, by by_cases h1 : 32 ≤ c <;> by_cases h2 : c ≤ 126 <;> simp [dSs, dS, dE, dEs, dAnd, dOr, dT, Ev.tAnd, Ev.tOr, dU, dN, dB2, dIf, dVar, dCst, dO, dC, dI, dCall, dKall, pick, entry, isiV, isiV2, isTys, isTy, tobV, truO, truV, okIf, datOf, seqOf, lstOf, datas, lstV, tupV, elsOf, Out.bind_ok, wipeD, tl_sp, tl_ti, List.cons_lt_cons_iff, h1, h2] <;> omega⟩) hl ?_
    simp [dSs, dS, dE, dEs, dAnd, dOr, dT, Ev.tAnd, Ev.tOr, dU, dN, dB2, dIf, dVar, dCst, dO, dC, dI, dCall, dKall, pick, entry, isiV, isiV2, isTys, isTy, tobV, truO, truV, okIf, datOf, seqOf, lstOf, datas, lstV, tupV, elsOf, Out.bind_ok, hw, bools_map (fun c => decide (32 ≤ c) && decide (c ≤ 126)), List.all_map]
    try rfl
  · simp [dSs, dS, dE, dEs, dAnd, dOr, dT, Ev.tAnd, Ev.tOr, dU, dN, dB2, dIf, dVar, dCst, dO, dC, dCall, dKall, pick, entry, isiV, isiV2, isTys, isTy, tobV, truO, truV, okIf, datOf, seqOf, lstOf, datas, lstV, tupV, elsOf, Out.bind_ok, g_typ, hl, e2, h1, typB]
end HT
end

section
set_option Elab.async false
set_option linter.all false
set_option maxRecDepth 100000
set_option maxHeartbeats 4000000
/-! T4: entries, rows -/
namespace HT
open PySem PySem.Spec L2 Ev
def dropL : List Nat := [100, 114, 111, 112]
def beginL : List Nat := [98, 101, 103, 105, 110]
def lineL : List Nat := [108, 105, 110, 101]
theorem s_drop : ("drop" : Str) = tx dropL := by decide +kernel
theorem s_begin : ("begin" : Str) = tx beginL := by decide +kernel
theorem s_line : ("line" : Str) = tx lineL := by decide +kernel
def wsD (ws : List (List Nat)) : PyData := .tuple (ws.map fun w => .str (tx w))
def entB : List (List Nat) → Bool
  | [a, n] => decide (a = dropL) && nameB n
  | [a, n, x] => nameB n && ((decide (a = beginL) && nameB x) || (decide (a = lineL) && typB x))
  | _ => false
/-- all its words are plain -/
def Ws (k : Nat) (ws : List (List Nat)) : Prop := ∀ w ∈ ws, Asc k w
theorem d1 : dropL ≠ beginL := by decide
theorem d2 : dropL ≠ lineL := by decide
theorem d3 : beginL ≠ dropL := by decide
theorem d4 : beginL ≠ lineL := by decide
theorem d5 : lineL ≠ dropL := by decide
theorem d6 : lineL ≠ beginL := by decide
theorem ws_shaped {k : Nat} {ws : List (List Nat)} (h : Ws k ws) : SeqAt.shaped (wsD ws) = true := by
  have h1 : PyData.canLayAll0 (ws.map fun w => PyData.str (tx w)) = true ∧ PyData.depthAll (ws.map fun w => PyData.str (tx w)) = 0 := by
    induction ws with
    | nil => exact ⟨rfl, rfl⟩
    | cons w ws ih =>
      obtain ⟨a, b⟩ := ih fun x hx => h x (List.mem_cons_of_mem _ hx)
      refine ⟨?_, ?_⟩
      · rw [List.map_cons]
        unfold PyData.canLayAll0
        rw [a]
        unfold PyData.canLay0
        rw [(h w List.mem_cons_self).ok]
        rfl
      · rw [List.map_cons]
        unfold PyData.depthAll
        rw [b]
        rfl
  unfold SeqAt.shaped wsD
  unfold PyData.canLay0 PyData.depth
  rw [h1.1, h1.2]
  rfl
theorem ws_nil {k : Nat} {ws : List (List Nat)} (h : Ws k ws) (S : Store) : cmpV .Eq (.d (wsD ws)) (.d (.tuple [])) S = .ok (.d (.bool ws.isEmpty)) S := by
  rw [eq_dd (ws_shaped h) (by decide +kernel)]
  cases ws <;> simp [wsD, PyData.eqv, PyData.eqvAll]
theorem eq_tx (a b : List Nat) (S : Store) : cmpV .Eq (.d (.str (tx a))) (.d (.str (tx b))) S = .ok (.d (.bool (decide (a = b)))) S := by
  rw [eq_ss, tx_beq]
theorem in_23 (i : Int) (S : Store) : cmpV .NotIn (.d (.int i)) (.d (.tuple [.int 2, .int 3])) S = .ok (.d (.bool (!(decide (i = 2) || decide (i = 3))))) S := by
  have h : SeqAt.shaped (.list [.int 2, .int 3]) = true := by decide +kernel
  have e : ([PyData.int 2, .int 3].any fun z => PyData.eqv z (.int i)) = (decide (i = 2) || decide (i = 3)) := by
    show (PyData.eqv (.int 2) (.int i) || (PyData.eqv (.int 3) (.int i) || false)) = _
    rw [eqv_int, eqv_int, Bool.or_false]
    congr 1 <;> (rw [Bool.eq_iff_iff, beq_iff_eq, decide_eq_true_eq]; exact ⟨Eq.symm, Eq.symm⟩)
  show okIf (SeqAt.shaped (.int i) = true ∧ SeqAt.shaped (.list [.int 2, .int 3]) = true) (.bool (!([PyData.int 2, .int 3].any fun z => PyData.eqv z (.int i)))) S = _
  rw [e]
  exact if_pos ⟨rfl, h⟩
theorem nin_bl {k : Nat} {a : List Nat} (h : Asc k a) (S : Store) : cmpV .NotIn (.d (.str (tx a))) (.d (.tuple [.str (tx beginL), .str (tx lineL)])) S = .ok (.d (.bool (!(decide (a = beginL) || decide (a = lineL))))) S := by
  rw [notin_tuple2 h.ok (by decide +kernel) (by decide +kernel), tx_beq, tx_beq]
  rw [show decide (beginL = a) = decide (a = beginL) from decide_eq_decide.mpr ⟨Eq.symm, Eq.symm⟩, show decide (lineL = a) = decide (a = lineL) from decide_eq_decide.mpr ⟨Eq.symm, Eq.symm⟩]
theorem r_is_tuple {n : Nat} (hn : 0 < n) (ds : List PyData) (i : Int) (S : Store) : sem G T n 0 [.d (.tuple ds), .d (.int i)] S = .ok (.d (.bool (decide ((ds.length : Int) = i)))) S := by
  obtain ⟨n', rfl⟩ : ∃ m, n = m + 1 := ⟨n - 1, by omega⟩
  refine ok_of (gets_sem t_is_tuple rfl ?_)
  simp [dSs, dS, dE, dEs, dAnd, dOr, dT, Ev.tAnd, Ev.tOr, dU, dN, dB2, dIf, dVar, dCst, dO, dC, dI, dCall, dKall, pick, entry, isiV, isiV2, isTys, isTy, tobV, truO, truV, okIf, datOf, seqOf, lstOf, datas, lstV, tupV, elsOf, Out.bind_ok, f_is_tuple]
theorem r_is_entry {n : Nat} (hn : 1 < n) {k : Nat} {ws : List (List Nat)} (h : Ws k ws) (hk : k ≤ 100000) (S : Store) : sem G T n 3 [.d (wsD ws)] S = .ok (.d (.bool (entB ws))) S := by
  obtain ⟨n', rfl⟩ : ∃ m, n = m + 1 := ⟨n - 1, by omega⟩
  have hn' : 0 < n' := by omega
  refine ok_of (gets_sem t_is_entry_any rfl ?_)
  have hq := ws_nil h
  have nm := fun (w : List Nat) (hw : w ∈ ws) => r_is_name hn' (h w hw) hk
  have ty := fun (w : List Nat) (hw : w ∈ ws) => r_is_typed hn' (h w hw) hk
  have g1 := g_drop
  have g2 := g_begin
  have g3 := g_line
  rw [s_drop] at g1
  rw [s_begin] at g2
  rw [s_line] at g3
  match ws, h, hq, nm, ty with
  | [], h, hq, nm, ty =>
    simp [wsD] at hq
    simp [dSs, dS, dE, dEs, dAnd, dOr, dT, Ev.tAnd, Ev.tOr, dU, dN, dB2, dIf, dVar, dCst, dO, dC, dI, dCall, dKall, pick, entry, isiV, isiV2, isTys, isTy, tobV, truO, truV, okIf, datOf, seqOf, lstOf, datas, lstV, tupV, elsOf, Out.bind_ok, f_is_entry_any, wsD, hq, entB]
  | [a], h, hq, nm, ty =>
    simp only [wsD, List.map_cons, List.map_nil] at hq
    have t2 := r_is_tuple hn' [.str (tx a)] 2
    have t3 := r_is_tuple hn' [.str (tx a)] 3
    by_cases h1 : a = dropL
    · subst h1
      simp [-eq_ss, eq_tx, dSs, dS, dE, dEs, dAnd, dOr, dT, Ev.tAnd, Ev.tOr, dU, dN, dB2, dIf, dVar, dCst, dO, dC, dI, dCall, dKall, pick, entry, isiV, isiV2, isTys, isTy, tobV, truO, truV, okIf, datOf, seqOf, lstOf, datas, lstV, tupV, elsOf, Out.bind_ok, f_is_entry_any, wsD, hq, entB, g1, g2, g3, t2, t3]
      try omega
    · simp [-eq_ss, eq_tx, dSs, dS, dE, dEs, dAnd, dOr, dT, Ev.tAnd, Ev.tOr, dU, dN, dB2, dIf, dVar, dCst, dO, dC, dI, dCall, dKall, pick, entry, isiV, isiV2, isTys, isTy, tobV, truO, truV, okIf, datOf, seqOf, lstOf, datas, lstV, tupV, elsOf, Out.bind_ok, f_is_entry_any, wsD, hq, entB, g1, g2, g3, t2, t3, h1]
      try omega
  | [a, b], h, hq, nm, ty =>
    simp only [wsD, List.map_cons, List.map_nil] at hq
    have t2 := r_is_tuple hn' [.str (tx a), .str (tx b)] 2
    have t3 := r_is_tuple hn' [.str (tx a), .str (tx b)] 3
    have nb := nm b (by simp)
    by_cases h1 : a = dropL
    · subst h1
      simp [-eq_ss, eq_tx, dSs, dS, dE, dEs, dAnd, dOr, dT, Ev.tAnd, Ev.tOr, dU, dN, dB2, dIf, dVar, dCst, dO, dC, dI, dCall, dKall, pick, entry, isiV, isiV2, isTys, isTy, tobV, truO, truV, okIf, datOf, seqOf, lstOf, datas, lstV, tupV, elsOf, Out.bind_ok, f_is_entry_any, wsD, hq, entB, g1, g2, g3, t2, t3, nb]
    · simp [-eq_ss, eq_tx, dSs, dS, dE, dEs, dAnd, dOr, dT, Ev.tAnd, Ev.tOr, dU, dN, dB2, dIf, dVar, dCst, dO, dC, dI, dCall, dKall, pick, entry, isiV, isiV2, isTys, isTy, tobV, truO, truV, okIf, datOf, seqOf, lstOf, datas, lstV, tupV, elsOf, Out.bind_ok, f_is_entry_any, wsD, hq, entB, g1, g2, g3, t2, t3, h1, nb]
  | [a, b, c], h, hq, nm, ty =>
    simp only [wsD, List.map_cons, List.map_nil] at hq
    have t2 := r_is_tuple hn' [.str (tx a), .str (tx b), .str (tx c)] 2
    have t3 := r_is_tuple hn' [.str (tx a), .str (tx b), .str (tx c)] 3
    have nb := nm b (by simp)
    have nc := nm c (by simp)
    have tc := ty c (by simp)
    by_cases h1 : a = dropL
    · subst h1
      simp [-eq_ss, eq_tx, dSs, dS, dE, dEs, dAnd, dOr, dT, Ev.tAnd, Ev.tOr, dU, dN, dB2, dIf, dVar, dCst, dO, dC, dI, dCall, dKall, pick, entry, isiV, isiV2, isTys, isTy, tobV, truO, truV, okIf, datOf, seqOf, lstOf, datas, lstV, tupV, elsOf, Out.bind_ok, f_is_entry_any, wsD, hq, entB, g1, g2, g3, t2, t3, nb, nc, tc, d1, d2]
    · by_cases h2 : a = beginL
      · subst h2
        cases hb : nameB b <;> simp [-eq_ss, eq_tx, dSs, dS, dE, dEs, dAnd, dOr, dT, Ev.tAnd, Ev.tOr, dU, dN, dB2, dIf, dVar, dCst, dO, dC, dI, dCall, dKall, pick, entry, isiV, isiV2, isTys, isTy, tobV, truO, truV, okIf, datOf, seqOf, lstOf, datas, lstV, tupV, elsOf, Out.bind_ok, f_is_entry_any, wsD, hq, entB, g1, g2, g3, t2, t3, nb, nc, tc, d3, d4, hb]
      · by_cases h3 : a = lineL
        · subst h3
          cases hb : nameB b <;> simp [-eq_ss, eq_tx, dSs, dS, dE, dEs, dAnd, dOr, dT, Ev.tAnd, Ev.tOr, dU, dN, dB2, dIf, dVar, dCst, dO, dC, dI, dCall, dKall, pick, entry, isiV, isiV2, isTys, isTy, tobV, truO, truV, okIf, datOf, seqOf, lstOf, datas, lstV, tupV, elsOf, Out.bind_ok, f_is_entry_any, wsD, hq, entB, g1, g2, g3, t2, t3, nb, nc, tc, d5, d6, hb]
        · cases hb : nameB b <;> simp [-eq_ss, eq_tx, dSs, dS, dE, dEs, dAnd, dOr, dT, Ev.tAnd, Ev.tOr, dU, dN, dB2, dIf, dVar, dCst, dO, dC, dI, dCall, dKall, pick, entry, isiV, isiV2, isTys, isTy, tobV, truO, truV, okIf, datOf, seqOf, lstOf, datas, lstV, tupV, elsOf, Out.bind_ok, f_is_entry_any, wsD, hq, entB, g1, g2, g3, t2, t3, nb, nc, tc, h1, h2, h3, hb]
  | a :: b :: c :: d :: r, h, hq, nm, ty =>
    simp only [wsD, List.map_cons, List.map_nil] at hq
    have t2 := r_is_tuple hn' (.str (tx a) :: .str (tx b) :: .str (tx c) :: .str (tx d) :: r.map fun w => .str (tx w)) 2
    have t3 := r_is_tuple hn' (.str (tx a) :: .str (tx b) :: .str (tx c) :: .str (tx d) :: r.map fun w => .str (tx w)) 3
    by_cases h1 : a = dropL
    · subst h1
      simp [-eq_ss, eq_tx, dSs, dS, dE, dEs, dAnd, dOr, dT, Ev.tAnd, Ev.tOr, dU, dN, dB2, dIf, dVar, dCst, dO, dC, dI, dCall, dKall, pick, entry, isiV, isiV2, isTys, isTy, tobV, truO, truV, okIf, datOf, seqOf, lstOf, datas, lstV, tupV, elsOf, Out.bind_ok, f_is_entry_any, wsD, hq, entB, g1, g2, g3, t2, t3]
      try omega
    · simp [-eq_ss, eq_tx, dSs, dS, dE, dEs, dAnd, dOr, dT, Ev.tAnd, Ev.tOr, dU, dN, dB2, dIf, dVar, dCst, dO, dC, dI, dCall, dKall, pick, entry, isiV, isiV2, isTys, isTy, tobV, truO, truV, okIf, datOf, seqOf, lstOf, datas, lstV, tupV, elsOf, Out.bind_ok, f_is_entry_any, wsD, hq, entB, g1, g2, g3, t2, t3, h1]
      try omega
theorem r_law_entry_ok {n : Nat} (hn : 1 < n) {k : Nat} {ws : List (List Nat)} (h : Ws k ws) (hk : k ≤ 100000) (S : Store) : sem G T n 21 [.d (wsD ws)] S = .ok (.d (.bool (entB ws))) S := by
  obtain ⟨n', rfl⟩ : ∃ m, n = m + 1 := ⟨n - 1, by omega⟩
  have hn' : 0 < n' := by omega
  have nm := fun (w : List Nat) (hw : w ∈ ws) => r_small_name hn' (h w hw) hk
  match ws, h, nm with
  | [], h, nm =>
    refine ok_of (gets_sem t_law_is_entry rfl ?_)
    simp [dSs, dS, dE, dEs, dAnd, dOr, dT, Ev.tAnd, Ev.tOr, dU, dN, dB2, dIf, dVar, dCst, dO, dC, dI, dCall, dKall, pick, entry, isiV, isiV2, isTys, isTy, tobV, truO, truV, okIf, datOf, seqOf, lstOf, datas, lstV, tupV, elsOf, Out.bind_ok, f_law_is_entry, wsD, entB, in_23]
  | [a], h, nm =>
    refine ok_of (gets_sem t_law_is_entry rfl ?_)
    simp [dSs, dS, dE, dEs, dAnd, dOr, dT, Ev.tAnd, Ev.tOr, dU, dN, dB2, dIf, dVar, dCst, dO, dC, dI, dCall, dKall, pick, entry, isiV, isiV2, isTys, isTy, tobV, truO, truV, okIf, datOf, seqOf, lstOf, datas, lstV, tupV, elsOf, Out.bind_ok, f_law_is_entry, wsD, entB, in_23]
  | [a, b], h, nm =>
    refine ok_of (gets_sem t_law_is_entry rfl ?_)
    have nb := nm b (by simp)
    by_cases h1 : a = dropL
    · subst h1
      cases hb : nameB b <;> simp [-eq_ss, eq_tx, dSs, dS, dE, dEs, dAnd, dOr, dT, Ev.tAnd, Ev.tOr, dU, dN, dB2, dIf, dVar, dCst, dO, dC, dI, dCall, dKall, pick, entry, isiV, isiV2, isTys, isTy, tobV, truO, truV, okIf, datOf, seqOf, lstOf, datas, lstV, tupV, elsOf, Out.bind_ok, f_law_is_entry, wsD, entB, s_drop, s_begin, s_line, in_23, nb, hb]
    · cases hb : nameB b <;> simp [-eq_ss, eq_tx, dSs, dS, dE, dEs, dAnd, dOr, dT, Ev.tAnd, Ev.tOr, dU, dN, dB2, dIf, dVar, dCst, dO, dC, dI, dCall, dKall, pick, entry, isiV, isiV2, isTys, isTy, tobV, truO, truV, okIf, datOf, seqOf, lstOf, datas, lstV, tupV, elsOf, Out.bind_ok, f_law_is_entry, wsD, entB, s_drop, s_begin, s_line, in_23, nb, hb, h1]
  | [a, b, c], h, nm =>
    have nb := nm b (by simp)
    have nc := nm c (by simp)
    have hac := h c (by simp)
    have haa := nin_bl (h a (by simp))
    have hl : c.length ≤ sizeLine := line_of (by have := hac.len; omega)
    have e2 : ((c.length : Int) ≤ 60) = (c.length ≤ 60) := by simp; omega
    refine ok_of (gets_sem t_law_is_entry rfl ?_)
    by_cases h1 : a = dropL
    · subst h1
      cases hb : nameB b <;> simp [-eq_ss, eq_tx, dSs, dS, dE, dEs, dAnd, dOr, dT, Ev.tAnd, Ev.tOr, dU, dN, dB2, dIf, dVar, dCst, dO, dC, dI, dCall, dKall, pick, entry, isiV, isiV2, isTys, isTy, tobV, truO, truV, okIf, datOf, seqOf, lstOf, datas, lstV, tupV, elsOf, Out.bind_ok, f_law_is_entry, wsD, entB, s_drop, s_begin, s_line, in_23, nb, hb, d1, d2]
    · by_cases h2 : a = beginL
      · subst h2
        cases hb : nameB b <;> simp [-eq_ss, -notin_tuple2, haa, eq_tx, dSs, dS, dE, dEs, dAnd, dOr, dT, Ev.tAnd, Ev.tOr, dU, dN, dB2, dIf, dVar, dCst, dO, dC, dI, dCall, dKall, pick, entry, isiV, isiV2, isTys, isTy, tobV, truO, truV, okIf, datOf, seqOf, lstOf, datas, lstV, tupV, elsOf, Out.bind_ok, f_law_is_entry, wsD, entB, s_drop, s_begin, s_line, in_23, nb, hb, d3, d4, nc]
      · by_cases h3 : a = lineL
        · subst h3
          cases hb : nameB b
          · simp [-eq_ss, -notin_tuple2, haa, eq_tx, dSs, dS, dE, dEs, dAnd, dOr, dT, Ev.tAnd, Ev.tOr, dU, dN, dB2, dIf, dVar, dCst, dO, dC, dI, dCall, dKall, pick, entry, isiV, isiV2, isTys, isTy, tobV, truO, truV, okIf, datOf, seqOf, lstOf, datas, lstV, tupV, elsOf, Out.bind_ok, f_law_is_entry, wsD, entB, s_drop, s_begin, s_line, in_23, nb, hb, d5, d6, nc]
          · by_cases h4 : c.length ≤ 60
            · have hw : typB c = c.all fun c => decide (32 ≤ c) && decide (c ≤ 126) := by simp [typB, h4]
              simp [-eq_ss, -notin_tuple2, haa, eq_tx, dSs, dS, dE, dEs, dAnd, dOr, dT, Ev.tAnd, Ev.tOr, dU, dN, dB2, dIf, dVar, dCst, dO, dC, dCall, dKall, pick, entry, isiV, isiV2, isTys, isTy, tobV, truO, truV, okIf, datOf, seqOf, lstOf, datas, lstV, tupV, elsOf, Out.bind_ok, f_law_is_entry, wsD, entB, s_drop, s_begin, s_line, in_23, nb, hb, d5, d6, nc, hl, e2, h4]
              refine gets_each (fun c : Nat => Val.d (.str ⟨#[c]⟩)) (fun c => .bool (decide (32 ≤ c) && decide (c ≤ 126))) c (n := none) (S := S) (by simp [dSs, dS, dE, dEs, dAnd, dOr, dT, Ev.tAnd, Ev.tOr, dU, dN, dB2, dIf, dVar, dCst, dO, dC, dI, dCall, dKall, pick, entry, isiV, isiV2, isTys, isTy, tobV, truO, truV, okIf, datOf, seqOf, lstOf, datas, lstV, tupV, elsOf, Out.bind_ok]) trivial (fun c hc => ⟨_, rfl, by by_cases h1 : 32 ≤ c <;> by_cases h2 : c ≤ 126 <;> simp [dSs, dS, dE, dEs, dAnd, dOr, dT, Ev.tAnd, Ev.tOr, dU, dN, dB2, dIf, dVar, dCst, dO, dC, dI, dCall, dKall, pick, entry, isiV, isiV2, isTys, isTy, tobV, truO, truV, okIf, datOf, seqOf, lstOf, datas, lstV, tupV, elsOf, Out.bind_ok, wipeD, tl_sp, tl_ti, List.cons_lt_cons_iff, h1, h2] <;> omega⟩) hl ?_
              simp [dSs, dS, dE, dEs, dAnd, dOr, dT, Ev.tAnd, Ev.tOr, dU, dN, dB2, dIf, dVar, dCst, dO, dC, dI, dCall, dKall, pick, entry, isiV, isiV2, isTys, isTy, tobV, truO, truV, okIf, datOf, seqOf, lstOf, datas, lstV, tupV, elsOf, Out.bind_ok, hw, bools_map (fun c => decide (32 ≤ c) && decide (c ≤ 126)), List.all_map]
              try rfl
            · have hw : typB c = false := by simp [typB, h4]
              simp [-eq_ss, -notin_tuple2, haa, eq_tx, dSs, dS, dE, dEs, dAnd, dOr, dT, Ev.tAnd, Ev.tOr, dU, dN, dB2, dIf, dVar, dCst, dO, dC, dCall, dKall, pick, entry, isiV, isiV2, isTys, isTy, tobV, truO, truV, okIf, datOf, seqOf, lstOf, datas, lstV, tupV, elsOf, Out.bind_ok, f_law_is_entry, wsD, entB, s_drop, s_begin, s_line, in_23, nb, hb, d5, d6, nc, hl, e2, h4, hw]
        · cases hb : nameB b <;> simp [-eq_ss, -notin_tuple2, haa, eq_tx, dSs, dS, dE, dEs, dAnd, dOr, dT, Ev.tAnd, Ev.tOr, dU, dN, dB2, dIf, dVar, dCst, dO, dC, dI, dCall, dKall, pick, entry, isiV, isiV2, isTys, isTy, tobV, truO, truV, okIf, datOf, seqOf, lstOf, datas, lstV, tupV, elsOf, Out.bind_ok, f_law_is_entry, wsD, entB, s_drop, s_begin, s_line, in_23, nb, hb, h1, h2, h3, nc]
  | a :: b :: c :: d :: r, h, nm =>
    refine ok_of (gets_sem t_law_is_entry rfl ?_)
    have e : (in_23 (((r.length : Int) + 1 + 1 + 1) + 1)) = in_23 (((r.length : Int) + 1 + 1 + 1) + 1) := rfl
    have n1 : ¬ ((r.length : Int) + 1 + 1 + 1 + 1 = 2) := by omega
    have n2 : ¬ ((r.length : Int) + 1 + 1 + 1 + 1 = 3) := by omega
    simp [dSs, dS, dE, dEs, dAnd, dOr, dT, Ev.tAnd, Ev.tOr, dU, dN, dB2, dIf, dVar, dCst, dO, dC, dI, dCall, dKall, pick, entry, isiV, isiV2, isTys, isTy, tobV, truO, truV, okIf, datOf, seqOf, lstOf, datas, lstV, tupV, elsOf, Out.bind_ok, f_law_is_entry, wsD, entB, in_23, n1, n2]
end HT
end

section
set_option Elab.async false
set_option linter.all false
set_option maxRecDepth 100000
set_option maxHeartbeats 4000000
/-! T5: rows read -/
namespace HT
open PySem PySem.Spec L2 Ev
theorem jn_asc {k : Nat} {c : Nat} (hc : c < 128) : ∀ {ws : List (List Nat)}, Ws k ws → Asc ((k + 1) * ws.length) (jn c ws)
  | [], _ => Asc.nil
  | [a], h => (h a (by simp)).up (by simp)
  | a :: b :: r, h => by
    have h1 := h a (by simp)
    have h2 := jn_asc hc (ws := b :: r) fun w hw => h w (List.mem_cons_of_mem _ hw)
    refine h1.app (Asc.cons hc h2 (Nat.le_refl _)) ?_
    simp only [List.length_cons, Nat.mul_add]
    omega
theorem strs_ws (ws : List (List Nat)) : strsOf (ws.map fun w => PyData.str (tx w)) = some (ws.map tx) := strs_map tx ws
theorem lens_sum {k : Nat} : ∀ {ws : List (List Nat)}, Ws k ws → ((ws.map tx).map (·.length)).sum ≤ k * ws.length
  | [], _ => by simp
  | a :: r, h => by
    have h1 := (h a (by simp)).len
    have h2 := lens_sum (ws := r) fun w hw => h w (List.mem_cons_of_mem _ hw)
    simp only [List.map_cons, List.sum_cons, tx_len, List.length_cons, Nat.mul_add]
    omega
theorem join_ok {k : Nat} {ws : List (List Nat)} (h : Ws k ws) (hk : k * ws.length + ws.length ≤ 160000) (c : Nat) (S : Store) (u : Val) (hu : u = .d (wsD ws) ∨ u = .d (.list (ws.map fun w => .str (tx w)))) : smV .join (tx [c]) [u] S = .ok (.d (.str (tx (jn c ws)))) S := by
  have e : smV .join (tx [c]) [u] S = okIf (((ws.map tx).map (·.length)).sum + (ws.map tx).length * (tx [c]).length ≤ 16777216) (.str (Txt.join (tx [c]) (ws.map tx))) S := by
    rcases hu with rfl | rfl
    · show (match (some (ws.map fun w => PyData.str (tx w))).bind strsOf with | some ys => _ | none => _) = _
      rw [Option.bind_some, strs_ws]
    · show (match (some (ws.map fun w => PyData.str (tx w))).bind strsOf with | some ys => _ | none => _) = _
      rw [Option.bind_some, strs_ws]
  rw [e, join_1]
  refine if_pos ?_
  have := lens_sum h
  simp only [List.length_map, tx_len, List.length_cons, List.length_nil] at this ⊢
  omega
theorem r_row_told {n : Nat} (hn : 2 < n) {k : Nat} {ws : List (List Nat)} (h : Ws k ws) (hk : (k + 1) * ws.length ≤ 100000) (S : Store) : sem G T n 6 [.d (wsD ws)] S = .ok (.d (.str (tx (rowL (jn 32 ws) ++ [10])))) S := by
  obtain ⟨n', rfl⟩ : ∃ m, n = m + 1 := ⟨n - 1, by omega⟩
  refine ok_of (gets_sem t_row_told rfl ?_)
  have hs := r_summed (n := n') (by omega) (jn_asc (by decide : 32 < 128) h) hk
  have hj := fun S => join_ok h (by rw [Nat.add_mul] at hk; omega) 32 S _ (.inl rfl)
  simp [dSs, dS, dE, dEs, dAnd, dOr, dT, Ev.tAnd, Ev.tOr, dU, dN, dB2, dIf, dVar, dCst, dO, dC, dI, dCall, dKall, pick, entry, isiV, isiV2, isTys, isTy, tobV, truO, truV, okIf, datOf, seqOf, lstOf, datas, lstV, tupV, elsOf, Out.bind_ok, f_row_told, strO, hj, hs, blank_tx]
theorem toStr_num (m : Nat) : ((toString ((m : Nat) : Int) : String) : Str) = tx (num m) := num_str m
theorem r_law_row {n : Nat} (hn : 1 < n) {k : Nat} {ws : List (List Nat)} (h : Ws k ws) (hk : (k + 1) * ws.length ≤ 100000) (S : Store) : sem G T n 19 [.d (wsD ws)] S = .ok (.d (.str (tx (rowL (jn 32 ws) ++ [10])))) S := by
  obtain ⟨n', rfl⟩ : ∃ m, n = m + 1 := ⟨n - 1, by omega⟩
  refine ok_of (gets_sem t_law_row rfl ?_)
  have ha := jn_asc (by decide : 32 < 128) h
  have hs := r_law_sum (n := n') (by omega) ha hk
  have hj := fun S => join_ok h (by rw [Nat.add_mul] at hk; omega) 32 S _ (.inl rfl)
  have hg := lg (n := sumN (jn 32 ws)) (Nat.lt_trans (sumN_lt _) (by decide))
  have z : ∀ m, m ≤ 160000 → m ≤ sizeLine := fun m => line_of
  have h1 := (sum_asc (jn 32 ws)).len
  have h2 := ha.len
  simp [dSs, dS, dE, dEs, dAnd, dOr, dT, Ev.tAnd, Ev.tOr, dU, dN, dB2, dIf, dVar, dCst, dO, dC, dI, dCall, dKall, pick, entry, isiV, isiV2, isTys, isTy, tobV, truO, truV, okIf, datOf, seqOf, lstOf, datas, lstV, tupV, elsOf, Out.bind_ok, f_law_row, strO, hj, hs, hg, tgt, num_repr, blank_tx, feed_tx, tx_cat, rowL]
  repeat' first | exact z _ (by omega) | intro _ | constructor
/-- a body with its right sum -/
def bodyO (l : List Nat) : Option (List Nat) := match fnd 32 l with
  | none => none
  | some j => if rowL (l.drop (j + 1)) = l then some (l.drop (j + 1)) else none
def strN : Option (List Nat) → PyData
  | none => .none
  | some b => .str (tx b)
def ixI (p : Nat) : Option Nat → Int
  | none => -1
  | some j => ((p + j : Nat) : Int)
theorem find_ok (l : List Nat) (c : Nat) (S : Store) : smV .find (tx l) [.d (.str (tx [c]))] S = .ok (.d (.int (ixI 0 (fnd c l)))) S := by
  show Out.ok (Val.d (.int (Txt.find (tx l) (tx [c])))) S = _
  rw [find_1]
  cases fnd c l <;> simp [ixI]
theorem find3_ok (l : List Nat) (c k : Nat) (S : Store) : smV .findN (tx l) [.d (.str (tx [c])), .d (.int (k : Int))] S = .ok (.d (.int (ixI k (fnd c (l.drop k))))) S := by
  show Out.ok (Val.d (.int (Txt.find3 (tx l) (tx [c]) k))) S = _
  rw [find3_1]
  cases fnd c (l.drop k) <;> simp [ixI]
theorem cut_fr (l : List Nat) (j : Nat) : cutS (tx l) (some ((j : Int) + 1)) none = tx (l.drop (j + 1)) := by
  rw [cut_tx, show ((j : Int) + 1) = ((j + 1 : Nat) : Int) by simp, cut_from]
theorem r_body_told {n : Nat} (hn : 2 < n) {k : Nat} {l : List Nat} (h : Asc k l) (hk : k ≤ 90000) (S : Store) : sem G T n 7 [.d (.str (tx l))] S = .ok (.d (strN (bodyO l))) S := by
  obtain ⟨n', rfl⟩ : ∃ m, n = m + 1 := ⟨n - 1, by omega⟩
  refine ok_of (gets_sem t_body_told rfl ?_)
  have hl : l.length ≤ sizeLine := line_of (by have := h.len; omega)
  have hl1 : l.length + 1 ≤ sizeLine := line_of (by have := h.len; omega)
  have hf := fun S => find_ok l 32 S
  cases e : fnd 32 l with
  | none =>
    simp only [e, ixI, Nat.zero_add] at hf
    simp [dSs, dS, dE, dEs, dAnd, dOr, dT, Ev.tAnd, Ev.tOr, dU, dN, dB2, dIf, dVar, dCst, dO, dC, dI, dCall, dKall, pick, entry, isiV, isiV2, isTys, isTy, tobV, truO, truV, okIf, datOf, seqOf, lstOf, datas, lstV, tupV, elsOf, Out.bind_ok, f_body_told, strO, hf, tgt, bodyO, e, strN, blank_tx]
  | some j =>
    simp only [e, ixI, Nat.zero_add] at hf
    have hs := r_summed (n := n') (by omega) (h.drop (j + 1)) (by omega)
    have e3 : ∀ a : List Nat, ((tx (a ++ [10])) == (tx (l ++ [10]))) = decide (a = l) := fun a => by
      rw [tx_beq]
      exact decide_eq_decide.mpr ⟨fun h => List.append_cancel_right h, fun h => by rw [h]⟩
    have hneg : ¬ ((j : Int) < 0) := by omega
    by_cases hr : rowL (l.drop (j + 1)) = l
    · have e4 := e3 (rowL (l.drop (j + 1)))
      rw [decide_eq_true hr] at e4
      simp [dSs, dS, dE, dEs, dAnd, dOr, dT, Ev.tAnd, Ev.tOr, dU, dN, dB2, dIf, dVar, dCst, dO, dC, dI, dCall, dKall, pick, entry, isiV, isiV2, isTys, isTy, tobV, truO, truV, okIf, datOf, seqOf, lstOf, datas, lstV, tupV, elsOf, Out.bind_ok, f_body_told, strO, hf, tgt, bodyO, e, strN, hl, hl1, hs, cut_fr, feed_tx, blank_tx, tx_cat, e4, hr, hneg]
    · have e4 := e3 (rowL (l.drop (j + 1)))
      rw [decide_eq_false hr] at e4
      simp [dSs, dS, dE, dEs, dAnd, dOr, dT, Ev.tAnd, Ev.tOr, dU, dN, dB2, dIf, dVar, dCst, dO, dC, dI, dCall, dKall, pick, entry, isiV, isiV2, isTys, isTy, tobV, truO, truV, okIf, datOf, seqOf, lstOf, datas, lstV, tupV, elsOf, Out.bind_ok, f_body_told, strO, hf, tgt, bodyO, e, strN, hl, hl1, hs, cut_fr, feed_tx, blank_tx, tx_cat, e4, hr, hneg]
def entN : Option (List (List Nat)) → PyData
  | none => .none
  | some ws => wsD ws
theorem spl_asc {k : Nat} {c : Nat} : ∀ (l : List Nat) (m : Nat) (acc : List Nat), Asc k (acc ++ l) → Ws k (spl c m acc l)
  | [], m, acc, h => by
    rw [spl_nil]
    intro w hw
    rw [List.mem_singleton.mp hw]
    simpa using h
  | a :: l, 0, acc, h => by
    intro w hw
    rw [spl_0] at hw
    rw [List.mem_singleton.mp hw]
    exact h
  | a :: l, m + 1, acc, h => by
    unfold spl
    split
    · intro w hw
      rcases List.mem_cons.mp hw with rfl | hw
      · exact ⟨by have := h.len; simp at this; omega, fun c hc => h.cs c (by simp [hc])⟩
      · exact spl_asc l m [] ⟨by have := h.len; simp at this ⊢; omega, fun c hc => h.cs c (by simp at hc ⊢; simp [hc])⟩ w hw
    · exact spl_asc l (m + 1) (acc ++ [a]) (by simpa using h)
theorem splitN_ok {k : Nat} {l : List Nat} (h : Asc k l) (hk : k ≤ 100000) (m : Nat) (hm : m ≤ 100) (S : Store) : smV .splitN (tx l) [.d (.str (tx [32])), .d (.int (m : Int))] S = .ok (.d (.list ((spl 32 m [] l).map fun w => .str (tx w)))) S := by
  show okIf (((tx [32]).length == 0) = false ∧ -(2 ^ 63) ≤ (m : Int) ∧ (m : Int) < 2 ^ 63 ∧ (tx l).length + 2 ≤ sizeLine) (.list ((Txt.splitMax (tx l) (tx [32]) m).map .str)) S = _
  rw [splitMax_1 _ (by decide), List.map_map]
  refine if_pos ⟨rfl, by omega, by omega, line_of ?_⟩
  have := h.len
  rw [tx_len]
  omega
theorem r_entry_told {n : Nat} (hn : 2 < n) {k : Nat} {l : List Nat} (h : Asc k l) (hk : k ≤ 90000) (S : Store) : sem G T n 8 [.d (.str (tx l))] S = .ok (.d (entN (if entB (spl 32 2 [] l) = true then some (spl 32 2 [] l) else none))) S := by
  obtain ⟨n', rfl⟩ : ∃ m, n = m + 1 := ⟨n - 1, by omega⟩
  refine ok_of (gets_sem t_entry_told rfl ?_)
  have hw : Ws k (spl 32 2 [] l) := spl_asc l 2 [] (by simpa using h)
  have hs : ∀ S, smV .splitN (tx l) [.d (.str (tx [32])), .d (.int 2)] S = .ok (.d (.list ((spl 32 2 [] l).map fun w => .str (tx w)))) S := fun S => splitN_ok h (by omega) 2 (by decide) S
  have he := r_is_entry (n := n') (by omega) hw (by omega)
  unfold wsD at he
  cases hb : entB (spl 32 2 [] l)
  · rw [hb] at he
    simp [dSs, dS, dE, dEs, dAnd, dOr, dT, Ev.tAnd, Ev.tOr, dU, dN, dB2, dIf, dVar, dCst, dO, dC, dI, dCall, dKall, pick, entry, isiV, isiV2, isTys, isTy, tobV, truO, truV, okIf, datOf, seqOf, lstOf, datas, lstV, tupV, elsOf, Out.bind_ok, f_entry_told, strO, hs, tgt, he, entN, blank_tx]
  · rw [hb] at he
    simp [dSs, dS, dE, dEs, dAnd, dOr, dT, Ev.tAnd, Ev.tOr, dU, dN, dB2, dIf, dVar, dCst, dO, dC, dI, dCall, dKall, pick, entry, isiV, isiV2, isTys, isTy, tobV, truO, truV, okIf, datOf, seqOf, lstOf, datas, lstV, tupV, elsOf, Out.bind_ok, f_entry_told, strO, hs, tgt, he, entN, wsD, blank_tx]
end HT
end

section
set_option Elab.async false
set_option linter.all false
set_option maxRecDepth 100000
set_option maxHeartbeats 4000000
/-! QP: draws -/
namespace HT
open PySem PySem.Spec L2 Ev
def PotO (o : Ob) : Prop := ∃ a b : Int, o = .lst [.int a, .int b] ∧ 0 ≤ a ∧ 0 ≤ b ∧ b < 2147483587
def Pot (p : Nat) (S : Store) : Prop := ∃ o, S[p]? = some o ∧ PotO o
theorem Pot.lt {p : Nat} {S : Store} (h : Pot p S) : p < S.length := let ⟨_, e, _⟩ := h; (List.getElem?_eq_some_iff.mp e).1
theorem Pot.set {p : Nat} {S : Store} {o : Ob} (h : Pot p S) (ho : PotO o) : Pot p (S.set p o) := ⟨o, List.getElem?_set_self h.lt, ho⟩
theorem Pot.app {p : Nat} {S T : Store} (h : Pot p S) : Pot p (S ++ T) := let ⟨o, e, ho⟩ := h; ⟨o, by rw [List.getElem?_append_left (List.getElem?_eq_some_iff.mp e).1]; exact e, ho⟩
theorem r_draw {n : Nat} (hn : 0 < n) {p : Nat} {m : Int} {S : Store} (h : Pot p S) (hm : 0 < m) (hm2 : m < 1073741824) :
    Gets (sem G T n 16 [.loc p, .d (.int m)] S) fun v S' => ∃ d o, v = .d (.int d) ∧ 0 ≤ d ∧ d < m ∧ PotO o ∧ S' = S.set p o := by
  obtain ⟨n', rfl⟩ : ∃ m, n = m + 1 := ⟨n - 1, by omega⟩
  have hp := h.lt
  obtain ⟨_, hS, a, b, rfl, ha, hb, hb2⟩ := h
  refine gets_sem t_law_draw rfl ?_
  have g1 := fun (o : Ob) => List.getElem?_set_self (l := S) (i := p) (a := o) hp
  simp [dSs, dS, dE, dEs, dAnd, dOr, dT, Ev.tAnd, Ev.tOr, dU, dN, dB2, dIf, dVar, dCst, dO, dC, dI, dCall, dKall, pick, entry, isiV, isiV2, isTys, isTy, tobV, truO, truV, okIf, datOf, seqOf, lstOf, datas, lstV, tupV, elsOf, Out.bind_ok, f_law_draw, atI, unpD, ixN, idx_loc hS, set_loc hS, idx_loc (g1 _), hm, hm2]
  refine ⟨fun _ => ?_, fun _ => ?_⟩
  · exact ⟨Int.emod_nonneg _ (by omega), Int.emod_lt_of_pos _ hm, _, ⟨_, _, rfl, Int.ediv_nonneg ha (by omega), hb, hb2⟩, rfl⟩
  · have e1 := Int.fmod_nonneg_of_pos (b * 39373 + 10477) (b := 2147483587) (by decide)
    have e2 := Int.fmod_lt_of_pos (b * 39373 + 10477) (b := 2147483587) (by decide)
    refine ⟨fun _ _ => ?_, by omega, by omega⟩
    exact ⟨by omega, fun _ => ⟨Int.fmod_nonneg_of_pos _ hm, Int.fmod_lt_of_pos _ hm, _, ⟨_, _, rfl, ha, e1, e2⟩, rfl⟩⟩
/-- some[draw] -/
theorem r_pick {n : Nat} (hn : 1 < n) {p : Nat} {some : List PyData} {S : Store} (h : Pot p S) (h0 : some ≠ []) (hm : some.length < 1073741824) (x : PyData) (hx : x = .list some ∨ x = .tuple some) :
    Gets (sem G T n 17 [.loc p, .d x] S) fun v S' => ∃ d ∈ some, ∃ o, v = .d d ∧ PotO o ∧ S' = S.set p o := by
  obtain ⟨n', rfl⟩ : ∃ m, n = m + 1 := ⟨n - 1, by omega⟩
  refine gets_sem t_law_pick rfl ?_
  have hl : 0 < some.length := List.length_pos_iff.mpr h0
  obtain ⟨v, S', e, d, o, rfl, h1, h2, h3, rfl⟩ := r_draw (n := n') (by omega) h (m := some.length) (by omega) (by omega)
  have hd : d.toNat < some.length := by omega
  have e2 : atI some d = some[d.toNat]? := by
    unfold atI ixN
    rw [if_pos h1, if_pos h2]
    rfl
  rcases hx with rfl | rfl
  · simp [dSs, dS, dE, dEs, dAnd, dOr, dT, Ev.tAnd, Ev.tOr, dU, dN, dB2, dIf, dVar, dCst, dO, dC, dI, dCall, dKall, pick, entry, isiV, isiV2, isTys, isTy, tobV, truO, truV, okIf, datOf, seqOf, lstOf, datas, lstV, tupV, elsOf, Out.bind_ok, f_law_pick, e, e2, List.getElem?_eq_getElem hd]
    exact ⟨_, List.getElem_mem hd, rfl, o, h3, rfl⟩
  · simp [dSs, dS, dE, dEs, dAnd, dOr, dT, Ev.tAnd, Ev.tOr, dU, dN, dB2, dIf, dVar, dCst, dO, dC, dI, dCall, dKall, pick, entry, isiV, isiV2, isTys, isTy, tobV, truO, truV, okIf, datOf, seqOf, lstOf, datas, lstV, tupV, elsOf, Out.bind_ok, f_law_pick, e, e2, List.getElem?_eq_getElem hd]
    exact ⟨_, List.getElem_mem hd, rfl, o, h3, rfl⟩
theorem pot_o (c k : Int) : PotO (.lst [.int (if 1000000000000000000 < c then c - 1000000000000000000 else 0), .int ((c.fmod 2147483549 * 41863 + 10463 * k + 103).fmod 2147483563 + 1)]) := by
  refine ⟨_, _, rfl, ?_, ?_, ?_⟩
  · split <;> omega
  · have e1 := Int.fmod_nonneg_of_pos (c.fmod 2147483549 * 41863 + 10463 * k + 103) (b := 2147483563) (by decide)
    omega
  · have e2 := Int.fmod_lt_of_pos (c.fmod 2147483549 * 41863 + 10463 * k + 103) (b := 2147483563) (by decide)
    omega
/-! ### comprehensions of draws -/
def Rel2 {α β : Type} (R : α → β → Prop) : List α → List β → Prop
  | [], [] => True
  | a :: as, b :: bs => R a b ∧ Rel2 R as bs
  | _, _ => False
theorem Rel2.len {α β : Type} {R : α → β → Prop} : ∀ {as : List α} {bs : List β}, Rel2 R as bs → bs.length = as.length
  | [], [], _ => rfl
  | _ :: _, _ :: _, h => congrArg Nat.succ (Rel2.len h.2)
  | [], _ :: _, h => h.elim
  | _ :: _, [], h => h.elim
theorem Rel2.mem {α β : Type} {R : α → β → Prop} : ∀ {as : List α} {bs : List β}, Rel2 R as bs → ∀ b ∈ bs, ∃ a ∈ as, R a b
  | [], [], _, b, hb => by cases hb
  | a :: as, c :: bs, h, b, hb => by
    rcases List.mem_cons.mp hb with e | hb
    · rw [e]; exact ⟨a, List.mem_cons_self, h.1⟩
    · obtain ⟨x, h1, h2⟩ := Rel2.mem h.2 b hb
      exact ⟨x, List.mem_cons_of_mem _ h1, h2⟩
  | [], _ :: _, h, _, _ => h.elim
  | _ :: _, [], h, _, _ => h.elim
theorem gets_lcR {α : Type} {p : Nat} {w : Itm} {tg : Tg} {elt : TD Val} {ρ : EnvD} {R : α → PyData → Prop} (g : α → Val) (hck : w.n = none) : ∀ (l : List α) (acc : List PyData) (S : Store), acc.length + l.length ≤ sizeLine → Pot p S →
    (∀ a ∈ l, ∀ S, Pot p S → ∃ ρ1, tgt tg (g a) ρ = some ρ1 ∧ Gets (elt ρ1 S) fun x S' => ∃ d o, x = .d d ∧ R a d ∧ PotO o ∧ S' = S.set p o) →
    Gets (lcD w tg (fun _ S => .ok true S) elt ρ (l.map g) acc S) fun ds S' => ∃ es o, ds = acc ++ es ∧ Rel2 R l es ∧ PotO o ∧ S' = S.set p o
  | [], acc, S, _, hp, _ => by
    have hc : w.ck S := by unfold Itm.ck; rw [hck]; trivial
    obtain ⟨o, ho, hpo⟩ := hp
    rw [List.map_nil]
    unfold lcD
    rw [if_pos hc]
    refine ⟨_, _, rfl, [], o, by simp, True.intro, hpo, ?_⟩
    obtain ⟨hl, e⟩ := List.getElem?_eq_some_iff.mp ho
    rw [← e, List.set_getElem_self]
  | a :: l, acc, S, hz, hp, h => by
    have hc : w.ck S := by unfold Itm.ck; rw [hck]; trivial
    obtain ⟨ρ1, h1, x, S1, h2, d, o, rfl, hR, hpo, rfl⟩ := h a List.mem_cons_self S hp
    rw [List.length_cons] at hz
    rw [List.map_cons]
    unfold lcD
    rw [if_pos hc, h1]
    dsimp only
    rw [h2]
    dsimp only
    rw [if_pos (by omega)]
    obtain ⟨ds, S2, e, es, o2, rfl, hr, hp2, rfl⟩ := gets_lcR g hck l (acc ++ [d]) (S.set p o) (by rw [List.length_append, List.length_singleton]; omega) (hp.set hpo) fun b hb => h b (List.mem_cons_of_mem _ hb)
    refine ⟨_, _, e, d :: es, o2, by simp, ⟨hR, hr⟩, hp2, by rw [List.set_set]⟩
/-- a comprehension whose turns draw -/
theorem gets_lcD {α : Type} {p : Nat} {it : TD Itm} {tg : Tg} {own : List Nat} {elt : TD Val} {ρ : EnvD} {R : α → PyData → Prop} {S S0 : Store} {Q : Val → Store → Prop} (g : α → Val) (l : List α) (hi : it ρ S0 = .ok ⟨l.map g, none⟩ S) (hz : l.length ≤ sizeLine) (hp : Pot p S)
    (h : ∀ a ∈ l, ∀ S, Pot p S → ∃ ρ1, tgt tg (g a) (wipeD ρ own) = some ρ1 ∧ Gets (elt ρ1 S) fun x S' => ∃ d o, x = .d d ∧ R a d ∧ PotO o ∧ S' = S.set p o)
    (q : ∀ es o, Rel2 R l es → PotO o → Q (.d (.list es)) (S.set p o)) : Gets (dLc false it own tg (fun _ S => .ok true S) elt ρ S0) Q := by
  refine gets_dLc ⟨_, _, hi, ?_⟩
  obtain ⟨ds, S2, e, es, o, rfl, hr, hp2, rfl⟩ := gets_lcR (w := ⟨l.map g, none⟩) g rfl l [] S (by simpa using hz) hp h
  refine ⟨_, _, e, ?_⟩
  simp
  exact q _ o hr hp2
/-- .. over range(k) -/
theorem gets_lcN {p : Nat} {it : TD Itm} {tg : Tg} {own : List Nat} {elt : TD Val} {ρ : EnvD} {R : PyData → Prop} {S S0 : Store} {Q : Val → Store → Prop} (lo : Int) (k : Nat) (hi : it ρ S0 = .ok (rngI lo k) S) (hz : k ≤ sizeLine) (hp : Pot p S)
    (h : ∀ i, i < k → ∀ S, Pot p S → ∃ ρ1, tgt tg (.d (.int (lo + (i : Int)))) (wipeD ρ own) = some ρ1 ∧ Gets (elt ρ1 S) fun x S' => ∃ d o, x = .d d ∧ R d ∧ PotO o ∧ S' = S.set p o)
    (q : ∀ es o, es.length = k → (∀ d ∈ es, R d) → PotO o → Q (.d (.list es)) (S.set p o)) : Gets (dLc false it own tg (fun _ S => .ok true S) elt ρ S0) Q := by
  refine gets_lcD (R := fun _ d => R d) (fun (i : Nat) => Val.d (.int (lo + (i : Int)))) (List.range k) hi (by simpa using hz) hp (fun i hi => h i (List.mem_range.mp hi)) fun es o hr ho => q es o (by simpa using hr.len) (fun d hd => ?_) ho
  obtain ⟨_, _, h⟩ := hr.mem d hd
  exact h
end HT
end

section
set_option Elab.async false
set_option linter.all false
set_option maxRecDepth 100000
set_option maxHeartbeats 4000000
/-! T6: a text's rows -/
namespace HT
open PySem PySem.Spec L2 Ev
/-- the rows that end in a line feed -/
def rowsL : List Nat → List Nat → List (List Nat)
  | _, [] => []
  | acc, a :: r => if a = 10 then acc :: rowsL [] r else rowsL (acc ++ [a]) r
theorem rowsL_app : ∀ {p : List Nat} (acc q : List Nat), 10 ∉ p → rowsL acc (p ++ 10 :: q) = (acc ++ p) :: rowsL [] q
  | [], acc, q, _ => by simp [rowsL]
  | a :: p, acc, q, h => by
    have h1 : a ≠ 10 := fun e => h (by simp [e])
    have h2 : 10 ∉ p := fun e => h (by simp [e])
    show (if a = 10 then acc :: rowsL [] (p ++ 10 :: q) else rowsL (acc ++ [a]) (p ++ 10 :: q)) = _
    rw [if_neg h1, rowsL_app (acc ++ [a]) q h2]
    simp
theorem rowsL_free : ∀ {p : List Nat} (acc : List Nat), 10 ∉ p → rowsL acc p = []
  | [], acc, _ => rfl
  | a :: p, acc, h => by
    have h1 : a ≠ 10 := fun e => h (by simp [e])
    have h2 : 10 ∉ p := fun e => h (by simp [e])
    show (if a = 10 then acc :: rowsL [] p else rowsL (acc ++ [a]) p) = _
    rw [if_neg h1, rowsL_free _ h2]
theorem rowsL_spl : ∀ (l acc : List Nat) (k : Nat), l.length < k → (spl 10 k acc l).dropLast = rowsL acc l
  | [], acc, k, _ => by rw [spl_nil]; rfl
  | a :: l, acc, 0, h => by simp at h
  | a :: l, acc, k + 1, h => by
    simp only [List.length_cons] at h
    unfold spl rowsL
    split
    · obtain ⟨x, r, e⟩ := spl_ne 10 l k []
      have ih := rowsL_spl l [] k (by omega)
      rw [e] at ih ⊢
      show acc :: (x :: r).dropLast = _
      rw [ih]
    · exact rowsL_spl l (acc ++ [a]) (k + 1) (by omega)
theorem rowsL_len : ∀ (l acc : List Nat), (rowsL acc l).length ≤ l.length
  | [], acc => by simp [rowsL]
  | a :: l, acc => by
    unfold rowsL
    split
    · have := rowsL_len l []
      simp
      omega
    · have := rowsL_len l (acc ++ [a])
      simp
      omega
def entO (l : List Nat) : Option (List (List Nat)) := match bodyO l with
  | none => none
  | some b => if entB (spl 32 2 [] b) = true then some (spl 32 2 [] b) else none
def rd : List (List Nat) → List (List (List Nat)) → Nat → List (List (List Nat)) × Nat
  | [], f, p => (f, p)
  | r :: rs, f, p => match entO r with
    | none => (f, p)
    | some e => rd rs (f ++ [e]) (p + r.length + 1)
def rdT (l : List Nat) : List (List (List Nat)) × Nat := rd (rowsL [] l) [] 0
theorem gs_whl {c : TD Bool} {body : SD} {N B C : EnvD → Store → Prop} {R : Val → Store → Prop} (I : Nat → EnvD → Store → Prop)
    (step : ∀ m ρ S, I m ρ S → Gets (c ρ S) fun k S1 => if k = true then (∃ m', m = m' + 1 ∧ GS (body ρ S1) (I m') R N (I m')) else N ρ S1) : ∀ (n m : Nat) (ρ : EnvD) (S : Store), m < n → I m ρ S → GS (whlD c body n ρ S) N R B C
  | 0, m, ρ, S, h, _ => absurd h (Nat.not_lt_zero _)
  | n + 1, m, ρ, S, h, hi => by
    obtain ⟨k, S1, e, q⟩ := step m ρ S hi
    unfold whlD
    rw [e]
    show GS (if k = true then _ else _) N R B C
    cases k with
    | false => exact q
    | true =>
      obtain ⟨m', rfl, q⟩ := q
      rw [if_pos rfl]
      cases eb : body ρ S1 with
      | next ρ2 S2 => rw [eb] at q; exact gs_whl I step n m' ρ2 S2 (by omega) q
      | cont ρ2 S2 => rw [eb] at q; exact gs_whl I step n m' ρ2 S2 (by omega) q
      | brk ρ2 S2 => rw [eb] at q; exact q
      | ret u S2 => rw [eb] at q; exact q
      | err x ρ2 S2 => rw [eb] at q; exact q
      | stuck => rw [eb] at q; exact q
theorem back_told {S : Store} {ob : Ob} {p : Int} : back true S.length (.tp [.loc S.length, .d (.int p)]) (S ++ [ob]) = .ok (.tp [.loc S.length, .d (.int p)]) (S ++ [ob]) := by
  simp [back, newEl, oldLoc, allD]
@[simp] theorem is_sn {S : Store} {a : Str} : cmpV .Is (.d (.str a)) (.d .none) S = .ok (.d (.bool false)) S := rfl
theorem tupV_told {S : Store} {n : Nat} {p : Int} : tupV [.loc n, .d (.int p)] S = .ok (.tp [.loc n, .d (.int p)]) S := by
  simp [tupV, datas, elsOf]
theorem is_ent (o : Option (List (List Nat))) (S : Store) : cmpV .Is (.d (entN o)) (.d .none) S = .ok (.d (.bool (decide (o = none)))) S := by
  cases o <;> rfl
def stR (t : List Nat) (n : Nat) (p : Nat) (e : Int) (r4 r5 : Option Val) : EnvD := [some (.d (.str (tx t))), some (.loc n), some (.d (.int (p : Int))), some (.d (.int e)), r4, r5]
theorem cut_pe (l : List Nat) (p j : Nat) (h : p + j ≤ l.length) : cutS (tx l) (some (p : Int)) (some (((p + j : Nat) : Int))) = tx ((l.drop p).take j) := by
  rw [cut_tx, cut_mid _ _ _ h, show p + j - p = j by omega]
/-- one turn of the program's reading -/
theorem turn_told {n : Nat} (hn : 2 < n) {k : Nat} {l : List Nat} (h : Asc k l) (hk : k ≤ 80000) (p j : Nat) (hp : p + j ≤ l.length) (r4 r5 : Option Val) (S : Store) (fs : List PyData) (hf : fs.length ≤ 80000) {N B C : EnvD → Store → Prop} {R : Val → Store → Prop}
    (q0 : entO ((l.drop p).take j) = none → R (.tp [.loc S.length, .d (.int (p : Int))]) (S ++ [.lst fs]))
    (q1 : ∀ ws, entO ((l.drop p).take j) = some ws → ∀ a b, N (stR l S.length (p + j + 1) (ixI (p + j + 1) (fnd 10 (l.drop (p + j + 1)))) a b) (S ++ [.lst (fs ++ [wsD ws])])) :
    ∀ B0, f_rows_told.body = .cons (.par [1, 2, 3] (.cons (.lst true .nil) (.cons (.cst (.int 0)) (.cons (.sme .find (.var 0) (.cons (.cst (.str "\n")) .nil)) .nil)))) (.cons (.whl 1000 (.cmp .GtE (.var 3) (.cst (.int 0))) B0) (.cons (.ret (.tup (.cons (.var 1) (.cons (.var 2) .nil)))) .nil)) →
      GS (dSs G (sem G T n) B0 (stR l S.length p (ixI p (some j)) r4 r5) (S ++ [.lst fs])) N R B C := by
  intro B0 hB
  injection hB with _ hB
  injection hB with hB _
  injection hB with _ _ hB
  subst hB
  have hl : l.length ≤ sizeLine := line_of (by have := h.len; omega)
  have ha := ((h.drop p).take j)
  have hb := r_body_told hn ha (by omega)
  have g1 : (S ++ [Ob.lst fs])[S.length]? = some (.lst fs) := by simp
  have hz : fs.length < sizeLine := by have := @line_of 80001 (by decide); omega
  rw [gs_cons]
  refine gs_of_nextS (ρ := [some (.d (.str (tx l))), some (.loc S.length), some (.d (.int (p : Int))), some (.d (.int ((p + j : Nat) : Int))), some (.d (strN (bodyO ((l.drop p).take j)))), r5]) (S := S ++ [.lst fs]) (by
    simp only [dS, dE, dEs, dO, dCall, dN]
    simp [dSs, dS, dE, dEs, dAnd, dOr, dT, Ev.tAnd, Ev.tOr, dU, dN, dB2, dIf, dVar, dCst, dO, dC, dI, dCall, dKall, pick, entry, isiV, isiV2, isTys, isTy, tobV, truO, truV, okIf, datOf, seqOf, lstOf, datas, lstV, tupV, elsOf, Out.bind_ok, stR, ixI, tgt, Ev.Out.s, hl]
    have e := cut_pe l p j hp
    simp at e
    rw [e, hb]) ?_
  rw [gs_cons]
  refine gs_of_nextS (ρ := [some (.d (.str (tx l))), some (.loc S.length), some (.d (.int (p : Int))), some (.d (.int ((p + j : Nat) : Int))), some (.d (strN (bodyO ((l.drop p).take j)))), some (.d (entN (entO ((l.drop p).take j))))]) (S := S ++ [.lst fs]) (by
    cases eb : bodyO ((l.drop p).take j) with
    | none => simp [dSs, dS, dE, dEs, dAnd, dOr, dT, Ev.tAnd, Ev.tOr, dU, dN, dB2, dIf, dVar, dCst, dO, dC, dI, dCall, dKall, pick, entry, isiV, isiV2, isTys, isTy, tobV, truO, truV, okIf, datOf, seqOf, lstOf, datas, lstV, tupV, elsOf, Out.bind_ok, strN, entO, eb, entN, tgt, Ev.Out.s]
    | some b =>
      have hab : Asc k b := by
        unfold bodyO at eb
        split at eb
        · cases eb
        · split at eb
          · cases eb; exact ha.drop _
          · cases eb
      have he := r_entry_told hn hab (by omega)
      simp [dSs, dS, dE, dEs, dAnd, dOr, dT, Ev.tAnd, Ev.tOr, dU, dN, dB2, dIf, dVar, dCst, dO, dC, dI, dCall, dKall, pick, entry, isiV, isiV2, isTys, isTy, tobV, truO, truV, okIf, datOf, seqOf, lstOf, datas, lstV, tupV, elsOf, Out.bind_ok, strN, entO, eb, tgt, Ev.Out.s, he]) ?_
  rw [gs_cons, gs_ifeS]
  refine ⟨decide (entO ((l.drop p).take j) = none), S ++ [.lst fs], by simp [dSs, dS, dE, dEs, dAnd, dOr, dT, Ev.tAnd, Ev.tOr, dU, dN, dB2, dIf, dVar, dCst, dO, dC, dI, dCall, dKall, pick, entry, isiV, isiV2, isTys, isTy, tobV, truO, truV, okIf, datOf, seqOf, lstOf, datas, lstV, tupV, elsOf, Out.bind_ok, is_ent], ?_⟩
  dsimp only
  by_cases hn0 : entO ((l.drop p).take j) = none
  · rw [if_pos (decide_eq_true hn0)]
    simp [dSs, dS, dE, dEs, dAnd, dOr, dT, Ev.tAnd, Ev.tOr, dU, dN, dB2, dIf, dVar, dCst, dO, dC, dI, dCall, dKall, pick, entry, isiV, isiV2, isTys, isTy, tobV, truO, truV, okIf, datOf, seqOf, lstOf, datas, lstV, tupV, elsOf, Out.bind_ok, datas, elsOf]
    exact q0 hn0
  · obtain ⟨ws, hws⟩ := Option.ne_none_iff_exists'.mp hn0
    rw [if_neg (by simp [hn0]), gs_nil, hws]
    have q1 := q1 ws hws
    have hf3 := fun S => find3_ok l 10 (p + j + 1) S
    have hap := app_loc (S := S ++ [Ob.lst fs]) (p := S.length) (xs := fs) (w := wsD ws) g1 hz
    have hset : (S ++ [Ob.lst fs]).set S.length (.lst (fs ++ [wsD ws])) = S ++ [.lst (fs ++ [wsD ws])] := by
      rw [List.set_append_right _ _ (Nat.le_refl _)]
      simp
    rw [hset] at hap
    rw [gs_cons]
    refine gs_of_nextS (ρ := [some (.d (.str (tx l))), some (.loc S.length), some (.d (.int (p : Int))), some (.d (.int ((p + j : Nat) : Int))), some (.d (strN (bodyO ((l.drop p).take j)))), some (.d (entN (some ws)))]) (S := S ++ [.lst (fs ++ [wsD ws])]) (by
      simp [dSs, dS, dE, dEs, dAnd, dOr, dT, Ev.tAnd, Ev.tOr, dU, dN, dB2, dIf, dVar, dCst, dO, dC, dI, dCall, dKall, pick, entry, isiV, isiV2, isTys, isTy, tobV, truO, truV, okIf, datOf, seqOf, lstOf, datas, lstV, tupV, elsOf, Out.bind_ok, Ev.Out.s, recV, entN, hap]) ?_
    rw [gs_cons]
    refine gs_of_nextS (ρ := [some (.d (.str (tx l))), some (.loc S.length), some (.d (.int ((p + j + 1 : Nat) : Int))), some (.d (.int ((p + j : Nat) : Int))), some (.d (strN (bodyO ((l.drop p).take j)))), some (.d (entN (some ws)))]) (S := S ++ [.lst (fs ++ [wsD ws])]) (by
      simp [dSs, dS, dE, dEs, dAnd, dOr, dT, Ev.tAnd, Ev.tOr, dU, dN, dB2, dIf, dVar, dCst, dO, dC, dI, dCall, dKall, pick, entry, isiV, isiV2, isTys, isTy, tobV, truO, truV, okIf, datOf, seqOf, lstOf, datas, lstV, tupV, elsOf, Out.bind_ok, Ev.Out.s, tgt]) ?_
    rw [gs_cons]
    refine gs_of_nextS (ρ := [some (.d (.str (tx l))), some (.loc S.length), some (.d (.int ((p + j + 1 : Nat) : Int))), some (.d (.int (ixI (p + j + 1) (fnd 10 (l.drop (p + j + 1)))))), some (.d (strN (bodyO ((l.drop p).take j)))), some (.d (entN (some ws)))]) (S := S ++ [.lst (fs ++ [wsD ws])]) (by
      simp only [dS, dE, dEs, dVar, dCst, Out.bind_ok, strO, feed_tx, List.getElem?_cons_zero, List.getElem?_cons_succ, hf3, Ev.Out.s, tgt, List.set_cons_succ, List.set_cons_zero]) ?_
    rw [gs_nil]
    exact q1 _ _
theorem body_rows : f_rows_told.body = .cons (.par [1, 2, 3] (.cons (.lst true .nil) (.cons (.cst (.int 0)) (.cons (.sme .find (.var 0) (.cons (.cst (.str "\n")) .nil)) .nil)))) (.cons (.whl 1000 (.cmp .GtE (.var 3) (.cst (.int 0))) (match f_rows_told.body with | .cons _ (.cons (.whl _ _ b) _) => b | _ => .nil)) (.cons (.ret (.tup (.cons (.var 1) (.cons (.var 2) .nil)))) .nil)) := rfl
theorem gs_whlS {Gl : List PyData} {K : Calls} {n : Nat} {c : CE} {b : CSs} {ρ : EnvD} {S : Store} {N B C : EnvD → Store → Prop} {R : Val → Store → Prop} : GS (dS Gl K (.whl n c b) ρ S) N R B C ↔ GS (whlD (dT Gl K c) (dSs Gl K b) n ρ S) N R B C := by
  simp only [dS]
def fsD (f : List (List (List Nat))) : List PyData := f.map wsD
def toldV (n : Nat) (t : List (List (List Nat)) × Nat) : Val := .tp [.loc n, .d (.int (t.2 : Int))]
theorem r_rows_told {n : Nat} (hn : 3 < n) {k : Nat} {l : List Nat} (h : Asc k l) (hk : k ≤ 900) (S : Store) : sem G T n 9 [.d (.str (tx l))] S = .ok (toldV S.length (rdT l)) (S ++ [.lst (fsD (rdT l).1)]) := by
  obtain ⟨n', rfl⟩ : ∃ m, n = m + 1 := ⟨n - 1, by omega⟩
  refine ok_of (gets_def t_rows_told [some (.d (.str (tx l))), none, none, none, none, none] rfl rfl ?_)
  have hb := body_rows
  revert hb
  generalize (match f_rows_told.body with | .cons _ (.cons (.whl _ _ b) _) => b | _ => CSs.nil) = B0
  intro hb
  rw [hb, gs_cons]
  have hf := fun S => find_ok l 10 S
  refine gs_of_nextS (ρ := stR l S.length 0 (ixI 0 (fnd 10 l)) none none) (S := S ++ [.lst []]) (by
    simp only [dS, dE, dEs, dVar, dCst, Out.bind_ok, strO, feed_tx, List.getElem?_cons_zero, List.getElem?_cons_succ, hf, Ev.Out.s, dN, datas, lstV, List.length_nil, sl_0, if_true, List.length_cons, stR, parD, List.set_cons_succ, List.set_cons_zero]
    simp) ?_
  rw [gs_cons, gs_whlS]
  refine gs_whl (fun m ρ S' => ∃ (f : List (List (List Nat))) (p : Nat) (r4 r5 : Option Val), p ≤ l.length ∧ m = (rowsL [] (l.drop p)).length ∧ rd (rowsL [] (l.drop p)) f p = rdT l ∧ f.length ≤ p ∧ ρ = stR l S.length p (ixI p (fnd 10 (l.drop p))) r4 r5 ∧ S' = S ++ [.lst (fsD f)]) ?_ 1000 _ _ _ ?_ ⟨[], 0, none, none, Nat.zero_le _, rfl, rfl, Nat.zero_le _, rfl, rfl⟩
  · rintro m ρ S' ⟨f, p, r4, r5, hp, rfl, hr, hfl, rfl, rfl⟩
    cases e : fnd 10 (l.drop p) with
    | none =>
      rw [rowsL_free _ (fnd_none.mp e)] at hr
      refine ⟨false, S ++ [.lst (fsD f)], by simp [dSs, dS, dE, dEs, dAnd, dOr, dT, Ev.tAnd, Ev.tOr, dU, dN, dB2, dIf, dVar, dCst, dO, dC, dI, dCall, dKall, pick, entry, isiV, isiV2, isTys, isTy, tobV, truO, truV, okIf, datOf, seqOf, lstOf, datas, lstV, tupV, elsOf, Out.bind_ok, stR, ixI], ?_⟩
      dsimp only
      rw [if_neg (by decide)]
      simp only [rd] at hr
      rw [gs_cons]
      simp [dSs, dS, dE, dEs, dAnd, dOr, dT, Ev.tAnd, Ev.tOr, dU, dN, dB2, dIf, dVar, dCst, dO, dC, dI, dCall, dKall, pick, entry, isiV, isiV2, isTys, isTy, tobV, truO, truV, okIf, datOf, seqOf, lstOf, datas, lstV, tupV, elsOf, Out.bind_ok, stR, datas, elsOf, ← hr, toldV, back_told]
      have : f_rows_told.mu = true := rfl
      rw [this, back_told]
      simp
    | some j =>
      obtain ⟨a, q, e1, e2, e3⟩ := fnd_some e
      have hlen : p + j < l.length := by
        have := congrArg List.length e1
        rw [List.length_drop, List.length_append, List.length_cons] at this
        omega
      have ea : (l.drop p).take j = a := by rw [e1, ← e3, List.take_left]
      have eq : l.drop (p + j + 1) = q := by
        have : l.drop (p + j + 1) = (l.drop p).drop (j + 1) := by rw [List.drop_drop]; congr 1
        rw [this, e1, ← e3]
        simp
      have er : rowsL [] (l.drop p) = a :: rowsL [] q := by rw [e1, rowsL_app _ _ e2]; simp
      refine ⟨true, S ++ [.lst (fsD f)], by simp [dSs, dS, dE, dEs, dAnd, dOr, dT, Ev.tAnd, Ev.tOr, dU, dN, dB2, dIf, dVar, dCst, dO, dC, dI, dCall, dKall, pick, entry, isiV, isiV2, isTys, isTy, tobV, truO, truV, okIf, datOf, seqOf, lstOf, datas, lstV, tupV, elsOf, Out.bind_ok, stR, ixI]; omega, ?_⟩
      dsimp only
      rw [if_pos rfl]
      refine ⟨(rowsL [] q).length, by rw [er]; rfl, ?_⟩
      rw [er] at hr
      have hmu : f_rows_told.mu = true := rfl
      refine turn_told (n := n') (by omega) h (by omega) p j (by omega) r4 r5 S (fsD f) (by simp [fsD]; have := h.len; omega) (fun hn0 => ?_) (fun ws hws a4 a5 => ?_) B0 hb
      · rw [ea] at hn0
        simp only [rd, hn0] at hr
        rw [hmu, back_told, gets_ok]
        rw [← hr]
        exact ⟨rfl, rfl⟩
      · rw [ea] at hws
        simp only [rd, hws] at hr
        refine ⟨f ++ [ws], p + j + 1, a4, a5, by omega, by rw [eq], ?_, ?_, rfl, ?_⟩
        · rw [eq, ← e3]; exact hr
        · simp; omega
        · simp [fsD]
  · have := rowsL_len (l.drop 0) []
    have := h.len
    simp at *
    omega
theorem r_rows_in {n : Nat} (hn : 4 < n) {k : Nat} {l : List Nat} (h : Asc k l) (hk : k ≤ 900) (S : Store) : sem G T n 14 [.d (.str (tx l))] S = .ok (toldV S.length (rdT l)) (S ++ [.lst (fsD (rdT l).1)]) := by
  obtain ⟨n', rfl⟩ : ∃ m, n = m + 1 := ⟨n - 1, by omega⟩
  have hs : ∀ S, sem G T n' 11 [.d (.str (tx l))] S = .ok (.d .none) S := fun S => by
    obtain ⟨n2, rfl⟩ : ∃ m, n' = m + 1 := ⟨n' - 1, by omega⟩
    refine ok_of (gets_sem t_want_string rfl ?_)
    simp [dSs, dS, dE, dEs, dAnd, dOr, dT, Ev.tAnd, Ev.tOr, dU, dN, dB2, dIf, dVar, dCst, dO, dC, dI, dCall, dKall, pick, entry, isiV, isiV2, isTys, isTy, tobV, truO, truV, okIf, datOf, seqOf, lstOf, datas, lstV, tupV, elsOf, Out.bind_ok, f_want_string]
  have hr := r_rows_told (n := n') (by omega) h hk
  refine ok_of (gets_sem t_rows_in rfl ?_)
  simp [dSs, dS, dE, dEs, dAnd, dOr, dT, Ev.tAnd, Ev.tOr, dU, dN, dB2, dIf, dVar, dCst, dO, dC, dI, dCall, dKall, pick, entry, isiV, isiV2, isTys, isTy, tobV, truO, truV, okIf, datOf, seqOf, lstOf, datas, lstV, tupV, elsOf, Out.bind_ok, f_rows_in, hs, hr, toldV, back_told]
end HT
end

section
set_option Elab.async false
set_option linter.all false
set_option maxRecDepth 100000
set_option maxHeartbeats 4000000
/-! T7: the law's reading -/
namespace HT
open PySem PySem.Spec L2 Ev
def lawW (row : List Nat) : List (List Nat) := (spl 32 3 [] row).drop 1
theorem law_ent (row : List Nat) : entO row = if entB (lawW row) = true ∧ rowL (jn 32 (lawW row)) = row then some (lawW row) else none := by
  unfold entO bodyO lawW
  cases e : fnd 32 row with
  | none =>
    rw [spl_free 3 [] (fnd_none.mp e)]
    rfl
  | some j =>
    obtain ⟨p, q, rfl, h2, rfl⟩ := fnd_some e
    have e1 : (p ++ 32 :: q).drop (p.length + 1) = q := by simp
    rw [spl_app 2 [] q h2]
    dsimp only
    rw [e1]
    show (match (if rowL q = p ++ 32 :: q then some q else none) with | none => none | some b => if entB (spl 32 2 [] b) = true then some (spl 32 2 [] b) else none) = if entB (spl 32 2 [] q) = true ∧ rowL (jn 32 (spl 32 2 [] q)) = p ++ 32 :: q then some (spl 32 2 [] q) else none
    rw [jn_spl, List.nil_append]
    by_cases h : rowL q = p ++ 32 :: q
    · rw [if_pos h]
      by_cases h3 : entB (spl 32 2 [] q) = true
      · rw [if_pos ⟨h3, h⟩]; exact if_pos h3
      · rw [if_neg (fun z => h3 z.1)]; exact if_neg h3
    · rw [if_neg h, if_neg (fun z => h z.2)]
theorem cut_last {α : Type} (xs : List α) (h : xs ≠ []) : cutL xs none (some (-1)) = xs.dropLast := by
  have hp := List.length_pos_iff.mpr h
  unfold cutL
  have e : HT.sIx xs.length xs.length (some (-1)) = xs.length - 1 := by
    unfold HT.sIx
    simp
    omega
  rw [HT.sIx_none, e]
  simp [List.dropLast_eq_take]
theorem split_ok {k : Nat} {l : List Nat} (h : Asc k l) (hk : k ≤ 100000) (S : Store) : smV .split (tx l) [.d (.str (tx [10]))] S = .ok (.d (.list ((spl 10 (l.length + 1) [] l).map fun w => .str (tx w)))) S := by
  show okIf (((tx [10]).length == 0) = false ∧ (tx l).length + 2 ≤ sizeLine) (.list ((Txt.split (tx l) (tx [10])).map .str)) S = _
  rw [split_1 _ (by decide), List.map_map]
  refine if_pos ⟨rfl, line_of ?_⟩
  have := h.len
  rw [tx_len]
  omega
theorem rows_asc {k : Nat} : ∀ (l acc : List Nat), Asc k (acc ++ l) → ∀ r ∈ rowsL acc l, Asc k r
  | [], acc, h, r, hr => by cases hr
  | a :: l, acc, h, r, hr => by
    unfold rowsL at hr
    split at hr
    · rcases List.mem_cons.mp hr with rfl | hr
      · exact ⟨by have := h.len; simp at this; omega, fun c hc => h.cs c (by simp [hc])⟩
      · exact rows_asc l [] ⟨by have := h.len; simp at this ⊢; omega, fun c hc => h.cs c (by simp at hc ⊢; simp [hc])⟩ r hr
    · exact rows_asc l (acc ++ [a]) (by simpa using h) r hr
theorem rows_sum : ∀ (l acc : List Nat), ((rowsL acc l).map (·.length + 1)).sum ≤ acc.length + l.length
  | [], acc => by simp [rowsL]
  | a :: l, acc => by
    unfold rowsL
    split
    · have := rows_sum l []
      simp at this ⊢
      omega
    · have := rows_sum l (acc ++ [a])
      simp at this ⊢
      omega
def toldD (t : List (List (List Nat)) × Nat) : PyData := .tuple [.list (fsD t.1), .int (t.2 : Int)]
theorem back_tpL {S : Store} {xs : List PyData} {p : Int} : back false S.length (.tp [.loc S.length, .d (.int p)]) (S ++ [.lst xs]) = .ok (.d (.tuple [.list xs, .int p])) S := by
  simp [back, newEl, elsD]
theorem str_1 : (tx [10] : Str) = ("\n" : Str) := rfl
theorem neq_tx (a b : List Nat) (S : Store) : cmpV .NotEq (.d (.str (tx a))) (.d (.str (tx b))) S = .ok (.d (.bool (!decide (a = b)))) S := by
  rw [ne_ss, tx_beq]
theorem body_read : f_law_read.body = .cons (.par [1, 2] (.cons (.lst true .nil) (.cons (.cst (.int 0)) .nil))) (.cons (.for_ (.nm 3) (.seq (.sli (.sme .split (.var 0) (.cons (.cst (.str "\n")) .nil)) .none (.some (.cst (.int (-1)))))) (match f_law_read.body with | .cons _ (.cons (.for_ _ _ b) _) => b | _ => .nil)) (.cons (.ret (.tup (.cons (.var 1) (.cons (.var 2) .nil)))) .nil)) := rfl
theorem turn_read {n : Nat} (hn : 2 < n) {k : Nat} {l row : List Nat} (h : Asc k row) (hk : k ≤ 20000) (p : Nat) (r4 r5 : Option Val) (S : Store) (fs : List PyData) (hf : fs.length ≤ 80000) {N B C : EnvD → Store → Prop} {R : Val → Store → Prop}
    (q0 : entO row = none → R (.tp [.loc S.length, .d (.int (p : Int))]) (S ++ [.lst fs]))
    (q1 : ∀ ws, entO row = some ws → ∀ a b c, N [some (.d (.str (tx l))), some (.loc S.length), some (.d (.int ((p + row.length + 1 : Nat) : Int))), a, b, c] (S ++ [.lst (fs ++ [wsD ws])])) :
    ∀ B0, B0 = (match f_law_read.body with | .cons _ (.cons (.for_ _ _ b) _) => b | _ => .nil) →
      GS (dSs G (sem G T n) B0 [some (.d (.str (tx l))), some (.loc S.length), some (.d (.int (p : Int))), some (.d (.str (tx row))), r4, r5] (S ++ [.lst fs])) N R B C := by
  intro B0 hB
  subst hB
  have hl : row.length ≤ sizeLine := line_of (by have := h.len; omega)
  have hl1 : row.length + 1 ≤ sizeLine := line_of (by have := h.len; omega)
  have hs : ∀ S, smV .splitN (tx row) [.d (.str (tx [32])), .d (.int 3)] S = .ok (.d (.list ((spl 32 3 [] row).map fun w => .str (tx w)))) S := fun S => splitN_ok h (by omega) 3 (by decide) S
  have hw : Ws k (lawW row) := fun w hw => spl_asc row 3 [] (by simpa using h) w (List.mem_of_mem_drop hw)
  have hlen : (lawW row).length ≤ 3 := by
    unfold lawW
    have := spl_len 32 row 3 []
    rw [List.length_drop]
    omega
  have he := r_law_entry_ok (n := n) (by omega) hw (by omega)
  have hr := r_law_row (n := n) (by omega) hw (Nat.le_trans (Nat.mul_le_mul_left _ hlen) (by omega))
  have g1 : (S ++ [Ob.lst fs])[S.length]? = some (.lst fs) := by simp
  have hz : fs.length < sizeLine := by have := @line_of 80001 (by decide); omega
  show GS (dSs G (sem G T n) (match f_law_read.body with | .cons _ (.cons (.for_ _ _ b) _) => b | _ => .nil) _ _) N R B C
  dsimp only [f_law_read]
  rw [gs_cons]
  refine gs_of_nextS (ρ := [some (.d (.str (tx l))), some (.loc S.length), some (.d (.int (p : Int))), some (.d (.str (tx row))), some (.d (.list ((spl 32 3 [] row).map fun w => .str (tx w)))), r5]) (S := S ++ [.lst fs]) (by
    simp [dSs, dS, dE, dEs, dAnd, dOr, dT, Ev.tAnd, Ev.tOr, dU, dN, dB2, dIf, dVar, dCst, dO, dC, dI, dCall, dKall, pick, entry, isiV, isiV2, isTys, isTy, tobV, truO, truV, okIf, datOf, seqOf, lstOf, datas, lstV, tupV, elsOf, Out.bind_ok, strO, hs, blank_tx, tgt, Ev.Out.s]) ?_
  rw [gs_cons]
  refine gs_of_nextS (ρ := [some (.d (.str (tx l))), some (.loc S.length), some (.d (.int (p : Int))), some (.d (.str (tx row))), some (.d (.list ((spl 32 3 [] row).map fun w => .str (tx w)))), some (.d (wsD (lawW row)))]) (S := S ++ [.lst fs]) (by
    have e1 : cutD ((spl 32 3 [] row).map fun w => PyData.str (tx w)) (some 1) none = (lawW row).map fun w => PyData.str (tx w) := by
      rw [cut_map, show (1 : Int) = ((1 : Nat) : Int) from rfl, cut_from]
      rfl
    simp [dSs, dS, dE, dEs, dAnd, dOr, dT, Ev.tAnd, Ev.tOr, dU, dN, dB2, dIf, dVar, dCst, dO, dC, dI, dCall, dKall, pick, entry, isiV, isiV2, isTys, isTy, tobV, truO, truV, okIf, datOf, seqOf, lstOf, datas, lstV, tupV, elsOf, Out.bind_ok, e1, wsD, tgt, Ev.Out.s]) ?_
  rw [gs_cons, gs_ifeS]
  refine ⟨decide (entO row = none), S ++ [.lst fs], ?_, ?_⟩
  · rw [law_ent]
    have e3 : decide (rowL (jn 32 (lawW row)) ++ [10] = row ++ [10]) = decide (rowL (jn 32 (lawW row)) = row) := decide_eq_decide.mpr ⟨fun h => List.append_cancel_right h, fun h => by rw [h]⟩
    cases hb : entB (lawW row)
    · simp [dSs, dS, dE, dEs, dAnd, dOr, dT, Ev.tAnd, Ev.tOr, dU, dN, dB2, dIf, dVar, dCst, dO, dC, dI, dCall, dKall, pick, entry, isiV, isiV2, isTys, isTy, tobV, truO, truV, okIf, datOf, seqOf, lstOf, datas, lstV, tupV, elsOf, Out.bind_ok, he, hb]
    · by_cases h3 : rowL (jn 32 (lawW row)) = row
      · rw [decide_eq_true h3] at e3
        simp [-ne_ss, dSs, dS, dE, dEs, dAnd, dOr, dT, Ev.tAnd, Ev.tOr, dU, dN, dB2, dIf, dVar, dCst, dO, dC, dI, dCall, dKall, pick, entry, isiV, isiV2, isTys, isTy, tobV, truO, truV, okIf, datOf, seqOf, lstOf, datas, lstV, tupV, elsOf, Out.bind_ok, he, hb, hr, feed_tx, tx_cat, neq_tx, e3, h3, hl1]
      · rw [decide_eq_false h3] at e3
        simp [-ne_ss, dSs, dS, dE, dEs, dAnd, dOr, dT, Ev.tAnd, Ev.tOr, dU, dN, dB2, dIf, dVar, dCst, dO, dC, dI, dCall, dKall, pick, entry, isiV, isiV2, isTys, isTy, tobV, truO, truV, okIf, datOf, seqOf, lstOf, datas, lstV, tupV, elsOf, Out.bind_ok, he, hb, hr, feed_tx, tx_cat, neq_tx, e3, h3, hl1]
  dsimp only
  by_cases hn0 : entO row = none
  · rw [if_pos (decide_eq_true hn0)]
    simp [dSs, dS, dE, dEs, dAnd, dOr, dT, Ev.tAnd, Ev.tOr, dU, dN, dB2, dIf, dVar, dCst, dO, dC, dI, dCall, dKall, pick, entry, isiV, isiV2, isTys, isTy, tobV, truO, truV, okIf, datOf, seqOf, lstOf, datas, lstV, tupV, elsOf, Out.bind_ok, datas, elsOf]
    exact q0 hn0
  · obtain ⟨ws, hws⟩ := Option.ne_none_iff_exists'.mp hn0
    rw [if_neg (by simp [hn0]), gs_nil]
    have q1 := q1 ws hws
    have ews : ws = lawW row := by
      rw [law_ent] at hws
      split at hws
      · exact (Option.some.inj hws).symm
      · cases hws
    have hap := app_loc (S := S ++ [Ob.lst fs]) (p := S.length) (xs := fs) (w := wsD ws) g1 hz
    have hset : (S ++ [Ob.lst fs]).set S.length (.lst (fs ++ [wsD ws])) = S ++ [.lst (fs ++ [wsD ws])] := by
      rw [List.set_append_right _ _ (Nat.le_refl _)]
      simp
    rw [hset] at hap
    rw [← ews]
    rw [gs_cons]
    refine gs_of_nextS (ρ := [some (.d (.str (tx l))), some (.loc S.length), some (.d (.int (p : Int))), some (.d (.str (tx row))), some (.d (.list ((spl 32 3 [] row).map fun w => .str (tx w)))), some (.d (wsD ws))]) (S := S ++ [.lst (fs ++ [wsD ws])]) (by
      simp [dSs, dS, dE, dEs, dAnd, dOr, dT, Ev.tAnd, Ev.tOr, dU, dN, dB2, dIf, dVar, dCst, dO, dC, dI, dCall, dKall, pick, entry, isiV, isiV2, isTys, isTy, tobV, truO, truV, okIf, datOf, seqOf, lstOf, datas, lstV, tupV, elsOf, Out.bind_ok, Ev.Out.s, recV, hap]) ?_
    rw [gs_cons]
    refine gs_of_nextS (ρ := [some (.d (.str (tx l))), some (.loc S.length), some (.d (.int ((p + row.length + 1 : Nat) : Int))), some (.d (.str (tx row))), some (.d (.list ((spl 32 3 [] row).map fun w => .str (tx w)))), some (.d (wsD ws))]) (S := S ++ [.lst (fs ++ [wsD ws])]) (by
      simp [dSs, dS, dE, dEs, dAnd, dOr, dT, Ev.tAnd, Ev.tOr, dU, dN, dB2, dIf, dVar, dCst, dO, dC, dI, dCall, dKall, pick, entry, isiV, isiV2, isTys, isTy, tobV, truO, truV, okIf, datOf, seqOf, lstOf, datas, lstV, tupV, elsOf, Out.bind_ok, Ev.Out.s, tgt, hl]) ?_
    rw [gs_nil]
    exact q1 _ _ _
theorem r_law_read {n : Nat} (hn : 3 < n) {k : Nat} {l : List Nat} (h : Asc k l) (hk : k ≤ 900) (S : Store) : sem G T n 22 [.d (.str (tx l))] S = .ok (.d (toldD (rdT l))) S := by
  obtain ⟨n', rfl⟩ : ∃ m, n = m + 1 := ⟨n - 1, by omega⟩
  refine ok_of (gets_def t_law_read [some (.d (.str (tx l))), none, none, none, none, none] rfl rfl ?_)
  have hb := body_read
  revert hb
  generalize hB : (match f_law_read.body with | .cons _ (.cons (.for_ _ _ b) _) => b | _ => CSs.nil) = B0
  intro hb
  rw [hb, gs_cons]
  refine gs_of_nextS (ρ := [some (.d (.str (tx l))), some (.loc S.length), some (.d (.int ((0 : Nat) : Int))), none, none, none]) (S := S ++ [.lst []]) (by
    simp only [dS, dE, dEs, dVar, dCst, Out.bind_ok, Ev.Out.s, dN, datas, lstV, List.length_nil, sl_0, if_true, List.length_cons, parD, List.set_cons_succ, List.set_cons_zero]
    simp) ?_
  rw [gs_cons, gs_forS]
  have hs := fun S => split_ok h (by omega) S
  have hne : (spl 10 (l.length + 1) [] l) ≠ [] := by
    obtain ⟨x, r, e⟩ := spl_ne 10 l (l.length + 1) []
    rw [e]; simp
  have ec : cutD ((spl 10 (l.length + 1) [] l).map fun w => PyData.str (tx w)) none (some (-1)) = (rowsL [] l).map fun w => PyData.str (tx w) := by
    rw [cut_map, cut_last _ hne, rowsL_spl _ _ _ (by omega)]
  refine ⟨⟨(rowsL [] l).map fun w => Val.d (.str (tx w)), none⟩, S ++ [.lst []], by simp [dSs, dS, dE, dEs, dAnd, dOr, dT, Ev.tAnd, Ev.tOr, dU, dN, dB2, dIf, dVar, dCst, dO, dC, dI, dCall, dKall, pick, entry, isiV, isiV2, isTys, isTy, tobV, truO, truV, okIf, datOf, seqOf, lstOf, datas, lstV, tupV, elsOf, Out.bind_ok, strO, feed_tx, hs, ec], ?_⟩
  have hmu : f_law_read.mu = false := rfl
  refine gs_for (fun vs ρ S' => ∃ (rs : List (List Nat)) (f : List (List (List Nat))) (p : Nat) (r3 r4 r5 : Option Val), vs = rs.map (fun w => Val.d (.str (tx w))) ∧ (∀ r ∈ rs, Asc k r) ∧ rd rs f p = rdT l ∧ f.length + rs.length ≤ 900 ∧ ρ = [some (.d (.str (tx l))), some (.loc S.length), some (.d (.int (p : Int))), r3, r4, r5] ∧ S' = S ++ [.lst (fsD f)]) ?_ ?_ _ _ _ ⟨rowsL [] l, [], 0, none, none, none, rfl, rows_asc l [] (by simpa using h), rfl, ?_, rfl, rfl⟩
  · rintro v vs ρ S' ⟨rs, f, p, r3, r4, r5, e, hrs, hr, hfl, rfl, rfl⟩
    cases rs with
    | nil => cases e
    | cons row rs =>
      rw [List.map_cons] at e
      injection e with e1 e2
      subst e1 e2
      refine ⟨trivial, [some (.d (.str (tx l))), some (.loc S.length), some (.d (.int (p : Int))), some (.d (.str (tx row))), r4, r5], by simp [tgt], ?_⟩
      simp only [List.length_cons] at hfl
      refine turn_read (n := n') (by omega) (hrs row List.mem_cons_self) (by omega) p r4 r5 S (fsD f) (by simp [fsD]; omega) (fun hn0 => ?_) (fun ws hws a4 a5 a6 => ?_) B0 hB.symm
      · simp only [rd, hn0] at hr
        rw [hmu, back_tpL, gets_ok]
        rw [← hr]
        exact ⟨rfl, rfl⟩
      · simp only [rd, hws] at hr
        refine ⟨rs, f ++ [ws], p + row.length + 1, a4, a5, a6, rfl, fun r hr => hrs r (List.mem_cons_of_mem _ hr), hr, by simp; omega, rfl, by simp [fsD]⟩
  · rintro ρ S' ⟨rs, f, p, r3, r4, r5, e, hrs, hr, hfl, rfl, rfl⟩
    cases rs with
    | cons _ _ => cases e
    | nil =>
      refine ⟨trivial, ?_⟩
      simp only [rd] at hr
      rw [gs_cons]
      simp [dSs, dS, dE, dEs, dAnd, dOr, dT, Ev.tAnd, Ev.tOr, dU, dN, dB2, dIf, dVar, dCst, dO, dC, dI, dCall, dKall, pick, entry, isiV, isiV2, isTys, isTy, tobV, truO, truV, okIf, datOf, seqOf, lstOf, datas, lstV, tupV, elsOf, Out.bind_ok, datas, elsOf, ← hr, toldD, hmu, back_tpL]
  · have := rowsL_len l []
    have := h.len
    simp
    omega
end HT
end

section
set_option Elab.async false
set_option linter.all false
set_option maxRecDepth 100000
set_option maxHeartbeats 4000000
/-! T8: read right -/
namespace HT
open PySem PySem.Spec L2 Ev
theorem tameAll_ws {k : Nat} : ∀ {ws : List (List Nat)}, Ws k ws → TameAll ((ws.map (·.length + 1)).sum) 0 (ws.map fun w => .str (tx w))
  | [], _ => TameAll.nil
  | w :: ws, h => by
    rw [List.map_cons, List.map_cons, List.sum_cons]
    have h1 : Tame w.length 0 (.str (tx w)) := (show Asc w.length w from ⟨Nat.le_refl _, (h w List.mem_cons_self).cs⟩).tame
    exact TameAll.cons h1 (tameAll_ws fun x hx => h x (List.mem_cons_of_mem _ hx)) (Nat.le_refl _)
theorem jn_len {c : Nat} : ∀ {ws : List (List Nat)}, ws ≠ [] → (ws.map (·.length + 1)).sum = (jn c ws).length + 1
  | [], h => absurd rfl h
  | [a], _ => by simp [jn]
  | a :: b :: r, _ => by
    have ih := jn_len (c := c) (ws := b :: r) (by simp)
    rw [List.map_cons, List.sum_cons, ih]
    simp [jn]
    omega
theorem ent_tame {k : Nat} {r : List Nat} {ws : List (List Nat)} (h : Asc k r) (e : entO r = some ws) : Ws k ws ∧ Tame r.length 1 (wsD ws) := by
  unfold entO bodyO at e
  cases ef : fnd 32 r with
  | none => rw [ef] at e; cases e
  | some j =>
    rw [ef] at e
    dsimp only at e
    by_cases h1 : rowL (r.drop (j + 1)) = r
    · rw [if_pos h1] at e
      dsimp only at e
      by_cases h2 : entB (spl 32 2 [] (r.drop (j + 1))) = true
      · rw [if_pos h2] at e
        have e := (Option.some.inj e).symm
        subst e
        have hw : Ws k (spl 32 2 [] (r.drop (j + 1))) := spl_asc _ 2 [] (by simpa using h.drop (j + 1))
        refine ⟨hw, ?_⟩
        obtain ⟨x, y, ex⟩ := spl_ne 32 (r.drop (j + 1)) 2 []
        have el := jn_len (c := 32) (ws := spl 32 2 [] (r.drop (j + 1))) (by rw [ex]; simp)
        rw [jn_spl] at el
        obtain ⟨p, q, e1, _, e3⟩ := fnd_some ef
        refine (Tame.tup (tameAll_ws hw)).imp ?_ (Nat.le_refl _)
        rw [el, e1, ← e3]
        simp
      · rw [if_neg h2] at e; cases e
    · rw [if_neg h1] at e; cases e
theorem rd_tame {k : Nat} : ∀ (rs : List (List Nat)) (f : List (List (List Nat))) (p : Nat), (∀ r ∈ rs, Asc k r) → TameAll p 1 (fsD f) → TameAll (rd rs f p).2 1 (fsD (rd rs f p).1) ∧ (rd rs f p).2 ≤ p + (rs.map (·.length + 1)).sum
  | [], f, p, _, h => ⟨h, by simp [rd]⟩
  | r :: rs, f, p, hr, h => by
    unfold rd
    split
    · exact ⟨h, Nat.le_add_right _ _⟩
    · rename_i ws e
      obtain ⟨_, ht⟩ := ent_tame (hr r List.mem_cons_self) e
      have h2 : TameAll (p + r.length + 1) 1 (fsD (f ++ [ws])) := by
        unfold fsD
        rw [List.map_append]
        exact TameAll.app (b := r.length + 1) h (TameAll.cons (b := 0) ht TameAll.nil (by omega)) (by omega)
      obtain ⟨a, b⟩ := rd_tame rs (f ++ [ws]) (p + r.length + 1) (fun x hx => hr x (List.mem_cons_of_mem _ hx)) h2
      refine ⟨a, Nat.le_trans b ?_⟩
      simp
      omega
theorem rd_len : ∀ (rs : List (List Nat)) (f : List (List (List Nat))) (p : Nat), (rd rs f p).1.length ≤ f.length + rs.length
  | [], f, p => by simp [rd]
  | r :: rs, f, p => by
    unfold rd
    split
    · simp
    · rename_i ws e
      have := rd_len rs (f ++ [ws]) (p + r.length + 1)
      simp at this ⊢
      omega
theorem told_tame {k : Nat} {l : List Nat} (h : Asc k l) (hk : k ≤ 900) : Tame (k + k + 3) 3 (toldD (rdT l)) := by
  obtain ⟨a, b⟩ := rd_tame (rowsL [] l) [] 0 (rows_asc l [] (by simpa using h)) TameAll.nil
  have hs := rows_sum l []
  have hl := h.len
  simp at hs
  refine Tame.tup (TameAll.cons (a := k) (b := k + 1) ((Tame.list a).imp ?_ (Nat.le_refl _)) (TameAll.cons (a := k) (b := 0) (Tame.imp (m := 0) (k := 0) (tame_int ?_) (Nat.zero_le _) (Nat.zero_le _)) TameAll.nil (by omega)) (by omega))
  · show (rd (rowsL [] l) [] 0).2 ≤ k
    omega
  · have e : (900 : Nat) < 10 ^ 100 := by decide
    show (rd (rowsL [] l) [] 0).2 < _
    omega
theorem told_rp {k : Nat} {l : List Nat} (h : Asc k l) (hk : k ≤ 900) : Rp (toldD (rdT l)) := rp_of (told_tame h hk) (by omega) (by decide)
theorem dat_told {n : Nat} {S : Store} {t : List (List (List Nat)) × Nat} (h : S[n]? = some (.lst (fsD t.1))) : datOf S (toldV n t) = some (toldD t) := by
  simp [datOf, toldV, elsD, h, toldD]
theorem r_read_right {n : Nat} (hn : 6 < n) {k : Nat} {l : List Nat} (h : Asc k l) (hk : k ≤ 900) (S : Store) : sem G T n 25 [.d (.str (tx l))] S = .ok (.d (.bool true)) S := by
  obtain ⟨n', rfl⟩ : ∃ m, n = m + 1 := ⟨n - 1, by omega⟩
  have rp := told_rp h hk
  have hin := r_rows_in (n := n') (by omega) h hk
  have hrd := r_law_read (n := n') (by omega) h hk
  have hrepr : ∀ S v, datOf S v = some (toldD (rdT l)) → biV .repr [v] S = .ok (.d (.str (toldD (rdT l)).shown)) S := fun S v e => repr_ok e rp
  have hdue : ∀ S, biV .repr [.d (toldD (rdT l))] S = .ok (.d (.str (toldD (rdT l)).shown)) S := fun S => hrepr S _ rfl
  have htold : ∀ S, biV .repr [toldV S.length (rdT l)] (S ++ [.lst (fsD (rdT l).1)]) = .ok (.d (.str (toldD (rdT l)).shown)) (S ++ [.lst (fsD (rdT l).1)]) := fun S => hrepr _ _ (dat_told (by simp))
  have hfl : (fsD (rdT l).1).length ≤ 1000 := by
    have h1 := rd_len (rowsL [] l) [] 0
    have h2 := rowsL_len l []
    have h3 := h.len
    simp only [fsD, rdT, List.length_map, List.length_nil] at h1 ⊢
    omega
  have hz : (fsD (rdT l).1).length < sizeLine := by have := @line_of 1001 (by decide); omega
  refine ok_of (gets_def t_law_read_right [some (.d (.str (tx l))), none, none, none] rfl rfl ?_)
  dsimp only [f_law_read_right]
  rw [gs_cons]
  refine gs_of_nextS (ρ := [some (.d (.str (tx l))), some (.d (toldD (rdT l))), none, none]) (S := S) (by simp [dSs, dS, dE, dEs, dAnd, dOr, dT, Ev.tAnd, Ev.tOr, dU, dN, dB2, dIf, dVar, dCst, dO, dC, dI, dCall, dKall, pick, entry, isiV, isiV2, isTys, isTy, tobV, truO, truV, okIf, datOf, seqOf, lstOf, datas, lstV, tupV, elsOf, Out.bind_ok, hrd, tgt, Ev.Out.s]) ?_
  rw [gs_cons, gs_forS]
  refine ⟨rngI 0 2, S, by simp [dSs, dS, dE, dEs, dAnd, dOr, dT, Ev.tAnd, Ev.tOr, dU, dN, dB2, dIf, dVar, dCst, dO, dC, dI, dCall, dKall, pick, entry, isiV, isiV2, isTys, isTy, tobV, truO, truV, okIf, datOf, seqOf, lstOf, datas, lstV, tupV, elsOf, Out.bind_ok], ?_⟩
  have hmu : f_law_read_right.mu = false := rfl
  refine gs_for (fun vs ρ S' => ∃ (T : Store) (a b : Option Val), S' = S ++ T ∧ ρ = [some (.d (.str (tx l))), some (.d (toldD (rdT l))), a, b] ∧ ∀ v ∈ vs, ∃ i : Int, v = .d (.int i)) ?_ ?_ _ _ _ ⟨[], none, none, by simp, rfl, fun v hv => by
    obtain ⟨i, _, rfl⟩ := List.mem_map.mp hv
    exact ⟨_, rfl⟩⟩
  · rintro v vs ρ S' ⟨T1, a, b, rfl, rfl, hv⟩
    obtain ⟨i, rfl⟩ := hv v List.mem_cons_self
    refine ⟨trivial, [some (.d (.str (tx l))), some (.d (toldD (rdT l))), some (.d (.int i)), b], by simp [tgt], ?_⟩
    have ht := htold (S ++ T1)
    have hi := hin (S ++ T1)
    have g1 : (S ++ T1 ++ [Ob.lst (fsD (rdT l).1)])[(S ++ T1).length]? = some (.lst (fsD (rdT l).1)) := by simp
    have hap := app_loc (w := .none) g1 hz
    generalize hSS : S ++ T1 ++ [Ob.lst (fsD (rdT l).1)] = SS at *
    rw [gs_cons]
    refine gs_of_nextS (ρ := [some (.d (.str (tx l))), some (.d (toldD (rdT l))), some (.d (.int i)), some (toldV (S ++ T1).length (rdT l))]) (S := SS) (by simp only [dS, dE, dEs, dCall, dN, dVar, List.getElem?_cons_zero, List.getElem?_cons_succ, Out.bind_ok, hi, Ev.Out.s, tgt, List.set_cons_succ, List.set_cons_zero]) ?_
    rw [gs_cons, gs_ifeS]
    refine ⟨false, SS, by simp only [dT, dE, dEs, dN, dB2, dVar, List.getElem?_cons_zero, List.getElem?_cons_succ, Out.bind_ok, ht, hdue, ne_ss]; simp [tobV], ?_⟩
    dsimp only
    rw [if_neg (by decide), gs_nil, gs_cons]
    refine gs_of_nextS (ρ := [some (.d (.str (tx l))), some (.d (toldD (rdT l))), some (.d (.int i)), some (toldV (S ++ T1).length (rdT l))]) (S := SS.set (S ++ T1).length (.lst (fsD (rdT l).1 ++ [.none]))) (by
      simp only [dS, dE, dEs, dN, dB2, dVar, dCst, List.getElem?_cons_zero, List.getElem?_cons_succ, Out.bind_ok, toldV, idxV, at_0, El.val, recV, g1, hap, Ev.Out.s]) ?_
    rw [gs_nil]
    refine ⟨T1 ++ [.lst (fsD (rdT l).1 ++ [.none])], some (.d (.int i)), some (toldV (S ++ T1).length (rdT l)), ?_, rfl, fun u hu => hv u (List.mem_cons_of_mem _ hu)⟩
    rw [← hSS, List.set_append_right _ _ (Nat.le_refl _)]
    simp
  · rintro ρ S' ⟨T1, a, b, rfl, rfl, _⟩
    refine ⟨trivial, ?_⟩
    have ht := htold (S ++ T1)
    have hi := hin (S ++ T1)
    have hd := hdue (S ++ T1 ++ [Ob.lst (fsD (rdT l).1)])
    have htk : List.take S.length (S ++ T1 ++ [Ob.lst (fsD (rdT l).1)]) = S := by rw [List.append_assoc]; simp
    generalize hSS : S ++ T1 ++ [Ob.lst (fsD (rdT l).1)] = SS at *
    generalize hTT : S ++ T1 = TT at *
    generalize hv : toldV TT.length (rdT l) = vv at *
    rw [gs_cons]
    simp only [dS, dE, dEs, dKall, pick, dN, dB2, dVar, List.getElem?_cons_zero, List.getElem?_cons_succ, Out.bind_ok, List.mapM_cons, List.mapM_nil, List.nil_append]
    simp [hi, ht, hd, htk]
end HT
end

section
set_option Elab.async false
set_option linter.all false
set_option maxRecDepth 100000
set_option maxHeartbeats 4000000
/-! T9: rows whole, rows hurt -/
namespace HT
open PySem PySem.Spec L2 Ev
def namesL : List (List Nat) := (["ann", "b", "cleo", "twelveletter"] : List String).map fun s => (Str.ofString s).cps.toList
def typedS : List Str := ["", "n", "take key", "  x ", "2984 line b x", "~~~", repS "z" 60, "head 9 1", repS "a" 33, "!"]
def typedL : List (List Nat) := typedS.map fun s => s.cps.toList
def caveL : List Nat := [99, 97, 118, 101]
def entSet : List (List (List Nat)) := namesL.flatMap fun n => [beginL, n, caveL] :: [dropL, n] :: typedL.map fun t => [lineL, n, t]
def bodyW (ws : List (List Nat)) : List Nat := jn 32 ws
def rowW (ws : List (List Nat)) : List Nat := rowL (bodyW ws)
def goodB (ws : List (List Nat)) : Bool := entB ws && (decide (spl 32 2 [] (jn 32 ws) = ws) && (decide (10 ∉ jn 32 ws) && ((jn 32 ws).all (fun c => decide (c < 128)) && (decide ((jn 32 ws).length ≤ 78) && (decide (ws.length ≤ 3) && (ws.all (fun w => decide (w.length ≤ 60) && w.all fun c => decide (c < 128)) && ws.isEmpty == false))))))
theorem good_all : entSet.all goodB = true := by decide +kernel
structure Good (ws : List (List Nat)) : Prop where
  ent : entB ws = true
  spl : spl 32 2 [] (bodyW ws) = ws
  nl : 10 ∉ bodyW ws
  asc : Asc 78 (bodyW ws)
  many : ws.length ≤ 3
  ws : Ws 60 ws
theorem good_of {ws : List (List Nat)} (h : ws ∈ entSet) : Good ws := by
  have := List.all_eq_true.mp good_all ws h
  unfold goodB at this
  simp only [Bool.and_eq_true, decide_eq_true_eq, List.all_eq_true] at this
  obtain ⟨h1, h2, h3, h4, h5, h6, h7, _⟩ := this
  exact ⟨h1, h2, h3, ⟨h5, h4⟩, h6, fun w hw => ⟨(h7 w hw).1, (h7 w hw).2⟩⟩
theorem row_nl {b : List Nat} (h : 10 ∉ b) : 10 ∉ rowL b := by
  unfold rowL
  intro hm
  rcases List.mem_append.mp hm with hm | hm
  · exact TL.numL_free (.inl (by decide)) hm
  · rcases List.mem_cons.mp hm with e | hm
    · cases e
    · exact h hm
theorem num_sp (n : Nat) : 32 ∉ num n := TL.numL_free (.inl (by decide))
theorem body_row (b : List Nat) : bodyO (rowL b) = some b := by
  unfold bodyO rowL
  rw [fnd_app b (num_sp _)]
  have e : (num (sumN b) ++ 32 :: b).drop ((num (sumN b)).length + 1) = b := by simp
  dsimp only
  rw [e]
  exact if_pos rfl
theorem Good.row {ws : List (List Nat)} (h : Good ws) : entO (rowW ws) = some ws := by
  unfold entO rowW
  rw [body_row]
  dsimp only
  rw [h.spl]
  exact if_pos h.ent
/-- rows joined -/
def joinR : List (List (List Nat)) → List Nat
  | [] => []
  | e :: es => rowW e ++ 10 :: joinR es
theorem joinR_app : ∀ (es fs : List (List (List Nat))), joinR (es ++ fs) = joinR es ++ joinR fs
  | [], fs => rfl
  | e :: es, fs => by simp [joinR, joinR_app es fs]
theorem joinR_flat : ∀ es : List (List (List Nat)), (es.map fun e => rowW e ++ [10]).flatten = joinR es
  | [] => rfl
  | e :: es => by
    have := joinR_flat es
    simp [joinR, this]
theorem rows_join : ∀ (es : List (List (List Nat))) (t : List Nat), (∀ e ∈ es, Good e) → rowsL [] (joinR es ++ t) = es.map rowW ++ rowsL [] t
  | [], t, _ => rfl
  | e :: es, t, h => by
    have e1 : joinR (e :: es) ++ t = rowW e ++ 10 :: (joinR es ++ t) := by simp [joinR]
    rw [e1, rowsL_app [] _ (show 10 ∉ rowW e from row_nl (h e List.mem_cons_self).nl), rows_join es t fun x hx => h x (List.mem_cons_of_mem _ hx)]
    rfl
theorem rd_cons (r : List Nat) (rs : List (List Nat)) (f : List (List (List Nat))) (p : Nat) : rd (r :: rs) f p = match entO r with
    | none => (f, p)
    | some e => rd rs (f ++ [e]) (p + r.length + 1) := rfl
theorem drop_past (a b : List Nat) (x : Nat) : (a ++ x :: b).drop (a.length + 1) = b := by simp
theorem rd_good : ∀ (es : List (List (List Nat))) (rs : List (List Nat)) (f : List (List (List Nat))) (p : Nat), (∀ e ∈ es, Good e) → rd (es.map rowW ++ rs) f p = rd rs (f ++ es) (p + (joinR es).length)
  | [], rs, f, p, _ => by simp [joinR]
  | e :: es, rs, f, p, h => by
    rw [List.map_cons, List.cons_append, rd_cons, (h e List.mem_cons_self).row]
    dsimp only
    rw [rd_good es rs (f ++ [e]) (p + (rowW e).length + 1) fun x hx => h x (List.mem_cons_of_mem _ hx)]
    have e1 : f ++ [e] ++ es = f ++ e :: es := by simp
    have e2 : p + (rowW e).length + 1 + (joinR es).length = p + (joinR (e :: es)).length := by simp [joinR]; omega
    rw [e1, e2]
theorem rdT_join {es : List (List (List Nat))} (h : ∀ e ∈ es, Good e) : rdT (joinR es) = (es, (joinR es).length) := by
  unfold rdT
  have := rows_join es [] h
  rw [List.append_nil] at this
  rw [this, rd_good es _ [] 0 h]
  simp [rowsL, rd]
/-- a row that is none: what is read are those ahead of it -/
theorem rdT_bad {es : List (List (List Nat))} (h : ∀ e ∈ es, Good e) {bad : List Nat} (hb : entO bad = none) (hn : 10 ∉ bad) (t : List Nat) : rdT (joinR es ++ (bad ++ 10 :: t)) = (es, (joinR es).length) := by
  unfold rdT
  rw [rows_join es _ h, rd_good es _ [] 0 h, rowsL_app [] t hn]
  unfold rd
  rw [List.nil_append, hb]
  simp
theorem rdT_cut {es : List (List (List Nat))} (h : ∀ e ∈ es, Good e) {bad : List Nat} (hn : 10 ∉ bad) : rdT (joinR es ++ bad) = (es, (joinR es).length) := by
  unfold rdT
  rw [rows_join es _ h, rd_good es _ [] 0 h, rowsL_free [] hn]
  simp [rd]
/-! ### hurt rows -/
theorem ent_head {w : List Nat} {r : List (List Nat)} (h : entB (w :: r) = true) : w = dropL ∨ w = beginL ∨ w = lineL := by
  match r, h with
  | [], h => cases h
  | [n], h =>
    unfold entB at h
    rw [Bool.and_eq_true, decide_eq_true_eq] at h
    exact .inl h.1
  | [n, x], h =>
    unfold entB at h
    simp only [Bool.and_eq_true, Bool.or_eq_true, decide_eq_true_eq] at h
    rcases h.2 with h | h
    · exact .inr (.inl h.1)
    · exact .inr (.inr h.1)
  | _ :: _ :: _ :: _, h => cases h
theorem sum_one {p r : List Nat} {c s : Nat} (hp : p.length ≤ 200) (hc : c < 128) (hs : s < 128) (h : sumN (p ++ c :: r) = sumN (p ++ s :: r)) : c = s := by
  unfold sumN at h
  rw [smN_app, smN_app] at h
  simp only [smN, Nat.zero_add] at h
  have h1 : (p.length + 1) * c ≤ 201 * 128 := Nat.mul_le_mul (by omega) (by omega)
  have h2 : (p.length + 1) * s ≤ 201 * 128 := Nat.mul_le_mul (by omega) (by omega)
  have h3 : (p.length + 1) * c = (p.length + 1) * s := by
    generalize (p.length + 1) * c = X at *
    generalize (p.length + 1) * s = Y at *
    omega
  exact Nat.eq_of_mul_eq_mul_left (by omega) h3
theorem sum_two {p r : List Nat} {c d : Nat} (hc : c < 128) (hd : d < 128) (h : sumN (p ++ c :: d :: r) = sumN (p ++ d :: c :: r)) : c = d := by
  unfold sumN at h
  rw [smN_app, smN_app] at h
  simp only [smN, Nat.zero_add] at h
  have e1 : (p.length + 1 + 1) * d = (p.length + 1) * d + d := by rw [Nat.add_mul _ 1, Nat.one_mul]
  have e2 : (p.length + 1 + 1) * c = (p.length + 1) * c + c := by rw [Nat.add_mul _ 1, Nat.one_mul]
  rw [e1, e2] at h
  generalize (p.length + 1) * c = X at *
  generalize (p.length + 1) * d = Y at *
  omega
/-- the sum is another one -/
theorem hurt_body {n : Nat} {b b' : List Nat} (hn : n = sumN b) (h : sumN b ≠ sumN b') : entO (num n ++ 32 :: b') = none := by
  unfold entO bodyO
  rw [fnd_app b' (num_sp _)]
  have e : (num n ++ 32 :: b').drop ((num n).length + 1) = b' := by simp
  dsimp only
  rw [e, if_neg]
  intro hr
  have := List.append_cancel_right hr
  exact h (by rw [← hn]; exact (TL.numL_inj this).symm)
theorem dig {n c : Nat} (h : c ∈ num n) : 48 ≤ c ∧ c ≤ 57 := TL.numL_digits n c h
/-- a sign of the sum is another one -/
theorem hurt_sum {b p r : List Nat} {c s : Nat} (e : num (sumN b) = p ++ c :: r) (h : c ≠ s) : entO (p ++ s :: r ++ 32 :: b) = none := by
  have hd : ∀ x ∈ p ++ c :: r, 48 ≤ x ∧ x ≤ 57 := fun x hx => dig (n := sumN b) (by rw [e]; exact hx)
  by_cases hs : s = 32
  · subst hs
    unfold entO bodyO
    have h1 : 32 ∉ p := fun hm => by have := hd 32 (List.mem_append_left _ hm); omega
    have h2 : 32 ∉ r := fun hm => by have := hd 32 (List.mem_append_right _ (List.mem_cons_of_mem _ hm)); omega
    have e1 : p ++ 32 :: r ++ 32 :: b = p ++ 32 :: (r ++ 32 :: b) := by simp
    rw [e1, fnd_app _ h1]
    have e2 : (p ++ 32 :: (r ++ 32 :: b)).drop (p.length + 1) = r ++ 32 :: b := by simp
    dsimp only
    rw [e2]
    split
    · rfl
    · rename_i z hz
      split at hz
      · cases hz
        rw [spl_app 1 [] b h2, if_neg]
        intro hent
        have hw := ent_head hent
        rw [List.nil_append] at hw
        have hx : ∀ x ∈ r, x ≤ 57 := fun x hm => (hd x (List.mem_append_right _ (List.mem_cons_of_mem _ hm))).2
        rcases hw with rfl | rfl | rfl
        · have := hx 100 (by decide); omega
        · have := hx 98 (by decide); omega
        · have := hx 108 (by decide); omega
      · cases hz
  · unfold entO bodyO
    have h1 : 32 ∉ p ++ s :: r := fun hm => by
      rcases List.mem_append.mp hm with hm | hm
      · have := hd 32 (List.mem_append_left _ hm); omega
      · rcases List.mem_cons.mp hm with hm | hm
        · exact hs hm.symm
        · have := hd 32 (List.mem_append_right _ (List.mem_cons_of_mem _ hm)); omega
    rw [fnd_app b h1]
    have e2 : (p ++ s :: r ++ 32 :: b).drop ((p ++ s :: r).length + 1) = b := drop_past _ _ _
    dsimp only
    rw [e2, if_neg]
    intro hr
    have h3 := List.append_cancel_right hr
    rw [e] at h3
    have h4 := List.append_cancel_left h3
    injection h4 with h5 _
    exact h h5
/-- the blank behind the sum is another sign -/
theorem hurt_blank {n s : Nat} {w rest : List Nat} (hw : w = dropL ∨ w = beginL ∨ w = lineL) (hs : s ≠ 32) : entO (num n ++ s :: (w ++ 32 :: rest)) = none := by
  have hx : ∃ x ∈ w, 57 < x := by
    rcases hw with rfl | rfl | rfl
    · exact ⟨100, by decide, by decide⟩
    · exact ⟨98, by decide, by decide⟩
    · exact ⟨108, by decide, by decide⟩
  have hw32 : 32 ∉ w := by rcases hw with rfl | rfl | rfl <;> decide
  obtain ⟨x, hx1, hx2⟩ := hx
  have e1 : num n ++ s :: (w ++ 32 :: rest) = (num n ++ s :: w) ++ 32 :: rest := by simp
  have h1 : 32 ∉ num n ++ s :: w := fun hm => by
    rcases List.mem_append.mp hm with hm | hm
    · exact num_sp _ hm
    · rcases List.mem_cons.mp hm with hm | hm
      · exact hs hm.symm
      · exact hw32 hm
  unfold entO bodyO
  rw [e1, fnd_app rest h1]
  have e2 : ((num n ++ s :: w) ++ 32 :: rest).drop ((num n ++ s :: w).length + 1) = rest := drop_past _ _ _
  dsimp only
  rw [e2, if_neg]
  intro hr
  have h3 := List.append_cancel_right hr
  have : x ∈ num (sumN rest) := by
    rw [h3]
    exact List.mem_append_right _ (List.mem_cons_of_mem _ hx1)
  have := dig this
  omega
theorem Good.shape {ws : List (List Nat)} (h : Good ws) : ∃ w rest, (w = dropL ∨ w = beginL ∨ w = lineL) ∧ bodyW ws = w ++ 32 :: rest := by
  have he := h.ent
  match ws, he with
  | a :: n :: r, he =>
    exact ⟨a, jn 32 (n :: r), ent_head he, rfl⟩
/-- one sign of a row is another one -/
theorem hurt_one {ws : List (List Nat)} (h : Good ws) {p r : List Nat} {c s : Nat} (e : rowW ws = p ++ c :: r) (hs : s < 128) (hc : c ≠ s) : entO (p ++ s :: r) = none := by
  have e' : num (sumN (bodyW ws)) ++ 32 :: bodyW ws = p ++ c :: r := e
  rcases List.append_eq_append_iff.mp e' with ⟨a, e1, e2⟩ | ⟨a, e1, e2⟩
  · cases a with
    | nil =>
      rw [List.append_nil] at e1
      rw [List.nil_append] at e2
      injection e2 with e3 e4
      subst e3 e4
      obtain ⟨w, rest, hw, eb⟩ := h.shape
      rw [e1, eb]
      exact hurt_blank hw (Ne.symm hc)
    | cons x a =>
      rw [List.cons_append] at e2
      injection e2 with e3 e4
      subst e3
      rw [e1]
      have e5 : num (sumN (bodyW ws)) ++ 32 :: a ++ s :: r = num (sumN (bodyW ws)) ++ 32 :: (a ++ s :: r) := by simp
      rw [e5]
      refine hurt_body (b := bodyW ws) rfl fun hq => hc ?_
      rw [e4] at hq
      have hl := h.asc.len
      rw [e4] at hl
      simp at hl
      exact sum_one (by omega) (h.asc.cs c (by rw [e4]; simp)) hs hq
  · cases a with
    | nil =>
      rw [List.append_nil] at e1
      rw [List.nil_append] at e2
      injection e2 with e3 e4
      subst e3 e4
      obtain ⟨w, rest, hw, eb⟩ := h.shape
      rw [← e1, eb]
      exact hurt_blank hw (Ne.symm hc)
    | cons x a =>
      rw [List.cons_append] at e2
      injection e2 with e3 e4
      subst e3
      rw [e4]
      have := hurt_sum e1 hc
      simpa using this
/-- two neighbours of a body are exchanged -/
theorem hurt_two {ws : List (List Nat)} (h : Good ws) {p r : List Nat} {c d : Nat} (e : bodyW ws = p ++ c :: d :: r) (hc : c ≠ d) : entO (num (sumN (bodyW ws)) ++ 32 :: (p ++ d :: c :: r)) = none := by
  refine hurt_body (b := bodyW ws) rfl fun hq => hc ?_
  rw [e] at hq
  exact sum_two (h.asc.cs c (by rw [e]; simp)) (h.asc.cs d (by rw [e]; simp)) hq
end HT
end

section
set_option Elab.async false
set_option linter.all false
set_option maxRecDepth 100000
set_option maxHeartbeats 4000000
/-! T10: entries drawn -/
namespace HT
open PySem PySem.Spec L2 Ev
theorem tl_S (x : Str) : tx x.cps.toList = x := tx_tl x
theorem mul_s {x : Str} {j : Int} (h : 2 ≤ j ∧ j ≤ 1000 ∧ 1 ≤ x.length ∧ x.length ≤ 1000) (S : Store) : binV .Mult (.d (.str x)) (.d (.int j)) S = .ok (.d (.str (repS x j.toNat))) S := by
  show okIf (2 ≤ j ∧ j ≤ 1000 ∧ 1 ≤ x.length ∧ x.length ≤ 1000) (.str (repS x j.toNat)) S = _
  exact if_pos h
theorem r_typed {n : Nat} (hn : 2 < n) {p : Nat} {S : Store} (h : Pot p S) :
    Gets (sem G T n 23 [.loc p] S) fun v S' => ∃ t ∈ typedL, ∃ o, v = .d (.str (tx t)) ∧ PotO o ∧ S' = S.set p o := by
  obtain ⟨n', rfl⟩ : ∃ m, n = m + 1 := ⟨n - 1, by omega⟩
  refine gets_sem t_law_typed rfl ?_
  obtain ⟨v, S', e, d, hd, o, rfl, ho, rfl⟩ := r_pick (n := n') (by omega) h (some := typedS.map .str) (by decide) (by decide) _ (.inl rfl)
  have e1 : ((1 : Nat) ≤ ("z" : Str).length ∧ ("z" : Str).length ≤ 1000) := by decide +kernel
  have e2 : ((1 : Nat) ≤ ("a" : Str).length ∧ ("a" : Str).length ≤ 1000) := by decide +kernel
  have m1 : ∀ S, binV .Mult (.d (.str ("z" : Str))) (.d (.int 60)) S = .ok (.d (.str (repS "z" 60))) S := fun S => mul_s ⟨by decide, by decide, e1.1, e1.2⟩ S
  have m2 : ∀ S, binV .Mult (.d (.str ("a" : Str))) (.d (.int 33)) S = .ok (.d (.str (repS "a" 33))) S := fun S => mul_s ⟨by decide, by decide, e2.1, e2.2⟩ S
  have hs : typedS.map PyData.str = [.str "", .str "n", .str "take key", .str "  x ", .str "2984 line b x", .str "~~~", .str (repS "z" 60), .str "head 9 1", .str (repS "a" 33), .str "!"] := rfl
  rw [hs] at e
  obtain ⟨x, hx, rfl⟩ := List.mem_map.mp hd
  simp [dSs, dS, dE, dEs, dAnd, dOr, dT, Ev.tAnd, Ev.tOr, dU, dN, dB2, dIf, dVar, dCst, dO, dC, dI, dCall, dKall, pick, entry, isiV, isiV2, isTys, isTy, tobV, truO, truV, okIf, datOf, seqOf, lstOf, datas, lstV, tupV, elsOf, Out.bind_ok, f_law_typed, m1, m2, e]
  exact ⟨x.cps.toList, List.mem_map_of_mem hx, by rw [tl_S], o, ho, rfl⟩
theorem ws_set (S : Store) {p : Nat} {o o2 : Ob} : (S.set p o).set p o2 = S.set p o2 := by rw [List.set_set]
theorem r_entry {n : Nat} (hn : 3 < n) {p : Nat} {S : Store} (h : Pot p S) :
    Gets (sem G T n 24 [.loc p] S) fun v S' => ∃ d o, v = .d d ∧ (∃ ws ∈ entSet, d = wsD ws) ∧ PotO o ∧ S' = S.set p o := by
  obtain ⟨n', rfl⟩ : ∃ m, n = m + 1 := ⟨n - 1, by omega⟩
  refine gets_sem t_law_entry rfl ?_
  obtain ⟨v, S', e, d, hd, o, rfl, ho, rfl⟩ := r_pick (n := n') (by omega) h (some := [.str "ann", .str "b", .str "cleo", .str "twelveletter"]) (by simp) (by decide) _ (.inl rfl)
  have p1 := h.set ho
  obtain ⟨_, _, e2, t1, ht1, o2, rfl, ho2, rfl⟩ := r_typed (n := n') (by omega) p1
  have p2 := p1.set ho2
  obtain ⟨_, _, e3, t2, ht2, o3, rfl, ho3, rfl⟩ := r_typed (n := n') (by omega) p2
  have p3 := p2.set ho3
  have hname : ∃ w ∈ namesL, d = .str (tx w) := by
    simp at hd
    rcases hd with rfl | rfl | rfl | rfl
    · exact ⟨("ann" : Str).cps.toList, by decide +kernel, by rw [tl_S]⟩
    · exact ⟨("b" : Str).cps.toList, by decide +kernel, by rw [tl_S]⟩
    · exact ⟨("cleo" : Str).cps.toList, by decide +kernel, by rw [tl_S]⟩
    · exact ⟨("twelveletter" : Str).cps.toList, by decide +kernel, by rw [tl_S]⟩
  obtain ⟨w, hw, rfl⟩ := hname
  have s_cave : ("cave" : Str) = tx caveL := by decide +kernel
  obtain ⟨_, _, e4, d4, hd4, o4, rfl, ho4, rfl⟩ := r_pick (n := n') (by omega) p3 (some := [.tuple [.str (tx beginL), .str (tx w), .str (tx caveL)], .tuple [.str (tx dropL), .str (tx w)], .tuple [.str (tx lineL), .str (tx w), .str (tx t1)], .tuple [.str (tx lineL), .str (tx w), .str (tx t2)]]) (by simp) (by simp) _ (.inl rfl)
  simp only [ws_set] at e3 e4
  simp [dSs, dS, dE, dEs, dAnd, dOr, dT, Ev.tAnd, Ev.tOr, dU, dN, dB2, dIf, dVar, dCst, dO, dC, dI, dCall, dKall, pick, entry, isiV, isiV2, isTys, isTy, tobV, truO, truV, okIf, datOf, seqOf, lstOf, datas, lstV, tupV, elsOf, Out.bind_ok, f_law_entry, e, tgt, e2, e3, e4, s_cave, s_begin, s_drop, s_line]
  have me : ∀ ws, ws = [beginL, w, caveL] ∨ ws = [dropL, w] ∨ (∃ t ∈ typedL, ws = [lineL, w, t]) → ws ∈ entSet := fun ws hws => by
    refine List.mem_flatMap.mpr ⟨w, hw, ?_⟩
    rcases hws with rfl | rfl | ⟨t, ht, rfl⟩
    · simp
    · simp
    · exact List.mem_cons_of_mem _ (List.mem_cons_of_mem _ (List.mem_map_of_mem ht))
  refine ⟨?_, o4, ho4, rfl⟩
  simp at hd4
  rcases hd4 with rfl | rfl | rfl | rfl
  · exact ⟨_, me _ (.inl rfl), rfl⟩
  · exact ⟨_, me _ (.inr (.inl rfl)), rfl⟩
  · exact ⟨_, me _ (.inr (.inr ⟨t1, ht1, rfl⟩)), rfl⟩
  · exact ⟨_, me _ (.inr (.inr ⟨t2, ht2, rfl⟩)), rfl⟩
theorem r_want_entry {n : Nat} (hn : 2 < n) {ws : List (List Nat)} (h : Good ws) (S : Store) : sem G T n 10 [.d (wsD ws)] S = .ok (.d .none) S := by
  obtain ⟨n', rfl⟩ : ∃ m, n = m + 1 := ⟨n - 1, by omega⟩
  refine ok_of (gets_sem t_want_entry rfl ?_)
  have he := r_is_entry (n := n') (by omega) h.ws (by decide)
  rw [h.ent] at he
  simp [dSs, dS, dE, dEs, dAnd, dOr, dT, Ev.tAnd, Ev.tOr, dU, dN, dB2, dIf, dVar, dCst, dO, dC, dI, dCall, dKall, pick, entry, isiV, isiV2, isTys, isTy, tobV, truO, truV, okIf, datOf, seqOf, lstOf, datas, lstV, tupV, elsOf, Out.bind_ok, f_want_entry, he]
theorem r_want_string {n : Nat} (hn : 0 < n) (x : Str) (S : Store) : sem G T n 11 [.d (.str x)] S = .ok (.d .none) S := by
  obtain ⟨n', rfl⟩ : ∃ m, n = m + 1 := ⟨n - 1, by omega⟩
  refine ok_of (gets_sem t_want_string rfl ?_)
  simp [dSs, dS, dE, dEs, dAnd, dOr, dT, Ev.tAnd, Ev.tOr, dU, dN, dB2, dIf, dVar, dCst, dO, dC, dI, dCall, dKall, pick, entry, isiV, isiV2, isTys, isTy, tobV, truO, truV, okIf, datOf, seqOf, lstOf, datas, lstV, tupV, elsOf, Out.bind_ok, f_want_string]
theorem r_row_of {n : Nat} (hn : 3 < n) {ws : List (List Nat)} (h : Good ws) (S : Store) : sem G T n 13 [.d (wsD ws)] S = .ok (.d (.str (tx (rowW ws ++ [10])))) S := by
  obtain ⟨n', rfl⟩ : ∃ m, n = m + 1 := ⟨n - 1, by omega⟩
  refine ok_of (gets_sem t_row_of rfl ?_)
  have e1 := r_want_entry (n := n') (by omega) h
  have e2 := r_row_told (n := n') (by omega) h.ws (by have := h.many; omega)
  simp [dSs, dS, dE, dEs, dAnd, dOr, dT, Ev.tAnd, Ev.tOr, dU, dN, dB2, dIf, dVar, dCst, dO, dC, dI, dCall, dKall, pick, entry, isiV, isiV2, isTys, isTy, tobV, truO, truV, okIf, datOf, seqOf, lstOf, datas, lstV, tupV, elsOf, Out.bind_ok, f_row_of, e1, e2, rowW, bodyW]
theorem r_sum_of {n : Nat} (hn : 1 < n) {k : Nat} {l : List Nat} (h : Asc k l) (hk : k ≤ 100000) (S : Store) : sem G T n 12 [.d (.str (tx l))] S = .ok (.d (.int (sumN l))) S := by
  obtain ⟨n', rfl⟩ : ∃ m, n = m + 1 := ⟨n - 1, by omega⟩
  refine ok_of (gets_sem t_sum_of rfl ?_)
  have e1 := r_want_string (n := n') (by omega) (tx l)
  have e2 := r_sum_told (n := n') (by omega) h hk
  simp [dSs, dS, dE, dEs, dAnd, dOr, dT, Ev.tAnd, Ev.tOr, dU, dN, dB2, dIf, dVar, dCst, dO, dC, dI, dCall, dKall, pick, entry, isiV, isiV2, isTys, isTy, tobV, truO, truV, okIf, datOf, seqOf, lstOf, datas, lstV, tupV, elsOf, Out.bind_ok, f_sum_of, e1, e2]
theorem r_law_rowG {n : Nat} (hn : 1 < n) {ws : List (List Nat)} (h : Good ws) (S : Store) : sem G T n 19 [.d (wsD ws)] S = .ok (.d (.str (tx (rowW ws ++ [10])))) S := r_law_row hn h.ws (by have := h.many; omega) S
theorem Good.rasc {ws : List (List Nat)} (h : Good ws) : Asc 85 (rowW ws ++ [10]) := (rowL_asc h.asc).app (Asc.cons (by decide) (Asc.nil (k := 0)) (Nat.le_refl _)) (by decide)
theorem joinR_asc : ∀ {es : List (List (List Nat))}, (∀ e ∈ es, Good e) → Asc (85 * es.length) (joinR es)
  | [], _ => Asc.nil
  | e :: es, h => by
    have h1 := (h e List.mem_cons_self).rasc
    have h2 := joinR_asc (es := es) fun x hx => h x (List.mem_cons_of_mem _ hx)
    have e1 : joinR (e :: es) = (rowW e ++ [10]) ++ joinR es := by simp [joinR]
    rw [e1]
    exact h1.app h2 (by rw [List.length_cons]; omega)
/-- what is compared -/
theorem told_eq {n : Nat} {S : Store} {es : List (List (List Nat))} (h : ∀ e ∈ es, Good e) (hS : S[n]? = some (.lst (fsD es))) (j : Nat) :
    cmpV .Eq (toldV n (es, j)) (.d (toldD (es, j))) S = .ok (.d (.bool true)) S ∧ cmpV .NotEq (toldV n (es, j)) (.d (toldD (es, j))) S = .ok (.d (.bool false)) S := by
  have hd : datOf S (toldV n (es, j)) = some (toldD (es, j)) := dat_told hS
  have c1 : ∀ {es : List (List (List Nat))}, (∀ e ∈ es, Good e) → PyData.canLayAll0 (fsD es) = true ∧ PyData.depthAll (fsD es) ≤ 1 := by
    intro es h
    induction es with
    | nil => exact ⟨rfl, by decide⟩
    | cons e es ih =>
      obtain ⟨a, b⟩ := ih fun x hx => h x (List.mem_cons_of_mem _ hx)
      have hs := ws_shaped (h e List.mem_cons_self).ws
      unfold SeqAt.shaped at hs
      rw [Bool.and_eq_true] at hs
      refine ⟨?_, ?_⟩
      · show PyData.canLayAll0 (wsD e :: fsD es) = true
        unfold PyData.canLayAll0
        rw [hs.1, a]
        rfl
      · show PyData.depthAll (wsD e :: fsD es) ≤ 1
        unfold PyData.depthAll
        refine Nat.max_le.mpr ⟨?_, b⟩
        have := (tameAll_ws (h e List.mem_cons_self).ws).dp
        unfold wsD PyData.depth
        omega
  obtain ⟨a, b⟩ := c1 h
  have cl : (toldD (es, j)).canLay0 = true := by
    show PyData.canLayAll0 [.list (fsD es), .int (j : Int)] = true
    unfold PyData.canLayAll0
    unfold PyData.canLay0
    rw [a]
    rfl
  have sh : SeqAt.shaped (toldD (es, j)) = true := by
    unfold SeqAt.shaped
    rw [cl, Bool.true_and]
    refine decide_eq_true ?_
    have : (toldD (es, j)).depth ≤ 3 := by
      unfold toldD PyData.depth
      refine Nat.succ_le_succ ?_
      unfold PyData.depthAll PyData.depth
      refine Nat.max_le.mpr ⟨Nat.succ_le_succ b, by simp [PyData.depthAll, PyData.depth]⟩
    omega
  have hq := PySem.SeqAt.eqv_refl _ cl
  constructor
  · show (match datOf S (toldV n (es, j)), datOf S (.d (toldD (es, j))) with | some x, some y => okIf (SeqAt.shaped x = true ∧ SeqAt.shaped y = true) (.bool (PyData.eqv x y)) S | _, _ => .stuck) = _
    rw [hd]
    show okIf (SeqAt.shaped (toldD (es, j)) = true ∧ SeqAt.shaped (toldD (es, j)) = true) (.bool (PyData.eqv (toldD (es, j)) (toldD (es, j)))) S = _
    rw [hq]
    exact if_pos ⟨sh, sh⟩
  · show (match datOf S (toldV n (es, j)), datOf S (.d (toldD (es, j))) with | some x, some y => okIf (SeqAt.shaped x = true ∧ SeqAt.shaped y = true) (.bool (!PyData.eqv x y)) S | _, _ => .stuck) = _
    rw [hd]
    show okIf (SeqAt.shaped (toldD (es, j)) = true ∧ SeqAt.shaped (toldD (es, j)) = true) (.bool (!PyData.eqv (toldD (es, j)) (toldD (es, j)))) S = _
    rw [hq]
    exact if_pos ⟨sh, sh⟩
end HT
end

section
set_option Elab.async false
set_option linter.all false
set_option maxRecDepth 100000
set_option maxHeartbeats 4000000
/-! T11: law_right, its first half -/
namespace HT
open PySem PySem.Spec L2 Ev
theorem gs_asg {Gl : List PyData} {K : Calls} {t : Tg} {e : CE} {ρ : EnvD} {S : Store} {N B C : EnvD → Store → Prop} {R : Val → Store → Prop} (h : Gets (dE Gl K e ρ S) fun v S1 => ∃ ρ1, tgt t v ρ = some ρ1 ∧ N ρ1 S1) : GS (dS Gl K (.asg t e) ρ S) N R B C := by
  obtain ⟨v, S1, e1, ρ1, e2, q⟩ := h
  simp only [dS]
  rw [e1]
  show GS (match tgt t v ρ with | some ρ1 => SOut.next ρ1 S1 | none => .stuck) N R B C
  rw [e2]
  exact q
theorem gs_if {Gl : List PyData} {K : Calls} {c : CE} {a b : CSs} {ρ : EnvD} {S S1 : Store} {N B C : EnvD → Store → Prop} {R : Val → Store → Prop} (h : dT Gl K c ρ S = .ok false S1) (q : GS (dSs Gl K b ρ S1) N R B C) : GS (dS Gl K (.ife c a b) ρ S) N R B C := by
  rw [gs_ifeS]
  exact ⟨false, S1, h, by dsimp only; rw [if_neg (by decide)]; exact q⟩
/-- the store since: another pot, lists behind -/
def Sx (p : Nat) (S S' : Store) : Prop := ∃ o T, PotO o ∧ S' = S.set p o ++ T
theorem Sx.refl {p : Nat} {S : Store} (h : Pot p S) : Sx p S S := by
  obtain ⟨o, e, ho⟩ := h
  refine ⟨o, [], ho, ?_⟩
  obtain ⟨hl, e⟩ := List.getElem?_eq_some_iff.mp e
  rw [← e, List.set_getElem_self, List.append_nil]
theorem Sx.pot {p : Nat} {S S' : Store} (h : Sx p S S') (hp : Pot p S) : Pot p S' := by
  obtain ⟨o, T, ho, rfl⟩ := h
  exact (hp.set ho).app
theorem Sx.set {p : Nat} {S S' : Store} (h : Sx p S S') (hp : Pot p S) {o : Ob} (ho : PotO o) : Sx p S (S'.set p o) := by
  obtain ⟨o1, T, ho1, rfl⟩ := h
  refine ⟨o, T, ho, ?_⟩
  rw [List.set_append_left _ _ (by rw [List.length_set]; exact hp.lt), List.set_set]
theorem Sx.app {p : Nat} {S S' : Store} (h : Sx p S S') (T : Store) : Sx p S (S' ++ T) := by
  obtain ⟨o1, T1, ho1, rfl⟩ := h
  exact ⟨o1, T1 ++ T, ho1, by rw [List.append_assoc]⟩
theorem Sx.take {p : Nat} {S S' : Store} (h : Sx p S S') : ∃ o, PotO o ∧ S'.take S.length = S.set p o := by
  obtain ⟨o, T, ho, rfl⟩ := h
  refine ⟨o, ho, ?_⟩
  rw [List.take_append_of_le_length (by simp)]
  exact List.take_of_length_le (by simp)
def ev (pt en tn ro e r te a ah pl sg fi be : Option Val) : EnvD := [pt, en, tn, ro, e, r, te, a, ah, pl, sg, fi, be]
def enV (es : List (List (List Nat))) : Option Val := some (.d (.list (fsD es)))
def rwsD (es : List (List (List Nat))) : List PyData := es.map fun e => .str (tx (rowW e ++ [10]))
def rwV (es : List (List (List Nat))) : Option Val := some (.d (.list (rwsD es)))
theorem rel_good {es : List PyData} : (∀ d ∈ es, ∃ ws ∈ entSet, d = wsD ws) → ∃ fs : List (List (List Nat)), es = fsD fs ∧ ∀ e ∈ fs, Good e := by
  induction es with
  | nil => exact fun _ => ⟨[], rfl, fun e h => by cases h⟩
  | cons d es ih =>
    intro h
    obtain ⟨ws, hw, rfl⟩ := h d List.mem_cons_self
    obtain ⟨fs, rfl, hf⟩ := ih fun x hx => h x (List.mem_cons_of_mem _ hx)
    exact ⟨ws :: fs, rfl, fun e he => by
      rcases List.mem_cons.mp he with rfl | he
      · exact good_of hw
      · exact hf e he⟩
theorem join0_ok (ls : List (List Nat)) (k : Nat) (h : ∀ w ∈ ls, w.length ≤ k) (hk : k * ls.length ≤ 160000) (S : Store) : smV .join (tx []) [.d (.list (ls.map fun w => .str (tx w)))] S = .ok (.d (.str (tx ls.flatten))) S := by
  have e : smV .join (tx []) [.d (.list (ls.map fun w => .str (tx w)))] S = okIf (((ls.map tx).map (·.length)).sum + (ls.map tx).length * (tx []).length ≤ 16777216) (.str (Txt.join (tx []) (ls.map tx))) S := by
    show (match (some (ls.map fun w => PyData.str (tx w))).bind strsOf with | some ys => _ | none => _) = _
    rw [Option.bind_some, strs_ws]
  rw [e, join_0]
  refine if_pos ?_
  have : ∀ l : List (List Nat), (∀ w ∈ l, w.length ≤ k) → ((l.map tx).map (·.length)).sum ≤ k * l.length := by
    intro l
    induction l with
    | nil => intro _; simp
    | cons a l ih =>
      intro hl
      have h1 := hl a List.mem_cons_self
      have h2 := ih fun x hx => hl x (List.mem_cons_of_mem _ hx)
      simp only [List.map_cons, List.sum_cons, tx_len, List.length_cons, Nat.mul_add]
      omega
  have h2 := this ls h
  simp only [List.length_map, tx_len, List.length_nil] at h2 ⊢
  omega
theorem join_rows {es : List (List (List Nat))} (h : ∀ e ∈ es, Good e) (hl : es.length ≤ 100) (S : Store) : smV .join (tx []) [.d (.list (rwsD es))] S = .ok (.d (.str (tx (joinR es)))) S := by
  have e : rwsD es = (es.map fun e => rowW e ++ [10]).map fun w => .str (tx w) := by unfold rwsD; rw [List.map_map]; rfl
  rw [e, join0_ok (es.map fun e => rowW e ++ [10]) 85 (fun w hw => by
    obtain ⟨x, hx, rfl⟩ := List.mem_map.mp hw
    exact (h x hx).rasc.len) (by rw [List.length_map]; omega), joinR_flat]
theorem empS : ("" : Str) = tx [] := by decide +kernel
theorem two_rp {a : PyData} {k : Nat} (h : Tame k 3 a) (hk : k ≤ 10000) : Rp (.list [a, a]) := rp_of (m := 2 * k + 2) (Tame.list (TameAll.cons (a := k) (b := k + 1) h (TameAll.cons (a := k) (b := 0) h TameAll.nil (by omega)) (by omega))) (by omega) (by decide)
/-- a pair of an entry and its row -/
theorem pair_turn {n : Nat} (hn : 5 < n) {e : List (List Nat)} (h : Good e) (S : Store) (ρ : EnvD) (h4 : ρ[4]? = some (some (.d (wsD e)))) (h5 : ρ[5]? = some (some (.d (.str (tx (rowW e ++ [10])))))) :
    dT G (sem G T n) (.or (.cons (.cmp .NotEq (.bi .repr (.cons (.lst false (.cons (.call 13 (.cons (.var 4) .nil)) (.cons (.kall 13 [0] .nil (.cons (.var 4) .nil)) .nil))) .nil)) (.bi .repr (.cons (.lst false (.cons (.var 5) (.cons (.var 5) .nil))) .nil))) (.cons (.cmp .NotEq (.call 12 (.cons (.sme .join (.cst (.str " ")) (.cons (.var 4) .nil)) .nil)) (.call 18 (.cons (.sme .join (.cst (.str " ")) (.cons (.var 4) .nil)) .nil))) .nil))) ρ S = .ok false S := by
  have e1 := r_row_of (n := n) (by omega) h
  have e2 := r_sum_of (n := n) (by omega) h.asc (by decide)
  have e3 := r_law_sum (n := n) (by omega) h.asc (by decide)
  have hj := fun S => join_ok h.ws (by have := h.many; omega) 32 S _ (.inl rfl)
  rw [show jn 32 e = bodyW e from rfl] at hj
  have hr : ∀ S, biV .repr [.d (.list [.str (tx (rowW e ++ [10])), .str (tx (rowW e ++ [10]))])] S = .ok (.d (.str (PyData.shown (.list [.str (tx (rowW e ++ [10])), .str (tx (rowW e ++ [10]))])))) S := fun S => repr_ok rfl (two_rp (k := 85) h.rasc.tame (by decide))
  refine ok_of ?_
  simp [dSs, dS, dE, dEs, dAnd, dOr, dT, Ev.tAnd, Ev.tOr, dU, dN, dB2, dIf, dVar, dCst, dO, dC, dI, dCall, dKall, pick, entry, isiV, isiV2, isTys, isTy, tobV, truO, truV, okIf, datOf, seqOf, lstOf, datas, lstV, tupV, elsOf, Out.bind_ok, h4, h5, e1, hr, strO, blank_tx, hj, e2, e3]
end HT
end

section
set_option Elab.async false
set_option linter.all false
set_option maxRecDepth 100000
set_option maxHeartbeats 4000000
/-! T12: law_right -/
namespace HT
open PySem PySem.Spec L2 Ev
def signL : List Nat := [48, 49, 50, 51, 52, 53, 54, 55, 56, 57, 32, 97, 98, 122, 126, 65, 66, 108, 105, 110, 101]
theorem signs_list (S : Store) : biV .list [.d (.str ("0123456789 abz~ABline" : Str))] S = .ok (.d (.list (signL.map fun c => .str (tx [c])))) S := by
  have e : ("0123456789 abz~ABline" : Str).cps.toList = signL := by decide +kernel
  have l : ("0123456789 abz~ABline" : Str).length ≤ sizeLine := line_of (by decide +kernel)
  show okIf (("0123456789 abz~ABline" : Str).length ≤ sizeLine) (.list (("0123456789 abz~ABline" : Str).cps.toList.map fun c => .str ⟨#[c]⟩)) S = _
  rw [e]
  exact if_pos l
/-- rows_in of whole rows and something behind, compared -/
theorem ne_told {n : Nat} (hn : 4 < n) {es : List (List (List Nat))} (h : ∀ e ∈ es, Good e) {k j : Nat} {l : List Nat} (ha : Asc k l) (hk : k ≤ 900) (hr : rdT l = (es, j)) (S : Store) :
    ∃ S1, sem G T n 14 [.d (.str (tx l))] S = .ok (toldV S.length (es, j)) S1 ∧ S1 = S ++ [.lst (fsD es)] ∧
      cmpV .NotEq (toldV S.length (es, j)) (.d (toldD (es, j))) S1 = .ok (.d (.bool false)) S1 ∧ cmpV .Eq (toldV S.length (es, j)) (.d (toldD (es, j))) S1 = .ok (.d (.bool true)) S1 := by
  have e := r_rows_in hn ha hk S
  rw [hr] at e
  have g1 : (S ++ [Ob.lst (fsD es)])[S.length]? = some (.lst (fsD es)) := by simp
  exact ⟨_, e, rfl, (told_eq h g1 j).2, (told_eq h g1 j).1⟩
theorem tup_told (es : List (List (List Nat))) (j : Nat) (S : Store) : tupV [.d (.list (fsD es)), .d (.int (j : Int))] S = .ok (.d (toldD (es, j))) S := by
  simp [tupV, datas, okIf, toldD]
theorem idx_str (l : List Nat) (hl : l.length ≤ 100000) (i : Nat) (c : Nat) (h : l[i]? = some c) (S : Store) : idxV (.d (.str (tx l))) (.d (.int (i : Int))) S = .ok (.d (.str (tx [c]))) S := by
  have e : atI l (i : Int) = some c := by
    have hi := (List.getElem?_eq_some_iff.mp h).1
    unfold atI ixN
    rw [if_pos (by omega), if_pos (by omega)]
    simpa using h
  show (if (tx l).length ≤ sizeLine then match atI (tx l).cps.toList (i : Int) with | some c => Out.ok (Val.d (.str ⟨#[c]⟩)) S | none => .stuck else .stuck) = _
  rw [if_pos (line_of (by rw [tx_len]; omega)), tl_tx, e]
theorem extra_asc {e : List (List Nat)} (h : Good e) {d : PyData} (hd : d ∈ [PyData.str "", .str (repS "~" 9), .str "x", .str "\n", .str "12", .str " \n", .str (tx ((rowW e ++ [10]).drop 1))]) : ∃ l, d = .str (tx l) ∧ Asc 90 l := by
  simp only [List.mem_cons, List.not_mem_nil, or_false] at hd
  rcases hd with rfl | rfl | rfl | rfl | rfl | rfl | rfl
  · exact ⟨_, by rw [tl_S], asc_w (by decide +kernel)⟩
  · exact ⟨_, by rw [tl_S], asc_w (by decide +kernel)⟩
  · exact ⟨_, by rw [tl_S], asc_w (by decide +kernel)⟩
  · exact ⟨_, by rw [tl_S], asc_w (by decide +kernel)⟩
  · exact ⟨_, by rw [tl_S], asc_w (by decide +kernel)⟩
  · exact ⟨_, by rw [tl_S], asc_w (by decide +kernel)⟩
  · exact ⟨_, rfl, (h.rasc.drop 1).up (by decide)⟩
theorem cut_tk (l : List Nat) (k : Nat) : cutS (tx l) none (some (k : Int)) = tx (l.take k) := by
  rw [cut_tx, cut_to]
theorem add_tx {a b : List Nat} (h : a.length + b.length ≤ 160000) (S : Store) : binV .Add (.d (.str (tx a))) (.d (.str (tx b))) S = .ok (.d (.str (tx (a ++ b)))) S := by
  rw [add_ss, tx_cat]
  unfold okIf
  rw [if_pos (line_of (by rw [tx_len, tx_len]; exact h))]
theorem index_ok {l : List Nat} {c j : Nat} (h : fnd c l = some j) (S : Store) : smV .index (tx l) [.d (.str (tx [c]))] S = .ok (.d (.int (j : Int))) S := by
  have e := occ_1 l c
  rw [h] at e
  show (match Builtin.Str.occurrences (tx l) (tx [c]) 0 (tx l).length 1 with | i :: _ => Out.ok (Val.d (.int (i : Nat))) S | [] => .stuck) = _
  rw [e]
theorem cut_but (l : List Nat) (c : Nat) : cutS (tx (l ++ [c])) none (some (-1)) = tx l := by
  rw [cut_tx, cut_last _ (by simp)]
  simp
theorem cut_fr' (l : List Nat) (j : Int) (k : Nat) (h : j = (k : Int)) : cutS (tx l) (some j) none = tx (l.drop k) := by
  rw [h, cut_tx, cut_from]
theorem cut_to' (l : List Nat) (j : Int) (k : Nat) (h : j = (k : Int)) : cutS (tx l) none (some j) = tx (l.take k) := by
  rw [h, cut_tk]
theorem idx_str' (l : List Nat) (hl : l.length ≤ 100000) (j : Int) (i : Nat) (hj : j = (i : Int)) (c : Nat) (h : l[i]? = some c) (S : Store) : idxV (.d (.str (tx l))) (.d (.int j)) S = .ok (.d (.str (tx [c]))) S := by
  rw [hj]
  exact idx_str l hl i c h S
theorem Good.long {ws : List (List Nat)} (h : Good ws) : 5 ≤ (bodyW ws).length := by
  obtain ⟨w, rest, hw, e⟩ := h.shape
  rw [e]
  rcases hw with rfl | rfl | rfl <;> simp [dropL, beginL, lineL] <;> omega
theorem split_at (l : List Nat) (i : Nat) (h : i < l.length) : ∃ P c R, l = P ++ c :: R ∧ P.length = i := ⟨l.take i, l[i], l.drop (i + 1), by rw [← List.drop_eq_getElem_cons h, List.take_append_drop], by rw [List.length_take]; omega⟩
theorem row_nl' {n : Nat} {b : List Nat} (h : 10 ∉ b) : 10 ∉ num n ++ 32 :: b := by
  intro hm
  rcases List.mem_append.mp hm with hm | hm
  · exact TL.numL_free (.inl (by decide)) hm
  · rcases List.mem_cons.mp hm with e | hm
    · cases e
    · exact h hm
theorem sign_ok {s : Nat} (h : s ∈ signL) : s < 128 ∧ s ≠ 10 := by
  have : signL.all (fun s => decide (s < 128) && decide (s ≠ 10)) = true := by decide
  have := List.all_eq_true.mp this s h
  rw [Bool.and_eq_true, decide_eq_true_eq, decide_eq_true_eq] at this
  exact this
theorem r_law_right {n : Nat} (hn : 9 < n) {p : Nat} {S : Store} (hp : Pot p S) :
    Gets (sem G T n 26 [.loc p] S) fun v S' => ∃ b o, v = .d (.bool b) ∧ b = true ∧ PotO o ∧ S' = S.set p o := by
  obtain ⟨n', rfl⟩ : ∃ m, n = m + 1 := ⟨n - 1, by omega⟩
  refine gets_def t_law_right (ev (some (.loc p)) none none none none none none none none none none none none) rfl rfl ?_
  have hmu : f_law_right.mu = false := rfl
  dsimp only [f_law_right]
  -- entries
  obtain ⟨_, _, e1, d, o, rfl, d0, d5, ho, rfl⟩ := r_draw (n := n') (by omega) hp (m := 5) (by decide) (by decide)
  obtain ⟨k, hk⟩ : ∃ k : Nat, (k : Int) = 1 + d := ⟨(1 + d).toNat, by omega⟩
  have hp1 := hp.set ho
  rw [gs_cons]
  refine gs_asg ?_
  simp only [dE, List.map_cons, List.map_nil]
  refine gets_lcN (R := fun d => ∃ ws ∈ entSet, d = wsD ws) 0 k (S := S.set p o) (it_rng1 (by simp [dSs, dS, dE, dEs, dAnd, dOr, dT, Ev.tAnd, Ev.tOr, dU, dN, dB2, dIf, dVar, dCst, dO, dC, dI, dCall, dKall, pick, entry, isiV, isiV2, isTys, isTy, tobV, truO, truV, okIf, datOf, seqOf, lstOf, datas, lstV, tupV, elsOf, Out.bind_ok, ev, e1, hk]) (by omega)) (by rw [sizeLine_eq]; omega) hp1 (fun i hi S' hS' => ⟨_, rfl, ?_⟩) fun ds o2 hlen hR ho2 => ?_
  · obtain ⟨_, _, e2, d, o2, rfl, hd, ho2, rfl⟩ := r_entry (n := n') (by omega) hS'
    simp [dSs, dS, dE, dEs, dAnd, dOr, dT, Ev.tAnd, Ev.tOr, dU, dN, dB2, dIf, dVar, dCst, dO, dC, dI, dCall, dKall, pick, entry, isiV, isiV2, isTys, isTy, tobV, truO, truV, okIf, datOf, seqOf, lstOf, datas, lstV, tupV, elsOf, Out.bind_ok, ev, wipeD, e2]
    exact ⟨hd, o2, ho2, rfl⟩
  obtain ⟨es, rfl, hg⟩ := rel_good hR
  have hel : es.length = k := by simpa [fsD] using hlen
  have x1 : Sx p S ((S.set p o).set p o2) := ((Sx.refl hp).set hp ho).set hp ho2
  generalize (S.set p o).set p o2 = S1 at x1
  refine ⟨ev (some (.loc p)) (enV es) none none none none none none none none none none none, rfl, ?_⟩
  -- rows
  rw [gs_cons]
  refine gs_asg ?_
  simp only [dE, List.map_cons, List.map_nil]
  have hz : es.length ≤ sizeLine := line_of (by omega)
  refine gets_each (fun e : List (List Nat) => Val.d (wsD e)) (fun e => .str (tx (rowW e ++ [10]))) es (n := none) (S := S1) (by simp [dSs, dS, dE, dEs, dAnd, dOr, dT, Ev.tAnd, Ev.tOr, dU, dN, dB2, dIf, dVar, dCst, dO, dC, dI, dCall, dKall, pick, entry, isiV, isiV2, isTys, isTy, tobV, truO, truV, okIf, datOf, seqOf, lstOf, datas, lstV, tupV, elsOf, Out.bind_ok, ev, enV, fsD]) trivial (fun e he => ⟨_, rfl, by
    have := r_law_rowG (n := n') (by omega) (hg e he)
    simp [dSs, dS, dE, dEs, dAnd, dOr, dT, Ev.tAnd, Ev.tOr, dU, dN, dB2, dIf, dVar, dCst, dO, dC, dI, dCall, dKall, pick, entry, isiV, isiV2, isTys, isTy, tobV, truO, truV, okIf, datOf, seqOf, lstOf, datas, lstV, tupV, elsOf, Out.bind_ok, ev, wipeD, this]⟩) hz ?_
  rw [if_neg (by decide)]
  refine ⟨ev (some (.loc p)) (enV es) none (rwV es) none none none none none none none none none, rfl, ?_⟩
  -- each pair
  rw [gs_cons, gs_forS]
  refine ⟨⟨es.map fun e => Val.d (.tuple [wsD e, .str (tx (rowW e ++ [10]))]), none⟩, S1, by
    have ez : (fsD es).zip (rwsD es) = es.map fun e => (wsD e, PyData.str (tx (rowW e ++ [10]))) := by
      unfold fsD rwsD
      rw [List.zip_map']
    simp [dSs, dS, dE, dEs, dAnd, dOr, dT, Ev.tAnd, Ev.tOr, dU, dN, dB2, dIf, dVar, dCst, dO, dC, dI, dCall, dKall, pick, entry, isiV, isiV2, isTys, isTy, tobV, truO, truV, okIf, datOf, seqOf, lstOf, datas, lstV, tupV, elsOf, Out.bind_ok, ev, enV, rwV, ez], ?_⟩
  refine gs_for (fun vs ρ S' => ∃ (l : List (List (List Nat))) (r4 r5 : Option Val), vs = l.map (fun e => Val.d (.tuple [wsD e, .str (tx (rowW e ++ [10]))])) ∧ (∀ e ∈ l, Good e) ∧ S' = S1 ∧ ρ = ev (some (.loc p)) (enV es) none (rwV es) r4 r5 none none none none none none none) ?_ ?_ _ _ _ ⟨es, none, none, rfl, hg, rfl, rfl⟩
  · rintro v vs ρ S' ⟨l, r4, r5, e, hl, rfl, rfl⟩
    cases l with
    | nil => cases e
    | cons w l =>
      rw [List.map_cons] at e
      injection e with e1 e2
      subst e1 e2
      refine ⟨trivial, ev (some (.loc p)) (enV es) none (rwV es) (some (.d (wsD w))) (some (.d (.str (tx (rowW w ++ [10]))))) none none none none none none none, by simp [tgt, setAll, ev], ?_⟩
      rw [gs_cons]
      refine gs_if (pair_turn (n := n') (by omega) (hl w List.mem_cons_self) S' _ rfl rfl) ?_
      rw [gs_nil, gs_nil]
      exact ⟨l, _, _, rfl, fun x hx => hl x (List.mem_cons_of_mem _ hx), rfl, rfl⟩
  rintro ρ S' ⟨l, r4, r5, e, hl, rfl, rfl⟩
  refine ⟨trivial, ?_⟩
  -- text
  have hes1 : 1 ≤ es.length := by omega
  have hes5 : es.length ≤ 5 := by omega
  have hja : Asc 425 (joinR es) := (joinR_asc hg).up (by omega)
  have hj := join_rows hg (by omega)
  rw [gs_cons]
  refine gs_of_nextS (ρ := ev (some (.loc p)) (enV es) none (rwV es) r4 r5 (some (.d (.str (tx (joinR es))))) none none none none none none) (S := S') (by simp [dSs, dS, dE, dEs, dAnd, dOr, dT, Ev.tAnd, Ev.tOr, dU, dN, dB2, dIf, dVar, dCst, dO, dC, dI, dCall, dKall, pick, entry, isiV, isiV2, isTys, isTy, tobV, truO, truV, okIf, datOf, seqOf, lstOf, datas, lstV, tupV, elsOf, Out.bind_ok, ev, rwV, strO, empS, hj, tgt, Ev.Out.s]) ?_
  -- read whole
  obtain ⟨e0, es', rfl⟩ : ∃ e0 es', es = e0 :: es' := by
    cases es with
    | nil => simp at hes1
    | cons a b => exact ⟨a, b, rfl⟩
  have hg0 := hg e0 List.mem_cons_self
  obtain ⟨S2, f1, f2, f3, _⟩ := ne_told (n := n') (by omega) hg hja (by decide) (rdT_join hg) S'
  have x2 : Sx p S S2 := by rw [f2]; exact x1.app _
  have hp2 := x2.pot hp
  obtain ⟨_, _, f4, d4, hd4, o4, rfl, ho4, rfl⟩ := r_pick (n := n') (by omega) hp2 (some := [PyData.str "", .str (repS "~" 9), .str "x", .str "\n", .str "12", .str " \n", .str (tx ((rowW e0 ++ [10]).drop 1))]) (by simp) (by simp) _ (.inl rfl)
  obtain ⟨lx, rfl, hlx⟩ := extra_asc hg0 hd4
  have x3 := x2.set hp ho4
  have f5 := r_read_right (n := n') (by omega) (hja.app hlx (Nat.le_refl _)) (by decide) (S2.set p o4)
  have m1 : ∀ S, binV .Mult (.d (.str ("~" : Str))) (.d (.int 9)) S = .ok (.d (.str (repS "~" 9))) S := fun S => mul_s ⟨by decide, by decide, by decide +kernel, by decide +kernel⟩ S
  have hjl : (joinR (e0 :: es')).length ≤ sizeLine := line_of (by have := hja.len; omega)
  have hjl2 : (joinR (e0 :: es')).length + lx.length ≤ sizeLine := line_of (by have := hja.len; have := hlx.len; omega)
  have hrl : (rowW e0).length + 1 ≤ sizeLine := line_of (by have := hg0.rasc.len; simp at this; omega)
  have htu := tup_told (e0 :: es') (joinR (e0 :: es')).length S2
  have hc1 : cutS (tx (rowW e0 ++ [10])) (some 1) none = tx ((rowW e0 ++ [10]).drop 1) := by
    rw [cut_tx, show (1 : Int) = ((1 : Nat) : Int) from rfl, cut_from]
  have hix : ∀ S, idxV (.d (.list (rwsD (e0 :: es')))) (.d (.int 0)) S = .ok (.d (.str (tx (rowW e0 ++ [10])))) S := fun S => by
    rw [idx_li]
    simp [rwsD]
  generalize (rowW e0 ++ [10]).drop 1 = dr at f4 hc1
  rw [gs_cons]
  refine gs_if (S1 := S2.set p o4) (by
    refine ok_of ?_
    simp only [dT, Ev.tOr, dE, dEs, dB2, dN, dCall, dVar, ev, enV, rwV, List.getElem?_cons_zero, List.getElem?_cons_succ, Out.bind_ok, f1]
    simp [-ne_ss, dE, dCst, len_s, okIf, hjl, htu, f3, tobV, m1, hix, dO, hc1, hrl, lstV, datas, f4, tx_cat, hjl2, f5, truO, truV]) ?_
  rw [gs_nil]
  generalize hSb : S2.set p o4 = Sb at x3 f5
  -- cut short
  rw [gs_cons, gs_forS]
  refine ⟨rngI 0 5, Sb, by simp [dSs, dS, dE, dEs, dAnd, dOr, dT, Ev.tAnd, Ev.tOr, dU, dN, dB2, dIf, dVar, dCst, dO, dC, dI, dCall, dKall, pick, entry, isiV, isiV2, isTys, isTy, tobV, truO, truV, okIf, datOf, seqOf, lstOf, datas, lstV, tupV, elsOf, Out.bind_ok], ?_⟩
  refine gs_for (fun vs ρ S' => ∃ r2 : Option Val, Sx p S S' ∧ ρ = ev (some (.loc p)) (enV (e0 :: es')) r2 (rwV (e0 :: es')) r4 r5 (some (.d (.str (tx (joinR (e0 :: es')))))) none none none none none none ∧ ∀ v ∈ vs, ∃ i : Int, v = .d (.int i)) ?_ ?_ _ _ _ ⟨none, x3, rfl, fun v hv => by
    obtain ⟨i, _, rfl⟩ := List.mem_map.mp hv
    exact ⟨_, rfl⟩⟩
  · rintro v vs ρ S3 ⟨r2, y1, rfl, hv⟩
    obtain ⟨i, rfl⟩ := hv v List.mem_cons_self
    refine ⟨trivial, ev (some (.loc p)) (enV (e0 :: es')) (some (.d (.int i))) (rwV (e0 :: es')) r4 r5 (some (.d (.str (tx (joinR (e0 :: es')))))) none none none none none none, by simp [tgt, ev], ?_⟩
    have hpos : 0 < (joinR (e0 :: es')).length := by simp [joinR]; omega
    obtain ⟨_, _, g1, d, o5, rfl, hd0, hd1, ho5, rfl⟩ := r_draw (n := n') (by omega) (y1.pot hp) (m := ((joinR (e0 :: es')).length : Int)) (by omega) (by have := hja.len; omega)
    obtain ⟨c, rfl⟩ : ∃ c : Nat, d = (c : Int) := ⟨d.toNat, by omega⟩
    have y2 := y1.set hp ho5
    have g2 := r_read_right (n := n') (by omega) (hja.take c) (by decide) (S3.set p o5)
    have hc := cut_tk (joinR (e0 :: es')) c
    rw [gs_cons]
    refine gs_if (S1 := S3.set p o5) (by
      refine ok_of ?_
      simp [dSs, dS, dE, dEs, dAnd, dOr, dT, Ev.tAnd, Ev.tOr, dU, dN, dB2, dIf, dVar, dCst, dO, dC, dI, dCall, dKall, pick, entry, isiV, isiV2, isTys, isTy, tobV, truO, truV, okIf, datOf, seqOf, lstOf, datas, lstV, tupV, elsOf, Out.bind_ok, ev, hjl, g1, hc, g2]) ?_
    rw [gs_nil, gs_nil]
    exact ⟨some (.d (.int i)), y2, rfl, fun u hu => hv u (List.mem_cons_of_mem _ hu)⟩
  rintro ρ S3 ⟨r2, y1, rfl, _⟩
  refine ⟨trivial, ?_⟩
  -- which row
  obtain ⟨_, _, g1, d, o5, rfl, hd0, hd1, ho5, rfl⟩ := r_draw (n := n') (by omega) (y1.pot hp) (m := ((e0 :: es').length : Int)) (by omega) (by omega)
  obtain ⟨w, rfl⟩ : ∃ c : Nat, d = (c : Int) := ⟨d.toNat, by omega⟩
  have y2 := y1.set hp ho5
  generalize S3.set p o5 = S4 at g1 y2
  generalize hes : e0 :: es' = es at *
  rw [gs_cons]
  refine gs_asg ⟨_, S4, by
    have hl3 : biV .len [.d (.list (rwsD es))] S3 = .ok (.d (.int (es.length : Int))) S3 := by rw [len_l]; simp [rwsD]
    simp only [dE, dEs, dN, dCall, dVar, ev, rwV, List.getElem?_cons_zero, List.getElem?_cons_succ, Out.bind_ok, hl3, g1], ev (some (.loc p)) (enV es) r2 (rwV es) r4 r5 (some (.d (.str (tx (joinR es))))) (some (.d (.int (w : Int)))) none none none none none, rfl, ?_⟩
  have hw : w < es.length := by omega
  obtain ⟨e, he⟩ : ∃ e, es[w]? = some e := ⟨es[w], List.getElem?_eq_getElem hw⟩
  have hge : Good e := hg e (List.mem_of_getElem? he)
  have hga : ∀ x ∈ es.take w, Good x := fun x hx => hg x (List.mem_of_mem_take hx)
  have hgb : ∀ x ∈ es.drop (w + 1), Good x := fun x hx => hg x (List.mem_of_mem_drop hx)
  have hja2 : Asc 425 (joinR (es.take w)) := (joinR_asc hga).up (by rw [List.length_take]; omega)
  have hjb2 : Asc 425 (joinR (es.drop (w + 1))) := (joinR_asc hgb).up (by rw [List.length_drop]; omega)
  have hj2 := join_rows hga (by rw [List.length_take]; omega)
  have hj3 := join_rows hgb (by rw [List.length_drop]; omega)
  have hct : cutD (rwsD es) none (some (w : Int)) = rwsD (es.take w) := by
    unfold rwsD
    rw [cut_map, cut_to]
  have hcd : cutD (rwsD es) (some ((w : Int) + 1)) none = rwsD (es.drop (w + 1)) := by
    unfold rwsD
    rw [cut_map, show (w : Int) + 1 = ((w + 1 : Nat) : Int) by simp, cut_from]
  have hce : cutD (fsD es) none (some (w : Int)) = fsD (es.take w) := by
    unfold fsD
    rw [cut_map, cut_to]
  have hat : atI (rwsD es) (w : Int) = some (.str (tx (rowW e ++ [10]))) := by
    unfold atI ixN rwsD
    rw [if_pos (by omega), if_pos (by simp; omega)]
    simp [he]
  rw [gs_cons]
  refine gs_of_nextS (ρ := ev (some (.loc p)) (enV es) r2 (rwV es) r4 (some (.d (.str (tx (rowW e ++ [10]))))) (some (.d (.str (tx (joinR es))))) (some (.d (.int (w : Int)))) (some (.d (.str (tx (joinR (es.take w)))))) none none none none) (S := S4) (by
    simp [dSs, dS, dE, dEs, dAnd, dOr, dT, Ev.tAnd, Ev.tOr, dU, dN, dB2, dIf, dVar, dCst, dO, dC, dI, dCall, dKall, pick, entry, isiV, isiV2, isTys, isTy, tobV, truO, truV, okIf, datOf, seqOf, lstOf, datas, lstV, tupV, elsOf, Out.bind_ok, ev, rwV, strO, empS, hct, hj2, hat, Ev.Out.s, parD]) ?_
  have hea := hge.rasc
  have hnl : 10 ∉ rowW e := row_nl hge.nl
  have hlen : (rowW e).length = (num (sumN (bodyW e))).length + 1 + (bodyW e).length := by simp [rowW, rowL]; omega
  have hlong := hge.long
  have hel2 : (rowW e).length ≤ 84 := by have := hea.len; simp at this; omega
  have hja3 := hja2.len
  have hjb3 := hjb2.len
  have htu2 := fun S => tup_told (es.take w) (joinR (es.take w)).length S
  rw [gs_cons, gs_forS]
  refine ⟨rngI 0 8, S4, by simp [dSs, dS, dE, dEs, dAnd, dOr, dT, Ev.tAnd, Ev.tOr, dU, dN, dB2, dIf, dVar, dCst, dO, dC, dI, dCall, dKall, pick, entry, isiV, isiV2, isTys, isTy, tobV, truO, truV, okIf, datOf, seqOf, lstOf, datas, lstV, tupV, elsOf, Out.bind_ok], ?_⟩
  refine gs_for (fun vs ρ S' => ∃ r2 a9 a10 a11 a12 : Option Val, Sx p S S' ∧ ρ = ev (some (.loc p)) (enV es) r2 (rwV es) r4 (some (.d (.str (tx (rowW e ++ [10]))))) (some (.d (.str (tx (joinR es))))) (some (.d (.int (w : Int)))) (some (.d (.str (tx (joinR (es.take w)))))) a9 a10 a11 a12 ∧ ∀ v ∈ vs, ∃ i : Int, v = .d (.int i)) ?_ ?_ _ _ _ ⟨r2, none, none, none, none, y2, rfl, fun v hv => by
    obtain ⟨i, _, rfl⟩ := List.mem_map.mp hv
    exact ⟨_, rfl⟩⟩
  · clear y2 g1 hR f1 f2 f3 f4 f5 hd4
    rintro v vs ρ S5 ⟨r2, a9, a10, a11, a12, z1, rfl, hv⟩
    obtain ⟨i, rfl⟩ := hv v List.mem_cons_self
    refine ⟨trivial, ev (some (.loc p)) (enV es) (some (.d (.int i))) (rwV es) r4 (some (.d (.str (tx (rowW e ++ [10]))))) (some (.d (.str (tx (joinR es))))) (some (.d (.int (w : Int)))) (some (.d (.str (tx (joinR (es.take w)))))) a9 a10 a11 a12, by simp [tgt, ev], ?_⟩
    -- place, sign
    obtain ⟨_, _, g1, d, o6, rfl, hd0, hd1, ho6, rfl⟩ := r_draw (n := n') (by omega) (z1.pot hp) (m := ((rowW e).length : Int)) (by omega) (by omega)
    obtain ⟨pl, rfl⟩ : ∃ c : Nat, d = (c : Int) := ⟨d.toNat, by omega⟩
    have z2 := z1.set hp ho6
    obtain ⟨_, _, g2, d, hd, o7, rfl, ho7, rfl⟩ := r_pick (n := n') (by omega) (z2.pot hp) (some := signL.map fun c => .str (tx [c])) (by simp [signL]) (by simp [signL]) _ (.inl rfl)
    obtain ⟨s, hs, rfl⟩ := List.mem_map.mp hd
    obtain ⟨hs1, hs2⟩ := sign_ok hs
    have z3 := z2.set hp ho7
    generalize hS6 : (S5.set p o6).set p o7 = S6 at g2 z3
    have hsl := signs_list (S5.set p o6)
    have hrl2 : (rowW e).length + 1 ≤ sizeLine := line_of (by omega)
    rw [gs_cons]
    refine gs_of_nextS (ρ := ev (some (.loc p)) (enV es) (some (.d (.int i))) (rwV es) r4 (some (.d (.str (tx (rowW e ++ [10]))))) (some (.d (.str (tx (joinR es))))) (some (.d (.int (w : Int)))) (some (.d (.str (tx (joinR (es.take w)))))) (some (.d (.int (pl : Int)))) (some (.d (.str (tx [s])))) a11 a12) (S := S6) (by
      have h1 : ((rowW e).length : Int) + 1 - 1 = ((rowW e).length : Int) := by omega
      simp [dSs, dS, dE, dEs, dAnd, dOr, dT, Ev.tAnd, Ev.tOr, dU, dN, dB2, dIf, dVar, dCst, dO, dC, dI, dCall, dKall, pick, entry, isiV, isiV2, isTys, isTy, tobV, truO, truV, okIf, datOf, seqOf, lstOf, datas, lstV, tupV, elsOf, Out.bind_ok, ev, hrl2, h1, g1, hsl, g2, Ev.Out.s, parD]) ?_
    -- one sign otherwise
    obtain ⟨P, c, R', hP, hPl⟩ := split_at (rowW e) pl (by omega)
    have hPR : P.length + (R'.length + 1) ≤ 84 := by rw [hP] at hel2; simpa using hel2
    have hix1 := idx_str' (rowW e ++ [10]) (by simp; omega) (pl : Int) pl rfl c (by rw [hP, ← hPl]; simp)
    obtain ⟨S7, z4, hcase⟩ : ∃ S7, Sx p S S7 ∧ dT G (sem G T n') (.and (.cons (.cmp .NotEq (.idx (.var 5) (.var 9)) (.var 10)) (.cons (.cmp .NotEq (.call 14 (.cons (.bin .Add (.bin .Add (.bin .Add (.bin .Add (.var 8) (.sli (.var 5) .none (.some (.var 9)))) (.var 10)) (.sli (.var 5) (.some (.bin .Add (.var 9) (.cst (.int 1)))) .none)) (.sme .join (.cst (.str "")) (.cons (.sli (.var 3) (.some (.bin .Add (.var 7) (.cst (.int 1)))) .none) .nil))) .nil)) (.tup (.cons (.sli (.var 1) .none (.some (.var 7))) (.cons (.bi .len (.cons (.var 8) .nil)) .nil)))) .nil))) (ev (some (.loc p)) (enV es) (some (.d (.int i))) (rwV es) r4 (some (.d (.str (tx (rowW e ++ [10]))))) (some (.d (.str (tx (joinR es))))) (some (.d (.int (w : Int)))) (some (.d (.str (tx (joinR (es.take w)))))) (some (.d (.int (pl : Int)))) (some (.d (.str (tx [s])))) a11 a12) S6 = .ok false S7 := by
      by_cases hcs : c = s
      · refine ⟨S6, z3, ok_of ?_⟩
        subst hcs
        simp [-ne_ss, dSs, dS, dE, dEs, dAnd, dOr, dT, Ev.tAnd, Ev.tOr, dU, dN, dB2, dIf, dVar, dCst, dO, dC, dI, dCall, dKall, pick, entry, isiV, isiV2, isTys, isTy, tobV, truO, truV, okIf, datOf, seqOf, lstOf, datas, lstV, tupV, elsOf, Out.bind_ok, ev, hix1, neq_tx]
      · have hb := hurt_one hge hP hs1 hcs
        have hn10 : 10 ∉ P ++ s :: R' := fun hm => by
          rcases List.mem_append.mp hm with hm | hm
          · exact hnl (by rw [hP]; exact List.mem_append_left _ hm)
          · rcases List.mem_cons.mp hm with hm | hm
            · exact hs2 hm.symm
            · exact hnl (by rw [hP]; exact List.mem_append_right _ (List.mem_cons_of_mem _ hm))
        have hasc : Asc 900 (joinR (es.take w) ++ ((P ++ s :: R') ++ 10 :: joinR (es.drop (w + 1)))) := by
          have c1 : ∀ x ∈ P, x < 128 := fun x hx => hea.cs x (by rw [hP]; simp [hx])
          have c2 : ∀ x ∈ R', x < 128 := fun x hx => hea.cs x (by rw [hP]; simp [hx])
          refine ⟨?_, fun x hx => ?_⟩
          · have : (es.take w).length + (es.drop (w + 1)).length ≤ 4 := by rw [List.length_take, List.length_drop]; omega
            have l1 := (joinR_asc hga).len
            have l2 := (joinR_asc hgb).len
            simp only [List.length_append, List.length_cons]
            omega
          · simp only [List.mem_append, List.mem_cons] at hx
            rcases hx with hx | (hx | rfl | hx) | rfl | hx
            · exact hja2.cs x hx
            · exact c1 x hx
            · exact hs1
            · exact c2 x hx
            · decide
            · exact hjb2.cs x hx
        obtain ⟨S7, f1, f2, f3, _⟩ := ne_told (n := n') (by omega) hga hasc (by decide) (rdT_bad hga hb hn10 _) S6
        refine ⟨S7, by rw [f2]; exact z3.app _, ok_of ?_⟩
        have t1 : cutS (tx (rowW e ++ [10])) none (some (pl : Int)) = tx P := by
          rw [cut_to' _ _ pl rfl, hP, ← hPl]
          simp
        have t2 : cutS (tx (rowW e ++ [10])) (some ((pl : Int) + 1)) none = tx (R' ++ [10]) := by
          rw [cut_fr' _ _ (pl + 1) (by simp), hP, ← hPl]
          have : P ++ c :: R' ++ [10] = P ++ c :: (R' ++ [10]) := by simp
          rw [this, drop_past]
        have hnc : (c = s) = False := eq_false hcs
        have k1 := fun S => add_tx (a := joinR (es.take w)) (b := P) (by omega) S
        have k2 := fun S => add_tx (a := joinR (es.take w) ++ P) (b := [s]) (by simp; omega) S
        have k3 := fun S => add_tx (a := joinR (es.take w) ++ P ++ [s]) (b := R' ++ [10]) (by simp; omega) S
        have k4 := fun S => add_tx (a := joinR (es.take w) ++ P ++ [s] ++ (R' ++ [10])) (b := joinR (es.drop (w + 1))) (by simp; omega) S
        have k5 : joinR (es.take w) ++ P ++ [s] ++ (R' ++ [10]) ++ joinR (es.drop (w + 1)) = joinR (es.take w) ++ ((P ++ s :: R') ++ 10 :: joinR (es.drop (w + 1))) := by simp
        rw [k5] at k4
        have hal : (joinR (es.take w)).length ≤ sizeLine := line_of (by omega)
        simp only [dT, Ev.tAnd, dE, dEs, dB2, dN, dCall, dVar, dCst, dO, ev, enV, rwV, List.getElem?_cons_zero, List.getElem?_cons_succ, Out.bind_ok, hix1, neq_tx, tobV, prt_i]
        simp [-add_ss, -List.append_assoc, hnc, okIf, hrl2, t1, t2, k1, k2, k3, strO, empS, hcd, hj3, k4, f1, hce, hal, htu2, f3, tobV]
    rw [gs_cons]
    refine gs_if hcase ?_
    rw [gs_nil]
    -- neighbours exchanged
    have hfi : fnd 32 (rowW e ++ [10]) = some (num (sumN (bodyW e))).length := by
      have : rowW e ++ [10] = num (sumN (bodyW e)) ++ 32 :: (bodyW e ++ [10]) := by simp [rowW, rowL]
      rw [this, fnd_app _ (num_sp _)]
    obtain ⟨nl, hnl2⟩ : ∃ nl, nl = (num (sumN (bodyW e))).length := ⟨_, rfl⟩
    rw [← hnl2] at hfi hlen
    have hix := index_ok hfi
    rw [gs_cons]
    refine gs_of_nextS (ρ := ev (some (.loc p)) (enV es) (some (.d (.int i))) (rwV es) r4 (some (.d (.str (tx (rowW e ++ [10]))))) (some (.d (.str (tx (joinR es))))) (some (.d (.int (w : Int)))) (some (.d (.str (tx (joinR (es.take w)))))) (some (.d (.int (pl : Int)))) (some (.d (.str (tx [s])))) (some (.d (.int ((nl : Int) + 1)))) a12) (S := S7) (by
      simp [dSs, dS, dE, dEs, dAnd, dOr, dT, Ev.tAnd, Ev.tOr, dU, dN, dB2, dIf, dVar, dCst, dO, dC, dI, dCall, dKall, pick, entry, isiV, isiV2, isTys, isTy, tobV, truO, truV, okIf, datOf, seqOf, lstOf, datas, lstV, tupV, elsOf, Out.bind_ok, ev, strO, blank_tx, hix, tgt, Ev.Out.s]) ?_
    obtain ⟨_, _, g3, d, o8, rfl, hd0, hd1, ho8, rfl⟩ := r_draw (n := n') (by omega) (z4.pot hp) (m := ((bodyW e).length : Int) - 1) (by omega) (by have := hge.asc.len; omega)
    obtain ⟨q, rfl⟩ : ∃ c : Nat, d = (c : Int) := ⟨d.toNat, by omega⟩
    have z5 := z4.set hp ho8
    generalize S7.set p o8 = S8 at g3 z5
    rw [gs_cons]
    refine gs_of_nextS (ρ := ev (some (.loc p)) (enV es) (some (.d (.int i))) (rwV es) r4 (some (.d (.str (tx (rowW e ++ [10]))))) (some (.d (.str (tx (joinR es))))) (some (.d (.int (w : Int)))) (some (.d (.str (tx (joinR (es.take w)))))) (some (.d (.int ((nl : Int) + 1 + (q : Int))))) (some (.d (.str (tx [s])))) (some (.d (.int ((nl : Int) + 1)))) a12) (S := S8) (by
      have h1 : ((rowW e).length : Int) + 1 - 2 - ((nl : Int) + 1) = ((bodyW e).length : Int) - 1 := by omega
      simp [dSs, dS, dE, dEs, dAnd, dOr, dT, Ev.tAnd, Ev.tOr, dU, dN, dB2, dIf, dVar, dCst, dO, dC, dI, dCall, dKall, pick, entry, isiV, isiV2, isTys, isTy, tobV, truO, truV, okIf, datOf, seqOf, lstOf, datas, lstV, tupV, elsOf, Out.bind_ok, ev, hrl2, h1, g3, tgt, Ev.Out.s]) ?_
    obtain ⟨P2, c2, R2, hP2, hPl2⟩ := split_at (bodyW e) q (by omega)
    obtain ⟨d2, R3, rfl⟩ : ∃ d2 R3, R2 = d2 :: R3 := by
      cases R2 with
      | nil =>
        exfalso
        have := congrArg List.length hP2
        simp at this
        omega
      | cons a b => exact ⟨a, b, rfl⟩
    have hrow : rowW e ++ [10] = (num (sumN (bodyW e)) ++ 32 :: P2) ++ c2 :: d2 :: (R3 ++ [10]) := by
      have : rowW e = num (sumN (bodyW e)) ++ 32 :: bodyW e := rfl
      rw [this, hP2]
      simp
    have hhl : (num (sumN (bodyW e)) ++ 32 :: P2).length = nl + 1 + q := by simp [← hnl2, hPl2]; omega
    have hPR2 : P2.length + (R3.length + 2) ≤ 78 := by
      have := hge.asc.len
      rw [hP2] at this
      simp at this
      omega
    have hnl5 : nl ≤ 5 := by rw [hnl2]; exact (sum_asc _).len
    obtain ⟨hd, hhd⟩ : ∃ hd, hd = num (sumN (bodyW e)) ++ 32 :: P2 := ⟨_, rfl⟩
    rw [← hhd] at hrow hhl
    have i1 := idx_str' (rowW e ++ [10]) (by simp; omega) ((nl : Int) + 1 + (q : Int)) (nl + 1 + q) (by simp) c2 (by rw [hrow, ← hhl]; simp)
    have i2 := idx_str' (rowW e ++ [10]) (by simp; omega) ((nl : Int) + 1 + (q : Int) + 1) (nl + 1 + q + 1) (by simp) d2 (by rw [hrow, ← hhl]; simp)
    have t3 : cutS (tx (rowW e ++ [10])) none (some ((nl : Int) + 1 + (q : Int))) = tx hd := by
      rw [cut_to' _ _ (nl + 1 + q) (by simp), hrow, ← hhl]
      simp
    have t4 : cutS (tx (rowW e ++ [10])) (some ((nl : Int) + 1 + (q : Int) + 2)) none = tx (R3 ++ [10]) := by
      rw [cut_fr' _ _ (nl + 1 + q + 2) (by simp), hrow, ← hhl, show hd.length + 2 = (hd ++ [c2]).length + 1 by simp, show hd ++ c2 :: d2 :: (R3 ++ [10]) = (hd ++ [c2]) ++ d2 :: (R3 ++ [10]) by simp, drop_past]
    have k1 := fun S => add_tx (a := hd) (b := [d2]) (by simp; omega) S
    have k2 := fun S => add_tx (a := hd ++ [d2]) (b := [c2]) (by simp; omega) S
    have k3 := fun S => add_tx (a := hd ++ [d2] ++ [c2]) (b := R3 ++ [10]) (by simp; omega) S
    rw [gs_cons]
    refine gs_of_nextS (ρ := ev (some (.loc p)) (enV es) (some (.d (.int i))) (rwV es) r4 (some (.d (.str (tx (rowW e ++ [10]))))) (some (.d (.str (tx (joinR es))))) (some (.d (.int (w : Int)))) (some (.d (.str (tx (joinR (es.take w)))))) (some (.d (.int ((nl : Int) + 1 + (q : Int))))) (some (.d (.str (tx [s])))) (some (.d (.int ((nl : Int) + 1)))) (some (.d (.str (tx (hd ++ [d2] ++ [c2] ++ (R3 ++ [10]))))))) (S := S8) (by
      simp [-add_ss, -List.append_assoc, dSs, dS, dE, dEs, dAnd, dOr, dT, Ev.tAnd, Ev.tOr, dU, dN, dB2, dIf, dVar, dCst, dO, dC, dI, dCall, dKall, pick, entry, isiV, isiV2, isTys, isTy, tobV, truO, truV, okIf, datOf, seqOf, lstOf, datas, lstV, tupV, elsOf, Out.bind_ok, ev, hrl2, t3, t4, i1, i2, k1, k2, k3, tgt, Ev.Out.s]) ?_
    obtain ⟨S9, z6, hcase2⟩ : ∃ S9, Sx p S S9 ∧ dT G (sem G T n') (.and (.cons (.cmp .NotEq (.idx (.var 5) (.var 9)) (.idx (.var 5) (.bin .Add (.var 9) (.cst (.int 1))))) (.cons (.cmp .NotEq (.call 14 (.cons (.bin .Add (.var 8) (.var 12)) .nil)) (.tup (.cons (.sli (.var 1) .none (.some (.var 7))) (.cons (.bi .len (.cons (.var 8) .nil)) .nil)))) .nil))) (ev (some (.loc p)) (enV es) (some (.d (.int i))) (rwV es) r4 (some (.d (.str (tx (rowW e ++ [10]))))) (some (.d (.str (tx (joinR es))))) (some (.d (.int (w : Int)))) (some (.d (.str (tx (joinR (es.take w)))))) (some (.d (.int ((nl : Int) + 1 + (q : Int))))) (some (.d (.str (tx [s])))) (some (.d (.int ((nl : Int) + 1)))) (some (.d (.str (tx (hd ++ [d2] ++ [c2] ++ (R3 ++ [10]))))))) S8 = .ok false S9 := by
      by_cases hcs : c2 = d2
      · refine ⟨S8, z5, ok_of ?_⟩
        subst hcs
        simp [-ne_ss, dSs, dS, dE, dEs, dAnd, dOr, dT, Ev.tAnd, Ev.tOr, dU, dN, dB2, dIf, dVar, dCst, dO, dC, dI, dCall, dKall, pick, entry, isiV, isiV2, isTys, isTy, tobV, truO, truV, okIf, datOf, seqOf, lstOf, datas, lstV, tupV, elsOf, Out.bind_ok, ev, i1, i2, neq_tx]
      · have hb := hurt_two hge hP2 hcs
        have hbn := hge.nl
        rw [hP2] at hbn
        have hn10 : 10 ∉ num (sumN (bodyW e)) ++ 32 :: (P2 ++ d2 :: c2 :: R3) := row_nl' (by simp only [List.mem_append, List.mem_cons, not_or] at hbn ⊢; exact ⟨hbn.1, hbn.2.2.1, hbn.2.1, hbn.2.2.2⟩)
        have hasc : Asc 900 (joinR (es.take w) ++ ((num (sumN (bodyW e)) ++ 32 :: (P2 ++ d2 :: c2 :: R3)) ++ 10 :: [])) := by
          have hbc : ∀ x ∈ bodyW e, x < 128 := hge.asc.cs
          rw [hP2] at hbc
          refine ⟨?_, fun x hx => ?_⟩
          · simp only [List.length_append, List.length_cons, List.length_nil, ← hnl2]
            omega
          · simp only [List.mem_append, List.mem_cons, List.not_mem_nil, or_false] at hx
            rcases hx with hx | (hx | rfl | hx | rfl | rfl | hx) | rfl
            · exact hja2.cs x hx
            · have := dig hx; omega
            · decide
            · exact hbc x (by simp [hx])
            · exact hbc x (by simp)
            · exact hbc x (by simp)
            · exact hbc x (by simp [hx])
            · decide
        obtain ⟨S9, f1, f2, f3, _⟩ := ne_told (n := n') (by omega) hga hasc (by decide) (rdT_bad hga hb hn10 _) S8
        refine ⟨S9, by rw [f2]; exact z5.app _, ok_of ?_⟩
        have hnc : (c2 = d2) = False := eq_false hcs
        have k4 := fun S => add_tx (a := joinR (es.take w)) (b := hd ++ [d2] ++ [c2] ++ (R3 ++ [10])) (by simp; omega) S
        have k5 : joinR (es.take w) ++ (hd ++ [d2] ++ [c2] ++ (R3 ++ [10])) = joinR (es.take w) ++ ((num (sumN (bodyW e)) ++ 32 :: (P2 ++ d2 :: c2 :: R3)) ++ 10 :: []) := by rw [hhd]; simp
        rw [k5] at k4
        have hal : (joinR (es.take w)).length ≤ sizeLine := line_of (by omega)
        simp only [dT, Ev.tAnd, dE, dEs, dB2, dN, dCall, dVar, dCst, dO, ev, enV, rwV, List.getElem?_cons_zero, List.getElem?_cons_succ, Out.bind_ok, add_ii, i1, i2, neq_tx, tobV, prt_i, k4, f1]
        simp [-add_ss, -List.append_assoc, hnc, okIf, hce, hal, htu2, f3, tobV]
    rw [gs_cons]
    refine gs_if hcase2 ?_
    rw [gs_nil, gs_nil]
    exact ⟨some (.d (.int i)), _, _, _, _, z6, rfl, fun u hu => hv u (List.mem_cons_of_mem _ hu)⟩
  clear y2
  rintro ρ S5 ⟨r2, a9, a10, a11, a12, z1, rfl, _⟩
  refine ⟨trivial, ?_⟩
  have hasc : Asc 900 (joinR (es.take w) ++ rowW e) := by
    have hc : ∀ x ∈ rowW e, x < 128 := fun x hx => hea.cs x (List.mem_append_left _ hx)
    refine ⟨by rw [List.length_append]; omega, fun x hx => ?_⟩
    rcases List.mem_append.mp hx with hx | hx
    · exact hja2.cs x hx
    · exact hc x hx
  obtain ⟨S9, u1, u2, _, u3⟩ := ne_told (n := n') (by omega) hga hasc (by decide) (rdT_cut hga hnl) S5
  have z2 : Sx p S S9 := by rw [u2]; exact z1.app _
  obtain ⟨of, hof, htk⟩ := z2.take
  have k4 := fun S => add_tx (a := joinR (es.take w)) (b := rowW e) (by omega) S
  have hal : (joinR (es.take w)).length ≤ sizeLine := line_of (by omega)
  have hrl2 : (rowW e).length + 1 ≤ sizeLine := line_of (by omega)
  have t5 := cut_but (rowW e) 10
  rw [gs_cons]
  simp only [dS, dE, dEs, dB2, dN, dCall, dVar, dCst, dO, ev, enV, rwV, List.getElem?_cons_zero, List.getElem?_cons_succ, Out.bind_ok, prt_i, sli_s]
  simp [-add_ss, -List.append_assoc, okIf, hrl2, t5, k4, u1, hce, hal, htu2, u3, htk]
  exact ⟨of, hof, rfl⟩
end HT
end

section
set_option Elab.async false
set_option linter.all false
set_option maxRecDepth 100000
set_option maxHeartbeats 4000000
/-! T13: sums, odd rows -/
namespace HT
open PySem PySem.Spec L2 Ev
def oddL : List Nat := [97, 98, 32, 126, 10, 48]
theorem odd_list (S : Store) : biV .list [.d (.str ("ab ~\n0" : Str))] S = .ok (.d (.list (oddL.map fun c => .str (tx [c])))) S := by
  have e : ("ab ~\n0" : Str).cps.toList = oddL := by decide +kernel
  have l : ("ab ~\n0" : Str).length ≤ sizeLine := line_of (by decide +kernel)
  show okIf (("ab ~\n0" : Str).length ≤ sizeLine) (.list (("ab ~\n0" : Str).cps.toList.map fun c => .str ⟨#[c]⟩)) S = _
  rw [e]
  exact if_pos l
theorem rel_odd {es : List PyData} : (∀ d ∈ es, ∃ c ∈ oddL, d = .str (tx [c])) → ∃ cs : List Nat, es = (cs.map fun c => [c]).map (fun w => .str (tx w)) ∧ ∀ c ∈ cs, c < 128 := by
  induction es with
  | nil => exact fun _ => ⟨[], rfl, fun e h => by cases h⟩
  | cons d es ih =>
    intro h
    obtain ⟨c, hc, rfl⟩ := h d List.mem_cons_self
    obtain ⟨cs, rfl, hf⟩ := ih fun x hx => h x (List.mem_cons_of_mem _ hx)
    refine ⟨c :: cs, rfl, fun e he => ?_⟩
    rcases List.mem_cons.mp he with rfl | he
    · have : oddL.all (fun s => decide (s < 128)) = true := by decide
      exact of_decide_eq_true (List.all_eq_true.mp this e hc)
    · exact hf e he
theorem flat_one : ∀ cs : List Nat, (cs.map fun c => [c]).flatten = cs
  | [] => rfl
  | c :: cs => by simp [flat_one cs]
theorem sums_of {n k : Nat} {ls : List (List Nat)} (h : ∀ l ∈ ls, Asc 400 l) (hl : ls.length ≤ 100) (hk : ∀ l ∈ ls, ∀ S, sem G T n k [.d (.str (tx l))] S = .ok (.d (.int (sumN l))) S) (ρ : EnvD) (h1 : ρ[1]? = some (some (.d (.list (ls.map fun l => .str (tx l)))))) (hρ : ρ.length = 4) (S : Store) :
    dE G (sem G T n) (.lc false (.call k (.cons (.var 3) .nil)) [("text", 3)] (.nm 3) (.seq (.var 1)) .none) ρ S = .ok (.d (.list (ls.map fun l => .int (sumN l)))) S := by
  refine ok_of ?_
  simp only [dE, List.map_cons, List.map_nil]
  refine gets_each (fun l : List Nat => Val.d (.str (tx l))) (fun l => .int (sumN l)) ls (n := none) (S := S) (by simp [dSs, dS, dE, dEs, dAnd, dOr, dT, Ev.tAnd, Ev.tOr, dU, dN, dB2, dIf, dVar, dCst, dO, dC, dI, dCall, dKall, pick, entry, isiV, isiV2, isTys, isTy, tobV, truO, truV, okIf, datOf, seqOf, lstOf, datas, lstV, tupV, elsOf, Out.bind_ok, h1]) trivial (fun l hl' => ⟨_, rfl, ?_⟩) (line_of (by omega)) ?_
  · have e := hk l hl' S
    have hlt : 3 < ρ.length := by omega
    simp [dSs, dS, dE, dEs, dAnd, dOr, dT, Ev.tAnd, Ev.tOr, dU, dN, dB2, dIf, dVar, dCst, dO, dC, dI, dCall, dKall, pick, entry, isiV, isiV2, isTys, isTy, tobV, truO, truV, okIf, datOf, seqOf, lstOf, datas, lstV, tupV, elsOf, Out.bind_ok, wipeD, hlt, e]
  · rw [if_neg (by decide)]
    exact ⟨rfl, rfl⟩
theorem r_sums_right {n : Nat} (hn : 9 < n) {p : Nat} {S : Store} (hp : Pot p S) :
    Gets (sem G T n 27 [.loc p] S) fun v S' => ∃ b o, v = .d (.bool b) ∧ b = true ∧ PotO o ∧ S' = S.set p o := by
  obtain ⟨n', rfl⟩ : ∃ m, n = m + 1 := ⟨n - 1, by omega⟩
  refine gets_def t_law_sums_right [some (.loc p), none, none, none] rfl rfl ?_
  dsimp only [f_law_sums_right]
  have hd : Gets (dE G (sem G T n') (.lc false (.call 17 (.cons (.var 0) (.cons (.bi .list (.cons (.cst (.str "ab ~\n0")) .nil)) .nil))) [("turn", 2)] (.nm 2) (.rng1 (.cst (.int 30))) .none) [some (.loc p), none, none, none] S) fun v S' => ∃ (cs : List Nat) (o : Ob), v = .d (.list ((cs.map fun c => [c]).map fun w => .str (tx w))) ∧ cs.length = 30 ∧ (∀ c ∈ cs, c < 128) ∧ PotO o ∧ S' = S.set p o := by
    simp only [dE, List.map_cons, List.map_nil]
    refine gets_lcN (R := fun d => ∃ c ∈ oddL, d = .str (tx [c])) 0 30 (S := S) (it_rng1 (by simp [dSs, dS, dE, dEs, dAnd, dOr, dT, Ev.tAnd, Ev.tOr, dU, dN, dB2, dIf, dVar, dCst, dO, dC, dI, dCall, dKall, pick, entry, isiV, isiV2, isTys, isTy, tobV, truO, truV, okIf, datOf, seqOf, lstOf, datas, lstV, tupV, elsOf, Out.bind_ok]) (by omega)) (by rw [sizeLine_eq]; omega) hp (fun i hi S' hS' => ⟨_, rfl, ?_⟩) fun ds o2 hlen hR ho2 => ?_
    · obtain ⟨_, _, g2, d, hd, o7, rfl, ho7, rfl⟩ := r_pick (n := n') (by omega) hS' (some := oddL.map fun c => .str (tx [c])) (by simp [oddL]) (by simp [oddL]) _ (.inl rfl)
      obtain ⟨c, hc, rfl⟩ := List.mem_map.mp hd
      have e := odd_list S'
      simp [dSs, dS, dE, dEs, dAnd, dOr, dT, Ev.tAnd, Ev.tOr, dU, dN, dB2, dIf, dVar, dCst, dO, dC, dI, dCall, dKall, pick, entry, isiV, isiV2, isTys, isTy, tobV, truO, truV, okIf, datOf, seqOf, lstOf, datas, lstV, tupV, elsOf, Out.bind_ok, wipeD, e, g2]
      exact ⟨hc, o7, ho7, rfl⟩
    · obtain ⟨cs, rfl, hc⟩ := rel_odd hR
      exact ⟨cs, o2, rfl, by simpa using hlen, hc, ho2, rfl⟩
  obtain ⟨_, _, e1, cs, o, rfl, hcl, hc, ho, rfl⟩ := hd
  have hj := join0_ok (cs.map fun c => [c]) 1 (fun w hw => by obtain ⟨c, _, rfl⟩ := List.mem_map.mp hw; simp) (by simp; omega) (S.set p o)
  rw [flat_one] at hj
  have m1 : ∀ S, binV .Mult (.d (.str ("~" : Str))) (.d (.int 400)) S = .ok (.d (.str (repS "~" 400))) S := fun S => mul_s ⟨by decide, by decide, by decide +kernel, by decide +kernel⟩ S
  obtain ⟨ls, hls⟩ : ∃ ls : List (List Nat), ls = [("" : Str).cps.toList, ("a" : Str).cps.toList, (" " : Str).cps.toList, (repS "~" 400).cps.toList, ("line b x" : Str).cps.toList, cs] := ⟨_, rfl⟩
  have hll : ls.length = 6 := by rw [hls]; rfl
  have hla : ∀ l ∈ ls, Asc 400 l := by
    intro l hl
    rw [hls] at hl
    simp only [List.mem_cons, List.not_mem_nil, or_false] at hl
    rcases hl with rfl | rfl | rfl | rfl | rfl | rfl
    · exact asc_w (by decide +kernel)
    · exact asc_w (by decide +kernel)
    · exact asc_w (by decide +kernel)
    · exact asc_w (by decide +kernel)
    · exact asc_w (by decide +kernel)
    · exact ⟨by omega, hc⟩
  have hlD : [PyData.str "", .str "a", .str " ", .str (repS "~" 400), .str "line b x", .str (tx cs)] = ls.map fun l => .str (tx l) := by
    rw [hls]
    simp only [List.map_cons, List.map_nil, tl_S]
  rw [gs_cons]
  refine gs_asg ⟨.d (.list (ls.map fun l => .str (tx l))), S.set p o, by
    have hlc := e1
    simp only [dE, dEs, dN, dB2, dCst, dVar, Out.bind_ok, m1, strO, empS] at hlc ⊢
    rw [hlc]
    simp only [Out.bind_ok, ← empS]
    rw [show ("" : Str) = tx [] from empS] 
    rw [hj]
    simp only [Out.bind_ok, lstV, datas, Option.map_some]
    rw [← empS, hlD]
    simp [hll], [some (.loc p), some (.d (.list (ls.map fun l => .str (tx l)))), none, none], rfl, ?_⟩
  have s1 := sums_of (n := n') (k := 12) hla (by omega) (fun l hl S => r_sum_of (by omega) (hla l hl) (by decide) S) [some (.loc p), some (.d (.list (ls.map fun l => .str (tx l)))), none, none] rfl rfl
  have s2 := sums_of (n := n') (k := 18) hla (by omega) (fun l hl S => r_law_sum (by omega) (hla l hl) (by decide) S) [some (.loc p), some (.d (.list (ls.map fun l => .str (tx l)))), none, none] rfl rfl
  have hcs : Asc 400 cs := ⟨by omega, hc⟩
  have i1 : atI (ls.map fun l => PyData.str (tx l)) (-1) = some (.str (tx cs)) := by rw [hls]; rfl
  have g1 := r_sum_of (n := n') (by omega) hcs (by decide)
  have g2 := r_law_sum (n := n') (by omega) hcs (by decide)
  have hrp : Rp (.list ((ls.map fun l => PyData.int (sumN l)) ++ [.int (sumN cs)])) := by
    have hsm : ∀ l : List Nat, Tame 0 0 (.int (sumN l : Int)) := fun l => tame_small (by omega) (by have := sumN_lt l; omega)
    refine rp_of (m := 100) (k := 1) (tame_list (m := 0) (k := 0) (fun d hd => ?_) (by simp [hll])) (by decide) (by decide)
    rcases List.mem_append.mp hd with hd | hd
    · obtain ⟨l, _, rfl⟩ := List.mem_map.mp hd
      exact hsm l
    · rw [List.mem_singleton.mp hd]
      exact hsm cs
  have hrr : ∀ S, biV .repr [.d (.list ((ls.map fun l => PyData.int (sumN l)) ++ [.int (sumN cs)]))] S = .ok (.d (.str (PyData.shown (.list ((ls.map fun l => PyData.int (sumN l)) ++ [.int (sumN cs)]))))) S := fun S => repr_ok rfl hrp
  have hzz : (ls.map fun l => PyData.int (sumN l)).length + 1 ≤ sizeLine := by rw [List.length_map, hll]; exact line_of (by decide)
  have hadd : ∀ S, binV .Add (.d (.list (ls.map fun l => PyData.int (sumN l)))) (.d (.list [.int (sumN cs)])) S = .ok (.d (.list ((ls.map fun l => PyData.int (sumN l)) ++ [.int (sumN cs)]))) S := fun S => by
    rw [add_ll]
    exact if_pos hzz
  have hlst : ∀ S x, lstV false [.d x] S = .ok (.d (.list [x])) S := fun S x => by simp [lstV, datas]
  rw [gs_cons]
  generalize (CE.lc false (.call 12 (.cons (.var 3) .nil)) [("text", 3)] (.nm 3) (.seq (.var 1)) .none) = L1 at s1 ⊢
  generalize (CE.lc false (.call 18 (.cons (.var 3) .nil)) [("text", 3)] (.nm 3) (.seq (.var 1)) .none) = L2 at s2 ⊢
  simp only [dS, dE, dEs, dN, dB2, dCall, dKall, pick, dVar, dCst, s1, s2, Out.bind_ok, List.getElem?_cons_zero, List.getElem?_cons_succ, idx_li, i1, List.mapM_cons, List.mapM_nil, List.nil_append]
  simp [g1, g2, hlst, hadd, hrr, s2]
  exact ⟨o, ho, rfl⟩
def bodS : List Str := ["line b x", "line b", "line  b x", "begin b cave", "begin b cave x", "begin b", "drop b", "drop b x", "drop a", "head 1 0", "line north x", "Line b x", " drop b", "drop b ", ""]
theorem s_b : ("b" : Str) = tx [98] := by decide +kernel
theorem r_odd_right {n : Nat} (hn : 9 < n) {p : Nat} {S : Store} (hp : Pot p S) :
    Gets (sem G T n 28 [.loc p] S) fun v S' => ∃ b o, v = .d (.bool b) ∧ b = true ∧ PotO o ∧ S' = S.set p o := by
  obtain ⟨n', rfl⟩ : ∃ m, n = m + 1 := ⟨n - 1, by omega⟩
  refine gets_def t_law_odd_right [some (.loc p), none, none, none, none, none] rfl rfl ?_
  dsimp only [f_law_odd_right]
  obtain ⟨_, _, e1, d, hd, o, rfl, ho, rfl⟩ := r_pick (n := n') (by omega) hp (some := bodS.map .str) (by decide) (by decide) _ (.inl rfl)
  obtain ⟨x, hx, rfl⟩ := List.mem_map.mp hd
  have hxa : Asc 20 x.cps.toList := by
    have : bodS.all (fun x => decide (x.cps.toList.length ≤ 20) && x.cps.toList.all fun c => decide (c < 128)) = true := by decide +kernel
    exact asc_w (List.all_eq_true.mp this x hx)
  obtain ⟨b, rfl⟩ : ∃ b, x = tx b := ⟨x.cps.toList, by rw [tl_S]⟩
  rw [tl_tx] at hxa
  rw [gs_cons]
  refine gs_asg ⟨.d (.list (bodS.map .str)), S, by
    have : ([PyData.str "line b x", .str "line b", .str "line  b x", .str "begin b cave", .str "begin b cave x", .str "begin b", .str "drop b", .str "drop b x", .str "drop a", .str "head 1 0", .str "line north x", .str "Line b x", .str " drop b", .str "drop b ", .str ""] : List PyData) = bodS.map .str := rfl
    have hbl : bodS.length ≤ sizeLine := line_of (by decide)
    simp [dSs, dS, dE, dEs, dAnd, dOr, dT, Ev.tAnd, Ev.tOr, dU, dN, dB2, dIf, dVar, dCst, dO, dC, dI, dCall, dKall, pick, entry, isiV, isiV2, isTys, isTy, tobV, truO, truV, okIf, datOf, seqOf, lstOf, datas, lstV, tupV, elsOf, Out.bind_ok, this, hbl], [some (.loc p), some (.d (.list (bodS.map .str))), none, none, none, none], rfl, ?_⟩
  rw [gs_cons]
  refine gs_asg ⟨.d (.str (tx b)), S.set p o, by
    simp only [dE, dEs, dN, dCall, dVar, List.getElem?_cons_zero, List.getElem?_cons_succ, Out.bind_ok, e1], [some (.loc p), some (.d (.list (bodS.map .str))), some (.d (.str (tx b))), none, none, none], rfl, ?_⟩
  have g1 := r_law_sum (n := n') (by omega) hxa (by decide)
  have hg := lg (n := sumN b) (Nat.lt_trans (sumN_lt _) (by decide))
  have hs := sum_asc b
  rw [gs_cons]
  refine gs_of_nextS (ρ := [some (.loc p), some (.d (.list (bodS.map .str))), some (.d (.str (tx b))), some (.d (.str (tx (num (sumN b))))), none, none]) (S := S.set p o) (by
    simp [dSs, dS, dE, dEs, dAnd, dOr, dT, Ev.tAnd, Ev.tOr, dU, dN, dB2, dIf, dVar, dCst, dO, dC, dI, dCall, dKall, pick, entry, isiV, isiV2, isTys, isTy, tobV, truO, truV, okIf, datOf, seqOf, lstOf, datas, lstV, tupV, elsOf, Out.bind_ok, g1, hg, num_repr, tgt, Ev.Out.s]) ?_
  generalize num (sumN b) = t at hs
  have ht := hs.len
  have hb := hxa.len
  obtain ⟨rs, hrs⟩ : ∃ rs : List (List Nat), rs = [t ++ [32] ++ b, [48] ++ t ++ [32] ++ b, [32] ++ t ++ [32] ++ b, t ++ [32, 32] ++ b, [43] ++ t ++ [32] ++ b, t ++ b, t ++ [32] ++ b ++ [32]] := ⟨_, rfl⟩
  have hra : ∀ r ∈ rs, Asc 40 r := by
    intro r hr
    have c1 := hs.cs
    have c2 := hxa.cs
    have cc : ∀ r : List Nat, r.length ≤ 40 → (∀ x ∈ r, x ∈ t ∨ x ∈ b ∨ x = 32 ∨ x = 48 ∨ x = 43) → Asc 40 r := fun r h1 h2 => ⟨h1, fun x hx => by
      rcases h2 x hx with h | h | rfl | rfl | rfl
      · exact c1 x h
      · exact c2 x h
      · decide
      · decide
      · decide⟩
    rw [hrs] at hr
    simp only [List.mem_cons, List.not_mem_nil, or_false] at hr
    rcases hr with rfl | rfl | rfl | rfl | rfl | rfl | rfl
    all_goals
      refine cc _ (by simp; omega) fun x hx => ?_
      simp only [List.mem_append, List.mem_cons, List.not_mem_nil, or_false] at hx
      grind
  have z : ∀ m, m ≤ 160000 → m ≤ sizeLine := fun m => line_of
  have s0 : ("0" : Str) = tx [48] := by decide +kernel
  have s2 : ("  " : Str) = tx [32, 32] := by decide +kernel
  have sp : ("+" : Str) = tx [43] := by decide +kernel
  rw [gs_cons]
  refine gs_of_nextS (ρ := [some (.loc p), some (.d (.list (bodS.map .str))), some (.d (.str (tx b))), some (.d (.str (tx t))), some (.d (.list (rs.map fun r => .str (tx r)))), none]) (S := S.set p o) (by
    have a1 := fun S => add_tx (a := t) (b := [32]) (by simp; omega) S
    have a2 := fun S => add_tx (a := t ++ [32]) (b := b) (by simp; omega) S
    have a3 := fun S => add_tx (a := [48]) (b := t) (by simp; omega) S
    have a4 := fun S => add_tx (a := [48] ++ t) (b := [32]) (by simp; omega) S
    have a5 := fun S => add_tx (a := [48] ++ t ++ [32]) (b := b) (by simp; omega) S
    have a6 := fun S => add_tx (a := [32]) (b := t) (by simp; omega) S
    have a7 := fun S => add_tx (a := [32] ++ t) (b := [32]) (by simp; omega) S
    have a8 := fun S => add_tx (a := [32] ++ t ++ [32]) (b := b) (by simp; omega) S
    have a9 := fun S => add_tx (a := t) (b := [32, 32]) (by simp; omega) S
    have b1 := fun S => add_tx (a := t ++ [32, 32]) (b := b) (by simp; omega) S
    have b2 := fun S => add_tx (a := [43]) (b := t) (by simp; omega) S
    have b3 := fun S => add_tx (a := [43] ++ t) (b := [32]) (by simp; omega) S
    have b4 := fun S => add_tx (a := [43] ++ t ++ [32]) (b := b) (by simp; omega) S
    have b5 := fun S => add_tx (a := t) (b := b) (by omega) S
    have b6 := fun S => add_tx (a := t ++ [32] ++ b) (b := [32]) (by simp; omega) S
    rw [hrs]
    simp only [dS, dE, dEs, dN, dB2, dVar, dCst, List.getElem?_cons_zero, List.getElem?_cons_succ, Out.bind_ok, blank_tx, s0, s2, sp, a1, a2, a3, a4, a5, a6, a7, a8, a9, b1, b2, b3, b4, b5, b6, lstV, datas, Option.map_some]
    simp [tgt, Ev.Out.s]) ?_
  have hrl : rs.length = 7 := by rw [hrs]; rfl
  have hw2 : Ws 10 [dropL, [98]] := by
    intro w hw
    simp only [List.mem_cons, List.not_mem_nil, or_false] at hw
    rcases hw with rfl | rfl
    · exact ⟨by decide, by decide⟩
    · exact ⟨by decide, by decide⟩
  have hlr := r_law_row (n := n') (by omega) hw2 (by decide)
  have hla : Asc 30 (rowL (jn 32 [dropL, [98]]) ++ [10]) := Asc.app (n := 30) (rowL_asc (jn_asc (by decide) hw2)) (Asc.cons (by decide) (Asc.nil (k := 0)) (Nat.le_refl _)) (by decide)
  generalize rowL (jn 32 [dropL, [98]]) ++ [10] = lr at hlr hla
  rw [gs_cons]
  have hall : Gets (dE G (sem G T n') (.lc false (.call 25 (.cons (.bin .Add (.bin .Add (.var 5) (.cst (.str "\n"))) (.call 19 (.cons (.tup (.cons (.cst (.str "drop")) (.cons (.cst (.str "b")) .nil))) .nil))) .nil)) [("row", 5)] (.nm 5) (.seq (.var 4)) .none) [some (.loc p), some (.d (.list (bodS.map .str))), some (.d (.str (tx b))), some (.d (.str (tx t))), some (.d (.list (rs.map fun r => .str (tx r)))), none] (S.set p o)) fun v S' => v = .d (.list (rs.map fun _ => .bool true)) ∧ S' = S.set p o := by
    simp only [dE, List.map_cons, List.map_nil]
    refine gets_each (fun r : List Nat => Val.d (.str (tx r))) (fun _ => .bool true) rs (n := none) (S := S.set p o) (by simp [dSs, dS, dE, dEs, dAnd, dOr, dT, Ev.tAnd, Ev.tOr, dU, dN, dB2, dIf, dVar, dCst, dO, dC, dI, dCall, dKall, pick, entry, isiV, isiV2, isTys, isTy, tobV, truO, truV, okIf, datOf, seqOf, lstOf, datas, lstV, tupV, elsOf, Out.bind_ok]) trivial (fun r hr => ⟨_, rfl, ?_⟩) (line_of (by omega)) ?_
    · have h1 := hra r hr
      have e5 : wsD [dropL, [98]] = .tuple [.str (tx dropL), .str (tx [98])] := rfl
      rw [e5] at hlr
      have a1 := fun S => add_tx (a := r) (b := [10]) (by have := h1.len; simp; omega) S
      have a2 := fun S => add_tx (a := r ++ [10]) (b := lr) (by have := h1.len; have := hla.len; simp; omega) S
      have h6 := r_read_right (n := n') (by omega) ((h1.app (Asc.cons (by decide : 10 < 128) (Asc.nil (k := 0)) (Nat.le_refl _)) (Nat.le_refl _)).app hla (Nat.le_refl _)) (by decide) (S.set p o)
      simp only [dEs, dE, dB2, dN, dCall, dVar, dCst, wipeD, List.getElem?_cons_zero, List.getElem?_cons_succ, List.set_cons_succ, List.set_cons_zero, Out.bind_ok, feed_tx, a1, s_drop, s_b]
      simp [tupV, datas, okIf, -add_ss, -List.append_assoc, hlr, a2, h6]
    · rw [if_neg (by decide)]
      exact ⟨rfl, rfl⟩
  obtain ⟨_, _, e7, rfl, rfl⟩ := hall
  generalize (CE.lc false (.call 25 (.cons (.bin .Add (.bin .Add (.var 5) (.cst (.str "\n"))) (.call 19 (.cons (.tup (.cons (.cst (.str "drop")) (.cons (.cst (.str "b")) .nil))) .nil))) .nil)) [("row", 5)] (.nm 5) (.seq (.var 4)) .none) = L1 at e7 ⊢
  have hb2 : boolsOf (rs.map fun _ => PyData.bool true) = some (rs.map fun _ => true) := bools_map (fun _ : List Nat => true) rs
  simp only [dS, dE, dEs, dN, e7, Out.bind_ok]
  simp [lstOf, hb2]
  exact ⟨o, ho, rfl⟩
end HT
end

section
set_option Elab.async false
set_option linter.all false
set_option maxRecDepth 100000
set_option maxHeartbeats 4000000
namespace HT
open PySem PySem.Spec L2 Ev
/-- the pot that is laid -/
theorem r_pot {n : Nat} (hn : 0 < n) {ns : List Int} (hns : ns.length ≤ 63) {k : Int} (hk : 0 ≤ k) (hk2 : k < 100) {S : Store} :
    Gets (sem G T n 15 [.d (.list (ns.map .int)), .d (.int k)] S) fun v S' => ∃ o, v = .loc S.length ∧ PotO o ∧ S' = S ++ [o] := by
  obtain ⟨n', rfl⟩ : ∃ m, n = m + 1 := ⟨n - 1, by omega⟩
  refine gets_def t_law_pot [some (.d (.list (ns.map .int))), some (.d (.int k)), none, none] rfl rfl ?_
  dsimp only [f_law_pot]
  have hlc : dE G (sem G T n') (.lc false (.bi .abs (.cons (.var 3) .nil)) [("one", 3)] (.nm 3) (.seq (.var 0)) .none) [some (.d (.list (ns.map .int))), some (.d (.int k)), none, none] S = .ok (.d (.list (ns.map fun i => .int (if i < 0 then -i else i)))) S := by
    refine ok_of ?_
    simp only [dE, List.map_cons, List.map_nil]
    refine gets_each (fun i : Int => Val.d (.int i)) (fun i => .int (if i < 0 then -i else i)) ns (n := none) (S := S) (by simp [dSs, dS, dE, dEs, dAnd, dOr, dT, Ev.tAnd, Ev.tOr, dU, dN, dB2, dIf, dVar, dCst, dO, dC, dI, dCall, dKall, pick, entry, isiV, isiV2, isTys, isTy, tobV, truO, truV, okIf, datOf, seqOf, lstOf, datas, lstV, tupV, elsOf, Out.bind_ok]) trivial (fun i hi => ⟨_, rfl, by simp [dSs, dS, dE, dEs, dAnd, dOr, dT, Ev.tAnd, Ev.tOr, dU, dN, dB2, dIf, dVar, dCst, dO, dC, dI, dCall, dKall, pick, entry, isiV, isiV2, isTys, isTy, tobV, truO, truV, okIf, datOf, seqOf, lstOf, datas, lstV, tupV, elsOf, Out.bind_ok, wipeD]⟩) (line_of (by omega)) ?_
    rw [if_neg (by decide)]
    exact ⟨rfl, rfl⟩
  generalize (CE.lc false (.bi .abs (.cons (.var 3) .nil)) [("one", 3)] (.nm 3) (.seq (.var 0)) .none) = L1 at hlc ⊢
  have hsum : intsOf (ns.map fun i => PyData.int (if i < 0 then -i else i)) = some (ns.map fun i => if i < 0 then -i else i) := ints_map (fun i : Int => if i < 0 then -i else i) ns
  rw [gs_cons]
  refine gs_asg ?_
  have hmu : true = true := rfl
  have fin : ∀ c : Int, GS (dSs G (sem G T n') (.cons (.ret (.lst true (.cons (.bi .max2 (.cons (.cst (.int 0)) (.cons (.bin .Sub (.var 2) (.bin .Pow (.cst (.int 10)) (.cst (.int 18)))) .nil))) (.cons (.bin .Add (.bin .Mod (.bi .int (.cons (.bin .Add (.bin .Add (.bin .Mult (.bin .Mod (.bi .int (.cons (.var 2) .nil)) (.cst (.int 2147483549))) (.cst (.int 41863))) (.bin .Mult (.cst (.int 10463)) (.var 1))) (.cst (.int 103))) .nil)) (.cst (.int 2147483563))) (.cst (.int 1))) .nil)))) .nil) [some (.d (.list (ns.map .int))), some (.d (.int k)), some (.d (.int c)), none] S) (fun _ S' => ∃ o, Val.d .none = .loc S.length ∧ PotO o ∧ S'.take S.length = S ++ [o]) (fun v S' => Gets (back true S.length v S') fun v S' => ∃ o, v = .loc S.length ∧ PotO o ∧ S' = S ++ [o]) (fun _ _ => False) fun _ _ => False := fun c => by
    simp [dSs, dS, dE, dEs, dAnd, dOr, dT, Ev.tAnd, Ev.tOr, dU, dN, dB2, dIf, dVar, dCst, dO, dC, dI, dCall, dKall, pick, entry, isiV, isiV2, isTys, isTy, tobV, truO, truV, okIf, datOf, seqOf, lstOf, datas, lstV, tupV, elsOf, Out.bind_ok, back]
    exact pot_o c k
  by_cases hk3 : k < (ns.length : Int)
  · have hd : k.toNat < ns.length := by omega
    have ea : atI (ns.map PyData.int) k = some (.int ns[k.toNat]) := by
      unfold atI ixN
      rw [if_pos hk, if_pos (by simpa using hk3)]
      simp [hd]
    refine ⟨.d (.int (if ns[k.toNat] < 0 then -ns[k.toNat] else ns[k.toNat])), S, by
      refine ok_of ?_
      simp [dSs, dS, dE, dEs, dAnd, dOr, dT, Ev.tAnd, Ev.tOr, dU, dN, dB2, dIf, dVar, dCst, dO, dC, dI, dCall, dKall, pick, entry, isiV, isiV2, isTys, isTy, tobV, truO, truV, okIf, datOf, seqOf, lstOf, datas, lstV, tupV, elsOf, Out.bind_ok, ea, hk3], _, rfl, fin _⟩
  · refine ⟨.d (.int (5009 * k + 839 + ((ns.map fun i => if i < 0 then -i else i).sum.fmod 1000003))), S, by
      refine ok_of ?_
      simp [dSs, dS, dE, dEs, dAnd, dOr, dT, Ev.tAnd, Ev.tOr, dU, dN, dB2, dIf, dVar, dCst, dO, dC, dI, dCall, dKall, pick, entry, isiV, isiV2, isTys, isTy, tobV, truO, truV, okIf, datOf, seqOf, lstOf, datas, lstV, tupV, elsOf, Out.bind_ok, hk3, hlc, hsum], _, rfl, fin _⟩
theorem r_law {n : Nat} (hn : 29 < n) (ns : List Int) (hns : ns.length ≤ 63) : Gets (sem G T n 29 [.d (.list (ns.map .int))] []) fun v _ => v = .d (.bool true) := by
  obtain ⟨m, rfl⟩ : ∃ m, n = m + 1 := ⟨n - 1, by omega⟩
  refine gets_def t_law [some (.d (.list (ns.map .int))), none, none] rfl rfl ?_
  dsimp only [f_law]
  rw [gs_cons, gs_forS]
  obtain ⟨c, hc⟩ : ∃ c : Nat, dI G (sem G T m) (.rng1 (.bi .max2 (.cons (.cst (.int 1)) (.cons (.bi .min2 (.cons (.cst (.int 2)) (.cons (.bi .len (.cons (.var 0) .nil)) .nil))) .nil)))) [some (.d (.list (ns.map .int))), none, none] [] = .ok (rngI 0 c) [] ∧ c ≤ 2 := by
    by_cases h : ns.length < 2
    · by_cases h0 : ns.length = 0
      · refine ⟨1, it_rng1 (k := 1) ?_ (by decide), by decide⟩
        refine ok_of ?_
        simp [dSs, dS, dE, dEs, dAnd, dOr, dT, Ev.tAnd, Ev.tOr, dU, dN, dB2, dIf, dVar, dCst, dO, dC, dI, dCall, dKall, pick, entry, isiV, isiV2, isTys, isTy, tobV, truO, truV, okIf, datOf, seqOf, lstOf, datas, lstV, tupV, elsOf, Out.bind_ok, h0]
      · refine ⟨ns.length, it_rng1 (k := ns.length) ?_ (by omega), by omega⟩
        refine ok_of ?_
        have e1 : (ns.length : Int) < 2 := by omega
        simp [dSs, dS, dE, dEs, dAnd, dOr, dT, Ev.tAnd, Ev.tOr, dU, dN, dB2, dIf, dVar, dCst, dO, dC, dI, dCall, dKall, pick, entry, isiV, isiV2, isTys, isTy, tobV, truO, truV, okIf, datOf, seqOf, lstOf, datas, lstV, tupV, elsOf, Out.bind_ok, e1]
        omega
    · refine ⟨2, it_rng1 (k := 2) ?_ (by decide), by decide⟩
      refine ok_of ?_
      have e1 : ¬ ((ns.length : Int) < 2) := by omega
      simp [dSs, dS, dE, dEs, dAnd, dOr, dT, Ev.tAnd, Ev.tOr, dU, dN, dB2, dIf, dVar, dCst, dO, dC, dI, dCall, dKall, pick, entry, isiV, isiV2, isTys, isTy, tobV, truO, truV, okIf, datOf, seqOf, lstOf, datas, lstV, tupV, elsOf, Out.bind_ok, e1]
  refine ⟨rngI 0 c, [], hc.1, ?_⟩
  refine gs_for (fun vs ρ S' => ∃ r1 r2 : Option Val, ρ = [some (.d (.list (ns.map .int))), r1, r2] ∧ ∀ v ∈ vs, ∃ i : Nat, i < 2 ∧ v = .d (.int (0 + (i : Int)))) ?_ ?_ _ _ _ ⟨none, none, rfl, fun v hv => by
    obtain ⟨i, hi, rfl⟩ := List.mem_map.mp hv
    exact ⟨i, by have := List.mem_range.mp hi; omega, rfl⟩⟩
  · rintro v vs ρ S' ⟨r1, r2, rfl, hv⟩
    obtain ⟨i, hi, rfl⟩ := hv v List.mem_cons_self
    refine ⟨by simp [Itm.ck, rngI], [some (.d (.list (ns.map .int))), some (.d (.int (0 + (i : Int)))), r2], by simp [tgt], ?_⟩
    obtain ⟨_, _, e1, o, rfl, ho, rfl⟩ := r_pot (n := m) (by omega) hns (k := 0 + (i : Int)) (by omega) (by omega) (S := S')
    have hp : Pot S'.length (S' ++ [o]) := ⟨o, by simp, ho⟩
    obtain ⟨_, _, e2, b2, o2, rfl, rfl, ho2, rfl⟩ := r_law_right (n := m) (by omega) hp
    have hp2 := hp.set ho2
    obtain ⟨_, _, e3, b3, o3, rfl, rfl, ho3, rfl⟩ := r_sums_right (n := m) (by omega) hp2
    have hp3 := hp2.set ho3
    obtain ⟨_, _, e4, b4, o4, rfl, rfl, ho4, rfl⟩ := r_odd_right (n := m) (by omega) hp3
    rw [gs_cons]
    refine gs_asg ⟨.loc S'.length, S' ++ [o], by simp only [dE, dEs, dN, dCall, dVar, List.getElem?_cons_zero, List.getElem?_cons_succ, Out.bind_ok, e1], [some (.d (.list (ns.map .int))), some (.d (.int (0 + (i : Int)))), some (.loc S'.length)], rfl, ?_⟩
    generalize (((S' ++ [o]).set S'.length o2).set S'.length o3).set S'.length o4 = S9 at e4
    rw [gs_cons]
    refine gs_if (S1 := S9) (by
      simp only [dT, Ev.tOr, dE, dEs, dN, dCall, dVar, List.getElem?_cons_zero, List.getElem?_cons_succ, Out.bind_ok, e2, e3, e4, truO, truV, Bool.not_true]
      simp) ?_
    rw [gs_nil, gs_nil]
    exact ⟨_, _, rfl, fun u hu => hv u (List.mem_cons_of_mem _ hu)⟩
  · rintro ρ S' ⟨r1, r2, rfl, _⟩
    refine ⟨by simp [Itm.ck, rngI], ?_⟩
    rw [gs_cons]
    simp [dSs, dS, dE, dEs, dAnd, dOr, dT, Ev.tAnd, Ev.tOr, dU, dN, dB2, dIf, dVar, dCst, dO, dC, dI, dCall, dKall, pick, entry, isiV, isiV2, isTys, isTy, tobV, truO, truV, okIf, datOf, seqOf, lstOf, datas, lstV, tupV, elsOf, Out.bind_ok, back]
end HT
end

section
set_option Elab.async false
set_option linter.all false
set_option maxRecDepth 100000
set_option maxHeartbeats 0
namespace HT
open PySem PySem.Spec PyProof.Rows L2 Ev
def top (i : Nat) : Stmt := PySem.Challenge.pw_talehouse_k82_whole_rows_and_sums.main.body.getD i (.Pass ⟨0, 0, 0, 0⟩)
def d_is_tuple : Dn := ⟨⟨("is_tuple", none), "is_tuple", "is_tuple", L2.defArgs (top 1), L2.defBody (top 1), L2.defScope (top 1), [], []⟩, ["value", "many"], ["value", "many"], f_is_tuple⟩
def d_is_name : Dn := ⟨⟨("is_name", none), "is_name", "is_name", L2.defArgs (top 10), L2.defBody (top 10), L2.defScope (top 10), [], []⟩, ["value"], ["value", "sign"], f_is_name⟩
def d_is_typed : Dn := ⟨⟨("is_typed", none), "is_typed", "is_typed", L2.defArgs (top 17), L2.defBody (top 17), L2.defScope (top 17), [], []⟩, ["value"], ["value", "sign"], f_is_typed⟩
def d_is_entry_any : Dn := ⟨⟨("is_entry_any", none), "is_entry_any", "is_entry_any", L2.defArgs (top 18), L2.defBody (top 18), L2.defScope (top 18), [], []⟩, ["value"], ["value"], f_is_entry_any⟩
def d_sum_told : Dn := ⟨⟨("sum_told", none), "sum_told", "sum_told", L2.defArgs (top 19), L2.defBody (top 19), L2.defScope (top 19), [], []⟩, ["text"], ["text", "found", "at", "sign"], f_sum_told⟩
def d_summed : Dn := ⟨⟨("summed", none), "summed", "summed", L2.defArgs (top 20), L2.defBody (top 20), L2.defScope (top 20), [], []⟩, ["body"], ["body"], f_summed⟩
def d_row_told : Dn := ⟨⟨("row_told", none), "row_told", "row_told", L2.defArgs (top 21), L2.defBody (top 21), L2.defScope (top 21), [], []⟩, ["entry"], ["entry"], f_row_told⟩
def d_body_told : Dn := ⟨⟨("body_told", none), "body_told", "body_told", L2.defArgs (top 22), L2.defBody (top 22), L2.defScope (top 22), [], []⟩, ["row"], ["row", "place"], f_body_told⟩
def d_entry_told : Dn := ⟨⟨("entry_told", none), "entry_told", "entry_told", L2.defArgs (top 23), L2.defBody (top 23), L2.defScope (top 23), [], []⟩, ["body"], ["body", "parts"], f_entry_told⟩
def d_rows_told : Dn := ⟨⟨("rows_told", none), "rows_told", "rows_told", L2.defArgs (top 24), L2.defBody (top 24), L2.defScope (top 24), [], []⟩, ["text"], ["text", "found", "place", "end", "body", "entry"], f_rows_told⟩
def d_want_entry : Dn := ⟨⟨("want_entry", none), "want_entry", "want_entry", L2.defArgs (top 25), L2.defBody (top 25), L2.defScope (top 25), [], []⟩, ["entry"], ["entry"], f_want_entry⟩
def d_want_string : Dn := ⟨⟨("want_string", none), "want_string", "want_string", L2.defArgs (top 26), L2.defBody (top 26), L2.defScope (top 26), [], []⟩, ["text"], ["text"], f_want_string⟩
def d_sum_of : Dn := ⟨⟨("sum_of", none), "sum_of", "sum_of", L2.defArgs (top 27), L2.defBody (top 27), L2.defScope (top 27), [], []⟩, ["text"], ["text"], f_sum_of⟩
def d_row_of : Dn := ⟨⟨("row_of", none), "row_of", "row_of", L2.defArgs (top 28), L2.defBody (top 28), L2.defScope (top 28), [], []⟩, ["entry"], ["entry"], f_row_of⟩
def d_rows_in : Dn := ⟨⟨("rows_in", none), "rows_in", "rows_in", L2.defArgs (top 29), L2.defBody (top 29), L2.defScope (top 29), [], []⟩, ["text"], ["text"], f_rows_in⟩
def d_law_pot : Dn := ⟨⟨("_law_pot", none), "_law_pot", "_law_pot", L2.defArgs (top 31), L2.defBody (top 31), L2.defScope (top 31), [], []⟩, ["script", "k"], ["script", "k", "cell", "one"], f_law_pot⟩
def d_law_draw : Dn := ⟨⟨("_law_draw", none), "_law_draw", "_law_draw", L2.defArgs (top 32), L2.defBody (top 32), L2.defScope (top 32), [], []⟩, ["pot", "many"], ["pot", "many", "digit"], f_law_draw⟩
def d_law_pick : Dn := ⟨⟨("_law_pick", none), "_law_pick", "_law_pick", L2.defArgs (top 33), L2.defBody (top 33), L2.defScope (top 33), [], []⟩, ["pot", "some"], ["pot", "some"], f_law_pick⟩
def d_law_sum : Dn := ⟨⟨("_law_sum", none), "_law_sum", "_law_sum", L2.defArgs (top 34), L2.defBody (top 34), L2.defScope (top 34), [], []⟩, ["text"], ["text", "at", "sign"], f_law_sum⟩
def d_law_row : Dn := ⟨⟨("_law_row", none), "_law_row", "_law_row", L2.defArgs (top 35), L2.defBody (top 35), L2.defScope (top 35), [], []⟩, ["entry"], ["entry", "body"], f_law_row⟩
def d_law_is_small_name : Dn := ⟨⟨("_law_is_small_name", none), "_law_is_small_name", "_law_is_small_name", L2.defArgs (top 36), L2.defBody (top 36), L2.defScope (top 36), [], []⟩, ["value"], ["value", "reserved", "sign"], f_law_is_small_name⟩
def d_law_is_entry : Dn := ⟨⟨("_law_is_entry", none), "_law_is_entry", "_law_is_entry", L2.defArgs (top 37), L2.defBody (top 37), L2.defScope (top 37), [], []⟩, ["value"], ["value", "sign"], f_law_is_entry⟩
def d_law_read : Dn := ⟨⟨("_law_read", none), "_law_read", "_law_read", L2.defArgs (top 38), L2.defBody (top 38), L2.defScope (top 38), [], []⟩, ["text"], ["text", "found", "place", "row", "words", "entry"], f_law_read⟩
def d_law_typed : Dn := ⟨⟨("_law_typed", none), "_law_typed", "_law_typed", L2.defArgs (top 39), L2.defBody (top 39), L2.defScope (top 39), [], []⟩, ["pot"], ["pot"], f_law_typed⟩
def d_law_entry : Dn := ⟨⟨("_law_entry", none), "_law_entry", "_law_entry", L2.defArgs (top 40), L2.defBody (top 40), L2.defScope (top 40), [], []⟩, ["pot"], ["pot", "name"], f_law_entry⟩
def d_law_read_right : Dn := ⟨⟨("_law_read_right", none), "_law_read_right", "_law_read_right", L2.defArgs (top 41), L2.defBody (top 41), L2.defScope (top 41), [], []⟩, ["text"], ["text", "due", "turn", "told"], f_law_read_right⟩
def d_law_right : Dn := ⟨⟨("_law_right", none), "_law_right", "_law_right", L2.defArgs (top 42), L2.defBody (top 42), L2.defScope (top 42), [], []⟩, ["pot"], ["pot", "entries", "turn", "rows", "entry", "row", "text", "at", "ahead", "place", "sign", "first", "bent"], f_law_right⟩
def d_law_sums_right : Dn := ⟨⟨("_law_sums_right", none), "_law_sums_right", "_law_sums_right", L2.defArgs (top 43), L2.defBody (top 43), L2.defScope (top 43), [], []⟩, ["pot"], ["pot", "texts", "turn", "text"], f_law_sums_right⟩
def d_law_odd_right : Dn := ⟨⟨("_law_odd_right", none), "_law_odd_right", "_law_odd_right", L2.defArgs (top 44), L2.defBody (top 44), L2.defScope (top 44), [], []⟩, ["pot"], ["pot", "bodies", "body", "total", "rows", "row"], f_law_odd_right⟩
def d_law : Dn := ⟨⟨("law", none), "law", "law", L2.defArgs (top 45), L2.defBody (top 45), L2.defScope (top 45), [], []⟩, ["script"], ["script", "k", "pot"], f_law⟩
def P : Pd := ⟨[d_is_tuple, d_is_name, d_is_typed, d_is_entry_any, d_sum_told, d_summed, d_row_told, d_body_told, d_entry_told, d_rows_told, d_want_entry, d_want_string, d_sum_of, d_row_of, d_rows_in, d_law_pot, d_law_draw, d_law_pick, d_law_sum, d_law_row, d_law_is_small_name, d_law_is_entry, d_law_read, d_law_typed, d_law_entry, d_law_read_right, d_law_right, d_law_sums_right, d_law_odd_right, d_law], [("LETTERS", (.str "abcdefghijklmnopqrstuvwxyz")), ("RESERVED", (.tuple [(.str "north"), (.str "south"), (.str "east"), (.str "west"), (.str "up"), (.str "down"), (.str "n"), (.str "s"), (.str "e"), (.str "w"), (.str "u"), (.str "d"), (.str "go"), (.str "walk"), (.str "take"), (.str "get"), (.str "drop"), (.str "put"), (.str "open"), (.str "shut"), (.str "close"), (.str "wait"), (.str "z"), (.str "look"), (.str "l"), (.str "list"), (.str "inventory"), (.str "i"), (.str "undo"), (.str "save"), (.str "restore"), (.str "again"), (.str "held"), (.str "nowhere"), (.str "here"), (.str "in"), (.str "into"), (.str "with"), (.str "to"), (.str "on"), (.str "at"), (.str "all"), (.str "it"), (.str "and"), (.str "the"), (.str "a"), (.str "an"), (.str "not"), (.str "or"), (.str "true"), (.str "inside"), (.str "gone"), (.str "opened"), (.str "when"), (.str "do"), (.str "say"), (.str "set"), (.str "clear"), (.str "move"), (.str "by"), (.str "off")])), ("MOST_LETTERS", (.int 12)), ("MOST_TYPED", (.int 60)), ("BEGIN", (.str "begin")), ("LINE", (.str "line")), ("DROP", (.str "drop")), ("MODULUS", (.int 65521))], ["len", "isinstance", "tuple", "all", "str", "enumerate", "ord", "int", "max", "abs", "sum", "divmod", "repr", "range", "list", "zip", "min"], [(14, 0, ["text"], [0]), (13, 0, ["entry"], [0]), (12, 0, ["text"], [0])]⟩
/-! ### the check -/
theorem k_is_tuple : Pd.okD P.pg d_is_tuple = true := by decide +kernel
theorem k_is_name : Pd.okD P.pg d_is_name = true := by decide +kernel
theorem k_is_typed : Pd.okD P.pg d_is_typed = true := by decide +kernel
theorem k_is_entry_any : Pd.okD P.pg d_is_entry_any = true := by decide +kernel
theorem k_sum_told : Pd.okD P.pg d_sum_told = true := by decide +kernel
theorem k_summed : Pd.okD P.pg d_summed = true := by decide +kernel
theorem k_row_told : Pd.okD P.pg d_row_told = true := by decide +kernel
theorem k_body_told : Pd.okD P.pg d_body_told = true := by decide +kernel
theorem k_entry_told : Pd.okD P.pg d_entry_told = true := by decide +kernel
theorem k_rows_told : Pd.okD P.pg d_rows_told = true := by decide +kernel
theorem k_want_entry : Pd.okD P.pg d_want_entry = true := by decide +kernel
theorem k_want_string : Pd.okD P.pg d_want_string = true := by decide +kernel
theorem k_sum_of : Pd.okD P.pg d_sum_of = true := by decide +kernel
theorem k_row_of : Pd.okD P.pg d_row_of = true := by decide +kernel
theorem k_rows_in : Pd.okD P.pg d_rows_in = true := by decide +kernel
theorem k_law_pot : Pd.okD P.pg d_law_pot = true := by decide +kernel
theorem k_law_draw : Pd.okD P.pg d_law_draw = true := by decide +kernel
theorem k_law_pick : Pd.okD P.pg d_law_pick = true := by decide +kernel
theorem k_law_sum : Pd.okD P.pg d_law_sum = true := by decide +kernel
theorem k_law_row : Pd.okD P.pg d_law_row = true := by decide +kernel
theorem k_law_is_small_name : Pd.okD P.pg d_law_is_small_name = true := by decide +kernel
theorem k_law_is_entry : Pd.okD P.pg d_law_is_entry = true := by decide +kernel
theorem k_law_read : Pd.okD P.pg d_law_read = true := by decide +kernel
theorem k_law_typed : Pd.okD P.pg d_law_typed = true := by decide +kernel
theorem k_law_entry : Pd.okD P.pg d_law_entry = true := by decide +kernel
theorem k_law_read_right : Pd.okD P.pg d_law_read_right = true := by decide +kernel
theorem k_law_right : Pd.okD P.pg d_law_right = true := by decide +kernel
theorem k_law_sums_right : Pd.okD P.pg d_law_sums_right = true := by decide +kernel
theorem k_law_odd_right : Pd.okD P.pg d_law_odd_right = true := by decide +kernel
theorem k_law : Pd.okD P.pg d_law = true := by decide +kernel
theorem b_is_tuple : BnOk d_is_tuple := fun _ _ _ _ _ _ us hl => match us, hl with | [_, _], _ => rfl
theorem b_is_name : BnOk d_is_name := fun _ _ _ _ _ _ us hl => match us, hl with | [_], _ => rfl
theorem b_is_typed : BnOk d_is_typed := fun _ _ _ _ _ _ us hl => match us, hl with | [_], _ => rfl
theorem b_is_entry_any : BnOk d_is_entry_any := fun _ _ _ _ _ _ us hl => match us, hl with | [_], _ => rfl
theorem b_sum_told : BnOk d_sum_told := fun _ _ _ _ _ _ us hl => match us, hl with | [_], _ => rfl
theorem b_summed : BnOk d_summed := fun _ _ _ _ _ _ us hl => match us, hl with | [_], _ => rfl
theorem b_row_told : BnOk d_row_told := fun _ _ _ _ _ _ us hl => match us, hl with | [_], _ => rfl
theorem b_body_told : BnOk d_body_told := fun _ _ _ _ _ _ us hl => match us, hl with | [_], _ => rfl
theorem b_entry_told : BnOk d_entry_told := fun _ _ _ _ _ _ us hl => match us, hl with | [_], _ => rfl
theorem b_rows_told : BnOk d_rows_told := fun _ _ _ _ _ _ us hl => match us, hl with | [_], _ => rfl
theorem b_want_entry : BnOk d_want_entry := fun _ _ _ _ _ _ us hl => match us, hl with | [_], _ => rfl
theorem b_want_string : BnOk d_want_string := fun _ _ _ _ _ _ us hl => match us, hl with | [_], _ => rfl
theorem b_sum_of : BnOk d_sum_of := fun _ _ _ _ _ _ us hl => match us, hl with | [_], _ => rfl
theorem b_row_of : BnOk d_row_of := fun _ _ _ _ _ _ us hl => match us, hl with | [_], _ => rfl
theorem b_rows_in : BnOk d_rows_in := fun _ _ _ _ _ _ us hl => match us, hl with | [_], _ => rfl
theorem b_law_pot : BnOk d_law_pot := fun _ _ _ _ _ _ us hl => match us, hl with | [_, _], _ => rfl
theorem b_law_draw : BnOk d_law_draw := fun _ _ _ _ _ _ us hl => match us, hl with | [_, _], _ => rfl
theorem b_law_pick : BnOk d_law_pick := fun _ _ _ _ _ _ us hl => match us, hl with | [_, _], _ => rfl
theorem b_law_sum : BnOk d_law_sum := fun _ _ _ _ _ _ us hl => match us, hl with | [_], _ => rfl
theorem b_law_row : BnOk d_law_row := fun _ _ _ _ _ _ us hl => match us, hl with | [_], _ => rfl
theorem b_law_is_small_name : BnOk d_law_is_small_name := fun _ _ _ _ _ _ us hl => match us, hl with | [_], _ => rfl
theorem b_law_is_entry : BnOk d_law_is_entry := fun _ _ _ _ _ _ us hl => match us, hl with | [_], _ => rfl
theorem b_law_read : BnOk d_law_read := fun _ _ _ _ _ _ us hl => match us, hl with | [_], _ => rfl
theorem b_law_typed : BnOk d_law_typed := fun _ _ _ _ _ _ us hl => match us, hl with | [_], _ => rfl
theorem b_law_entry : BnOk d_law_entry := fun _ _ _ _ _ _ us hl => match us, hl with | [_], _ => rfl
theorem b_law_read_right : BnOk d_law_read_right := fun _ _ _ _ _ _ us hl => match us, hl with | [_], _ => rfl
theorem b_law_right : BnOk d_law_right := fun _ _ _ _ _ _ us hl => match us, hl with | [_], _ => rfl
theorem b_law_sums_right : BnOk d_law_sums_right := fun _ _ _ _ _ _ us hl => match us, hl with | [_], _ => rfl
theorem b_law_odd_right : BnOk d_law_odd_right := fun _ _ _ _ _ _ us hl => match us, hl with | [_], _ => rfl
theorem b_law : BnOk d_law := fun _ _ _ _ _ _ us hl => match us, hl with | [_], _ => rfl
theorem w_0 : KwOk d_rows_in 0 ["text"] [0] := fun _ _ _ _ _ _ us ws h1 h2 => match us, ws, h1, h2 with | [], [_], _, _ => ⟨_, rfl, rfl⟩
theorem w_1 : KwOk d_row_of 0 ["entry"] [0] := fun _ _ _ _ _ _ us ws h1 h2 => match us, ws, h1, h2 with | [], [_], _, _ => ⟨_, rfl, rfl⟩
theorem w_2 : KwOk d_sum_of 0 ["text"] [0] := fun _ _ _ _ _ _ us ws h1 h2 => match us, ws, h1, h2 with | [], [_], _, _ => ⟨_, rfl, rfl⟩
theorem okP : P.Ok where
  ok := by
    intro d m
    have m : d ∈ [d_is_tuple, d_is_name, d_is_typed, d_is_entry_any, d_sum_told, d_summed, d_row_told, d_body_told, d_entry_told, d_rows_told, d_want_entry, d_want_string, d_sum_of, d_row_of, d_rows_in, d_law_pot, d_law_draw, d_law_pick, d_law_sum, d_law_row, d_law_is_small_name, d_law_is_entry, d_law_read, d_law_typed, d_law_entry, d_law_read_right, d_law_right, d_law_sums_right, d_law_odd_right, d_law] := m
    simp only [List.mem_cons, List.not_mem_nil, or_false] at m
    rcases m with rfl | rfl | rfl | rfl | rfl | rfl | rfl | rfl | rfl | rfl | rfl | rfl | rfl | rfl | rfl | rfl | rfl | rfl | rfl | rfl | rfl | rfl | rfl | rfl | rfl | rfl | rfl | rfl | rfl | rfl
    · exact k_is_tuple
    · exact k_is_name
    · exact k_is_typed
    · exact k_is_entry_any
    · exact k_sum_told
    · exact k_summed
    · exact k_row_told
    · exact k_body_told
    · exact k_entry_told
    · exact k_rows_told
    · exact k_want_entry
    · exact k_want_string
    · exact k_sum_of
    · exact k_row_of
    · exact k_rows_in
    · exact k_law_pot
    · exact k_law_draw
    · exact k_law_pick
    · exact k_law_sum
    · exact k_law_row
    · exact k_law_is_small_name
    · exact k_law_is_entry
    · exact k_law_read
    · exact k_law_typed
    · exact k_law_entry
    · exact k_law_read_right
    · exact k_law_right
    · exact k_law_sums_right
    · exact k_law_odd_right
    · exact k_law
  bn := ⟨b_is_tuple, b_is_name, b_is_typed, b_is_entry_any, b_sum_told, b_summed, b_row_told, b_body_told, b_entry_told, b_rows_told, b_want_entry, b_want_string, b_sum_of, b_row_of, b_rows_in, b_law_pot, b_law_draw, b_law_pick, b_law_sum, b_law_row, b_law_is_small_name, b_law_is_entry, b_law_read, b_law_typed, b_law_entry, b_law_read_right, b_law_right, b_law_sums_right, b_law_odd_right, b_law, True.intro⟩
  kw := ⟨w_0, w_1, w_2, True.intro⟩
/-! ### the head -/
def lo0 : List PySem.Str := ["is_tuple", "TaleError", "InvalidText", "InvalidEntry", "RESERVED", "LETTERS", "MOST_LETTERS", "is_name", "BEGIN", "LINE", "DROP", "MODULUS", "MOST_TYPED", "is_typed", "is_entry_any", "sum_told", "summed", "row_told", "body_told", "entry_told", "rows_told", "want_entry", "want_string", "sum_of", "row_of", "rows_in", "_law_pot", "_law_draw", "_law_pick", "_law_sum"]
def lo1 : List PySem.Str := ["_law_row", "_law_is_small_name", "_law_is_entry", "_law_read", "_law_typed", "_law_entry", "_law_read_right", "_law_right", "_law_sums_right", "_law_odd_right"]
def loose : List PySem.Str := lo0 ++ lo1
abbrev R : PySem.W.OpenRow := PySem.W.OpenLaw.row PySem.Challenge.rw_talehouse_k82_whole_rows_and_sums
abbrev hk : PySem.W.Hook := hookV 4 P.fn P.ex
def ob (s : PySem.W.SharedT) : AlV := obsV 4 P.fn P.ex (HandSHeadRun.getT s)
theorem ob_eq (s : PySem.W.SharedT) : ob s = hk.obs s.abs := obsV_eq (HandSHeadRun.getT_eq s)
theorem run (w : World) : HandSHeadRun.RunEq R (PySem.W.view R.prog [45]) hk ob 3000 loose w := by
  intro os
  kernel_rfl
def DEPTH : Nat := 60
end HT
end

section
namespace HT
open PySem PySem.Spec L2 Ev
theorem sound : ∀ ns : List Int, ns.length ≤ 63 → ∃ S', sem P.Gd P.T DEPTH 29 [.d (.list (ns.map .int))] [] = .ok (.d (.bool true)) S' := by
  intro ns hns
  obtain ⟨v, S', e, rfl⟩ := r_law (n := DEPTH) (by decide) ns hns
  exact ⟨S', e⟩
end HT
end

section
set_option Elab.async false
set_option linter.all false
set_option maxRecDepth 100000
set_option maxHeartbeats 0
open PySem PySem.W PySem.Calls PyProof.Rows in
theorem PySem.Challenge.cw_talehouse_k82_whole_rows_and_sums_holds : PySem.Challenge.rw_talehouse_k82_whole_rows_and_sums.Holds := by
  w_on; o_law
  refine HandSHeadRun.head_any (r := OpenLaw.row PySem.Challenge.rw_talehouse_k82_whole_rows_and_sums) (q := view (OpenLaw.row PySem.Challenge.rw_talehouse_k82_whole_rows_and_sums).prog [45]) (H := HT.hk) (ob := HT.ob) (M := 3000) (loose := HT.loose) (d := HandSHeadRun.topDef (OpenLaw.row PySem.Challenge.rw_talehouse_k82_whole_rows_and_sums).prog 45) (kwd := []) HT.ob_eq
    (by kernel_rfl) (fun s => by kernel_rfl) HT.run (by kernel_rfl) (by kernel_rfl) (by kernel_rfl) (by rfl) (by first | assumption | decide +kernel) (by decide +kernel) ⟨rfl, rfl, rfl, rfl, rfl, by decide +kernel⟩ ?hw ?hc
  case hw => w_witness2
  case hc => exact Ev.Pd.walk (k := 29) (m := HT.DEPTH) (x := "script") (dn := HT.d_law) HT.okP rfl (by decide) (by kernel_rfl) ⟨rfl, by decide, by decide⟩ rfl rfl (by kernel_rfl) HT.sound
end
